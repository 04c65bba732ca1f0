import PyProof.Rows.All
import HandS.ForMost
import HandS.TupAny
import HandS.Wide
import HandS.IsInst
import HandS.ExcOwn
import HandS.TryOnly
import HandS.More
import HandS.Strs
import KE.SortData
import PyProof.ReprReads
import PyProof.ReprBulk
import PyProof.ReprRoads
import HandS.WordsDict
import HandS.TupLen
import KE.GoesMore
import HandS.Small
import HandS.Ends
import HandS.HeadEnd
import HandS.HeadHook1
import HandS.HeadHook2
import HandS.HeadHook3
import HandS.Head0
import HandS.Head1
import HandS.Head2
import PySem.Challenge.RW_turnpaper_k06_whole_binders
set_option Elab.async false
set_option linter.all false
set_option maxRecDepth 100000
set_option maxHeartbeats 0
/-! My own: a small Python by values: its trees and an evaluator. -/
namespace Mp
open PySem L2

abbrev D := PyData
abbrev En := List (Option D)

/-- an end of something worked out: a value and the names' values; an exception (its class, what it bears); stuck -/
inductive Out (α : Type) where
  | ok (a : α) (e : En)
  | ex (c : Nat) (d : D) (e : En)
  | no
def Out.bind {α β : Type} (x : Out α) (f : α → En → Out β) : Out β := match x with
  | .ok a e => f a e
  | .ex c d e => .ex c d e
  | .no => .no
/-- an exception is no end here -/
def Out.noEx {α : Type} (x : Out α) : Out α := match x with
  | .ok a e => .ok a e
  | _ => .no
@[simp] theorem Out.bind_ok {α β : Type} (a : α) (e : En) (f : α → En → Out β) : (Out.ok a e).bind f = f a e := rfl
@[simp] theorem Out.bind_ex {α β : Type} (c : Nat) (d : D) (e : En) (f : α → En → Out β) : (Out.ex c d e : Out α).bind f = .ex c d e := rfl
@[simp] theorem Out.bind_no {α β : Type} (f : α → En → Out β) : (Out.no : Out α).bind f = .no := rfl
/-- a call's end: the value, the values behind it of the params that it changes -/
inductive Ret where
  | ok (d : D) (os : List D)
  | ex (c : Nat) (d : D) (os : List D)
  | no

inductive Bo where | add | sub | mul | fdiv | mod | pow deriving DecidableEq
inductive Co where | eq | ne | lt | le | gt | ge | isn | nis | in_ | nin deriving DecidableEq
inductive Ty where | int | str | bool | tuple | list | dict deriving DecidableEq
inductive Bf where | len | list | tuple | dict | int | str | repr | sorted | min | max | sum | all | any | abs deriving DecidableEq
inductive Mt where | get | index | count | join | split | partition | items deriving DecidableEq
inductive IK where | seq | rng | enum | zip | rev | revrng | items deriving DecidableEq
inductive Tg where
  | nm (i : Nat)
  | tp (is : List Nat)
  deriving DecidableEq
inductive Ex where
  | var (i : Nat)
  | lit (d : D)
  | glob (g : Nat)
  | tup (es : List Ex)
  | lst (es : List Ex)
  | dic (es : List Ex)
  | bin (o : Bo) (a b : Ex)
  | neg (a : Ex)
  | cmp (o : Co) (a b : Ex)
  | chn (o o' : Co) (a b c : Ex)
  | and (es : List Ex)
  | or (es : List Ex)
  | not (a : Ex)
  | ite (c a b : Ex)
  | idx (a i : Ex)
  | slc (a lo hi : Ex)
  | nil
  | call (f : Nat) (es : List Ex)
  | blt (b : Bf) (es : List Ex)
  | mth (m : Mt) (a : Ex) (es : List Ex)
  | isi (a : Ex) (ts : List Ty)
  | lc (elt : Ex) (tg : Tg) (k : IK) (its : List Ex) (ifs : List Ex) (own : List Nat)
  | pop (i : Nat)
inductive St where
  | set (i : Nat) (e : Ex)
  | setT (is : List Nat) (e : Ex)
  | par (is : List Nat) (es : List Ex)
  | aug (i : Nat) (o : Bo) (e : Ex)
  | put (i : Nat) (k v : Ex)
  | app (i : Nat) (e : Ex)
  | ext (i : Nat) (e : Ex)
  | drop (e : Ex)
  | ite (c : Ex) (t f : List St)
  | for_ (tg : Tg) (k : IK) (its : List Ex) (b : List St)
  | while_ (c : Ex) (b : List St)
  | ret (e : Ex)
  | retR (e : Ex)
  | retN
  | brk
  | cnt
  | pass
inductive Fl where
  | nx | brk | cnt
  | ret (d : D)

/-- what a text is run over: the defs by number, the module's constants by number, which params a def changes, how many turns a while may have -/
structure Px where
  F : Nat → List D → Ret
  G : Nat → D
  io : Nat → List Nat
  wf : Nat

/-! ### operations by values -/
def okLen (n : Nat) : Bool := decide (n ≤ 16777216)
def small64 (i : Int) : Bool := decide (-(2 ^ 64) < i ∧ i < 2 ^ 64)
def bin : Bo → D → D → Option D
  | .add, .int i, .int j => some (.int (i + j))
  | .add, .str x, .str y => if okLen (x.length + y.length) then some (.str (x ++ y)) else none
  | .add, .tuple xs, .tuple ys => if okLen (xs.length + ys.length) then some (.tuple (xs ++ ys)) else none
  | .add, .list xs, .list ys => if okLen (xs.length + ys.length) then some (.list (xs ++ ys)) else none
  | .sub, .int i, .int j => some (.int (i - j))
  | .mul, .int i, .int j => if small64 i || small64 j then some (.int (i * j)) else none
  | .fdiv, .int i, .int j => if decide (0 < j ∧ j < 1073741824) then some (.int (i / j)) else none
  | .mod, .int i, .int j => if decide (0 < j) then some (.int (i % j)) else none
  | .pow, .int i, .int j => if decide (0 ≤ j ∧ j ≤ 1000 ∧ i.natAbs < 2 ^ 64) then some (.int (i ^ j.toNat)) else none
  | _, _, _ => none
/-- no dict within -/
def nd (d : D) : Bool := !d.hasDict
def okEq (a b : D) : Bool := nd a && nd b && decide (min a.depth b.depth ≤ 128)
def isScal : D → Bool
  | .none | .bool _ | .int _ | .str _ => true
  | _ => false
def itemsOf : D → Option (List D)
  | .tuple xs | .list xs => some xs
  | _ => none
def signsOf (x : Str) : List D := x.cps.toList.map fun c => .str ⟨#[c]⟩
def keyOk : D → Bool
  | .str _ | .int _ => true
  | _ => false
def keysOk : D → Bool
  | .tuple xs => xs.all keyOk
  | _ => false
/-- a dict's keys and one more: all ints and texts, or all tuples of such -/
def dictOk (kvs : List (D × D)) (k : D) : Bool := (keyOk k && kvs.all fun kv => keyOk kv.1) || (keysOk k && kvs.all fun kv => keysOk kv.1)
def dget (kvs : List (D × D)) (k : D) : Option D := (kvs.find? fun kv => PyData.eqv kv.1 k).map (·.2)
def dput (kvs : List (D × D)) (k v : D) : List (D × D) :=
  if (kvs.any fun kv => PyData.eqv kv.1 k) then kvs.map fun kv => if PyData.eqv kv.1 k then (kv.1, v) else kv else kvs ++ [(k, v)]
def isIn (x : D) : D → Option Bool
  | .tuple xs => if nd x && xs.all fun y => okEq y x then some (xs.any fun y => PyData.eqv y x) else none
  | .list xs => if nd x && xs.all fun y => okEq y x then some (xs.any fun y => PyData.eqv y x) else none
  | .dict kvs => if dictOk kvs x then some (dget kvs x).isSome else none
  | .str z => match x with
    | .str ⟨#[c]⟩ => some (decide (c ∈ z.cps.toList))
    | _ => none
  | _ => none
def isNone : D → Bool
  | .none => true
  | _ => false
def cmp : Co → D → D → Option Bool
  | .eq, a, b => if okEq a b then some (PyData.eqv a b) else none
  | .ne, a, b => if okEq a b then some (!PyData.eqv a b) else none
  | .lt, .int i, .int j => some (decide (i < j))
  | .le, .int i, .int j => some (decide (i ≤ j))
  | .gt, .int i, .int j => some (decide (j < i))
  | .ge, .int i, .int j => some (decide (j ≤ i))
  | .lt, .str x, .str y => some (decide (x.cps.toList < y.cps.toList))
  | .le, .str x, .str y => some (!decide (y.cps.toList < x.cps.toList))
  | .isn, a, .none => some (isNone a)
  | .nis, a, .none => some (!isNone a)
  | .in_, a, b => isIn a b
  | .nin, a, b => (isIn a b).map (!·)
  | _, _, _ => none
def index : D → D → Option D
  | .tuple xs, .int i => atI xs i
  | .list xs, .int i => atI xs i
  | .str z, .int i => if okLen z.length then (atI z.cps.toList i).map fun c => .str ⟨#[c]⟩ else none
  | .dict kvs, k => if dictOk kvs k then dget kvs k else none
  | _, _ => none
def cut {α : Type} (xs : List α) (lo hi : Option Int) : List α := (xs.drop (HT.sIx xs.length 0 lo)).take (HT.sIx xs.length xs.length hi - HT.sIx xs.length 0 lo)
def slice : D → Option Int → Option Int → Option D
  | .tuple xs, lo, hi => some (.tuple (cut xs lo hi))
  | .list xs, lo, hi => some (.list (cut xs lo hi))
  | .str z, lo, hi => if okLen z.length then some (.str (cutS z lo hi)) else none
  | _, _, _ => none
def pairsOf : List D → Option (List (D × D))
  | [] => some []
  | .tuple [k, v] :: r => if keyOk k then (pairsOf r).map ((k, v) :: ·) else none
  | _ :: _ => none
def boolsOf : List D → Option (List Bool)
  | [] => some []
  | .bool b :: r => (boolsOf r).map (b :: ·)
  | _ :: _ => none
def intsOf : List D → Option (List Int)
  | [] => some []
  | .int b :: r => (intsOf r).map (b :: ·)
  | _ :: _ => none
def strsOf : List D → Option (List Str)
  | [] => some []
  | .str b :: r => (strsOf r).map (b :: ·)
  | _ :: _ => none
def isTy (d : D) : Ty → Bool
  | .int => match d with | .int _ | .bool _ => true | _ => false
  | .str => match d with | .str _ => true | _ => false
  | .bool => match d with | .bool _ => true | _ => false
  | .tuple => match d with | .tuple _ => true | _ => false
  | .list => match d with | .list _ => true | _ => false
  | .dict => match d with | .dict _ => true | _ => false
/-- a list, a tuple whose repr is short enough -/
def reprOk (d : D) : Bool := nd d && PyData.strOk d.shown && d.showable && d.leavesShort 40 && okLen (42 * d.bulk + 40) && decide (d.depth ≤ 128)
def isSeq : D → Bool
  | .tuple _ | .list _ => true
  | _ => false
def isTup1 : D → Bool
  | .tuple (_ :: _) => true
  | _ => false
def noTup : D → Bool
  | .none | .tuple _ => false
  | _ => true
/-- what sorted puts in order: data of one kind place by place, all tuples (with an item) or none -/
def sortOk (xs : List D) : Bool := xs.all (fun x => xs.all fun y => PySem.W.alike x y) && (xs.all isTup1 || xs.all noTup) && xs.all (fun x => nd x && decide (x.depth ≤ 128)) && okLen xs.length
def sortD (xs : List D) : List D := xs.mergeSort (PySem.W.dataLe false id)
def bf : Bf → List D → Option D
  | .len, [.tuple xs] => some (.int xs.length)
  | .len, [.list xs] => some (.int xs.length)
  | .len, [.str x] => if okLen x.length then some (.int x.length) else none
  | .list, [.tuple xs] => some (.list xs)
  | .list, [.list xs] => some (.list xs)
  | .tuple, [.tuple xs] => some (.tuple xs)
  | .tuple, [.list xs] => some (.tuple xs)
  | .dict, [.dict kvs] => if kvs.all fun kv => keyOk kv.1 then some (.dict kvs) else none
  | .dict, [.list ps] => (pairsOf ps).map fun kvs => .dict (kvs.foldl (fun a kv => dput a kv.1 kv.2) [])
  | .int, [.bool b] => some (.int (if b then 1 else 0))
  | .int, [.int i] => some (.int i)
  | .max, [.int i, .int j] => some (.int (if j > i then j else i))
  | .min, [.int i, .int j] => some (.int (if j < i then j else i))
  | .all, [.list xs] => (boolsOf xs).map fun bs => .bool (bs.all id)
  | .any, [.list xs] => (boolsOf xs).map fun bs => .bool (bs.any id)
  | .sum, [.list xs] => (intsOf xs).map fun is => .int is.sum
  | .sorted, [.list xs] => if sortOk xs then some (.list (sortD xs)) else none
  | .repr, [d] => if isSeq d && reprOk d then some (.str d.shown) else none
  | _, _ => none
/-- a method's built-in, by the receiver's kind -/
def mtId : Mt → D → Option String
  | .get, .dict _ => some "dict.get"
  | .index, .tuple _ => some "tuple.index"
  | .index, .list _ => some "list.index"
  | _, _ => none
/-- the first place of an equal item -/
def indexOf (xs : List D) (x : D) : Option D := if okLen xs.length && nd x && xs.all fun y => okEq y x then (xs.findIdx? fun y => PyData.eqv y x).map fun (i : Nat) => .int i else none
def mt : Mt → D → List D → Option D
  | .get, .dict kvs, [k] => if dictOk kvs k then some ((dget kvs k).getD .none) else none
  | .get, .dict kvs, [k, d] => if dictOk kvs k then some ((dget kvs k).getD d) else none
  | .index, .tuple xs, [x] => indexOf xs x
  | .index, .list xs, [x] => indexOf xs x
  | .join, .str z, [.list xs] => (strsOf xs).bind fun ys => if okLen ((ys.map (·.length)).sum + ys.length * z.length) then some (.str (Txt.join z ys)) else none
  | _, _, _ => none

/-! ### names -/
def setE (e : En) (i : Nat) (d : D) : En := e.set i (some d)
def wipeE (e : En) (is : List Nat) : En := is.foldl (fun e i => e.set i none) e
/-- a block's own names as they stood ahead of it -/
def backE (e0 : En) (is : List Nat) (e : En) : En := is.foldl (fun e i => e.set i (e0[i]?.getD none)) e
def assignAll : List Nat → List D → En → Option En
  | [], [], e => some e
  | i :: is, d :: ds, e => assignAll is ds (setE e i d)
  | _, _, _ => none
def assign : Tg → D → En → Option En
  | .nm i, d, e => some (setE e i d)
  | .tp is, .tuple ds, e => assignAll is ds e
  | .tp _, _, _ => none
def slotOf : Ex → Option Nat
  | .var i => some i
  | _ => none
/-- what can be changed -/
def isMut : D → Bool
  | .list _ => true
  | .dict _ => true
  | _ => false
/-- ahead of a call: what it changes, as it stands now -/
def rereadIo : List Nat → List Ex → List D → En → Option (List D)
  | [], _, ds, _ => some ds
  | p :: ps, es, ds, e => match es[p]?.bind slotOf with
    | some i => match e[i]?.getD none with
      | some d => if isMut d then rereadIo ps es (ds.set p d) e else none
      | none => none
    | none => none
/-- behind a call: the params at the places ps got the values os -/
def putIo : List Nat → List Ex → List D → En → Option En
  | [], _, [], e => some e
  | p :: ps, es, o :: os, e => match (es[p]?.bind slotOf) with
    | some i => putIo ps es os (setE e i o)
    | none => none
  | _, _, _, _ => none
/-- what is walked -/
def itemsK : IK → List D → Option (List D)
  | .seq, [.tuple xs] => some xs
  | .seq, [.list xs] => some xs
  | .seq, [.str x] => some (signsOf x)
  | .rng, [.int n] => if decide (-(2 ^ 62) ≤ n ∧ n < 2 ^ 62) then some ((List.range n.toNat).map fun (i : Nat) => .int i) else none
  | .rng, [.int a, .int b] => if decide (-(2 ^ 62) ≤ a ∧ a < 2 ^ 62 ∧ -(2 ^ 62) ≤ b ∧ b < 2 ^ 62) then some ((List.range (b - a).toNat).map fun (i : Nat) => .int (a + i)) else none
  | .enum, [.list xs] => some (xs.zipIdx.map fun p => .tuple [.int p.2, p.1])
  | .enum, [.tuple xs] => some (xs.zipIdx.map fun p => .tuple [.int p.2, p.1])
  | _, _ => none
def flt : Option D → List D → List D
  | none, ds => ds
  | some d, ds => d :: ds
/-- a comprehension's turns -/
def loopC (step : D → En → Out (Option D)) : List D → En → Out (List D)
  | [], e => .ok [] e
  | d :: ds, e => (step d e).bind fun o e1 => (loopC step ds e1).bind fun r e2 => .ok (flt o r) e2
/-- a for's turns -/
def loopF (tg : Tg) (body : En → Out Fl) : List D → En → Out Fl
  | [], e => .ok .nx e
  | d :: ds, e => match assign tg d e with
    | none => .no
    | some e1 => (body e1).bind fun f e2 => match f with
      | .nx => loopF tg body ds e2
      | .cnt => loopF tg body ds e2
      | .brk => .ok .nx e2
      | .ret v => .ok (.ret v) e2
/-- a while's turns -/
def loopW (c : En → Out D) (body : En → Out Fl) : Nat → En → Out Fl
  | 0, _ => .no
  | n + 1, e => (c e).bind fun b e1 => match b with
    | .bool true => (body e1).bind fun f e2 => match f with
      | .nx => loopW c body n e2
      | .cnt => loopW c body n e2
      | .brk => .ok .nx e2
      | .ret v => .ok (.ret v) e2
    | .bool false => .ok .nx e1
    | _ => .no
def lift (o : Option D) (e : En) : Out D := match o with
  | some d => .ok d e
  | none => .no
def liftB (o : Option Bool) (e : En) : Out D := match o with
  | some b => .ok (.bool b) e
  | none => .no
def onBool {α : Type} (d : D) (t f : Out α) : Out α := match d with
  | .bool true => t
  | .bool false => f
  | _ => .no
def optInt : D → Option (Option Int)
  | .none => some none
  | .int i => some (some i)
  | _ => none

def pairUp : List D → Option (List (D × D))
  | [] => some []
  | k :: v :: r => if keyOk k then (pairUp r).map ((k, v) :: ·) else none
  | _ => none
/-- a display of a dict: keys and values in turn -/
def dispD (ds : List D) : Option D := (pairUp ds).bind fun kvs => if decide (kvs.length ≤ 15) then some (.dict (kvs.foldl (fun a kv => dput a kv.1 kv.2) [])) else none

/-! ### the evaluator -/
mutual
def ev (P : Px) : Ex → En → Out D
  | .var i, e => lift (e[i]?.getD none) e
  | .lit d, e => .ok d e
  | .glob g, e => .ok (P.G g) e
  | .tup es, e => (evs P es e).bind fun ds e1 => if okLen ds.length then .ok (.tuple ds) e1 else .no
  | .lst es, e => (evs P es e).bind fun ds e1 => if okLen ds.length then .ok (.list ds) e1 else .no
  | .dic es, e => (evs P es e).bind fun ds e1 => lift (dispD ds) e1
  | .bin o a b, e => (ev P a e).bind fun x e1 => (ev P b e1).bind fun y e2 => lift (bin o x y) e2
  | .neg a, e => (ev P a e).bind fun x e1 => match x with
    | .int i => .ok (.int (-i)) e1
    | _ => .no
  | .cmp o a b, e => (ev P a e).bind fun x e1 => (ev P b e1).bind fun y e2 => liftB (cmp o x y) e2
  | .chn o o' a b c, e => (ev P a e).bind fun x e1 => (ev P b e1).bind fun y e2 => match cmp o x y with
    | some true => (ev P c e2).bind fun z e3 => liftB (cmp o' y z) e3
    | some false => .ok (.bool false) e2
    | none => .no
  | .and es, e => evAnd P es e
  | .or es, e => evOr P es e
  | .not a, e => (ev P a e).bind fun x e1 => match x with
    | .bool b => .ok (.bool (!b)) e1
    | _ => .no
  | .ite c a b, e => (ev P c e).bind fun x e1 => onBool x (ev P a e1) (ev P b e1)
  | .idx a i, e => (ev P a e).bind fun x e1 => (ev P i e1).bind fun y e2 => lift (index x y) e2
  | .slc a lo hi, e => (ev P a e).bind fun x e1 => (ev P lo e1).bind fun l e2 => match optInt l with
    | none => .no
    | some l => (ev P hi e2).bind fun h e3 => match optInt h with
      | none => .no
      | some h => lift (slice x l h) e3
  | .nil, e => .ok .none e
  | .call f es, e => (evs P es e).bind fun ds0 e1 => match rereadIo (P.io f) es ds0 e1 with
    | none => .no
    | some ds => match P.F f ds with
      | .ok d os => match putIo (P.io f) es os e1 with
        | some e2 => .ok d e2
        | none => .no
      | .ex c d os => match putIo (P.io f) es os e1 with
        | some e2 => .ex c d e2
        | none => .no
      | .no => .no
  | .blt b es, e => (evs P es e).bind fun ds e1 => lift (bf b ds) e1
  | .mth m a es, e => (ev P a e).bind fun x e1 => if (mtId m x).isSome then (evs P es e1).bind fun ds e2 => lift (mt m x ds) e2 else .no
  | .isi a ts, e => (ev P a e).bind fun x e1 => .ok (.bool (ts.any (isTy x))) e1
  | .lc elt tg k its ifs own, e => (evs P its e).bind fun ds e1 => match itemsK k ds with
    | some items => (Out.noEx (loopC (fun d e => match assign tg d e with
        | none => .no
        | some e2 => (evAnd P ifs e2).bind fun b e3 => onBool b ((ev P elt e3).bind fun v e4 => .ok (some v) (wipeE e4 own)) (.ok none (wipeE e3 own))) items (wipeE e1 own))).bind fun vs e5 =>
          if okLen vs.length then .ok (.list vs) (backE e1 own e5) else .no
    | none => .no
  | .pop i, e => match e[i]?.getD none with
    | some (.list xs) => match xs.getLast? with
      | some x => .ok x (setE e i (.list xs.dropLast))
      | none => .no
    | _ => .no
def evs (P : Px) : List Ex → En → Out (List D)
  | [], e => .ok [] e
  | a :: as, e => (ev P a e).bind fun x e1 => (evs P as e1).bind fun xs e2 => .ok (x :: xs) e2
def evAnd (P : Px) : List Ex → En → Out D
  | [], e => .ok (.bool true) e
  | a :: as, e => (ev P a e).bind fun x e1 => onBool x (evAnd P as e1) (.ok (.bool false) e1)
def evOr (P : Px) : List Ex → En → Out D
  | [], e => .ok (.bool false) e
  | a :: as, e => (ev P a e).bind fun x e1 => onBool x (.ok (.bool true) e1) (evOr P as e1)
end
def putOp (d k v : D) : Option D := match d with
  | .list xs => match k with
    | .int i => (ixN xs.length i).map fun j => .list (xs.set j v)
    | _ => none
  | .dict kvs => if keyOk k && (kvs.all fun kv => keyOk kv.1) && okLen (kvs.length + 1) then some (.dict (dput kvs k v)) else none
  | _ => none
def atSlot (e : En) (i : Nat) (f : D → Option D) : Out Fl := match e[i]?.getD none with
  | some d => match f d with
    | some d' => .ok .nx (setE e i d')
    | none => .no
  | none => .no
def mutAt (e : En) (i : Nat) : Bool := match e[i]?.getD none with
  | some d => isMut d
  | none => false
def listAt (e : En) (i : Nat) : Bool := match e[i]?.getD none with
  | some (.list _) => true
  | _ => false
def appOp (v : D) : D → Option D
  | .list xs => if okLen (xs.length + 1) then some (.list (xs ++ [v])) else none
  | _ => none
def extOp (v : D) : D → Option D
  | .list xs => match v with
    | .list ys => if okLen (xs.length + ys.length) then some (.list (xs ++ ys)) else none
    | _ => none
  | _ => none
mutual
def exec (P : Px) : St → En → Out Fl
  | .set i a, e => (ev P a e).bind fun x e1 => .ok .nx (setE e1 i x)
  | .setT is a, e => (ev P a e).bind fun x e1 => match x with
    | .tuple ds => match assignAll is ds e1 with
      | some e2 => .ok .nx e2
      | none => .no
    | _ => .no
  | .par is as, e => (evs P as e).bind fun ds e1 => match assignAll is ds e1 with
    | some e2 => .ok .nx e2
    | none => .no
  | .aug i o a, e => match e[i]?.getD none with
    | some d => (ev P a e).bind fun x e1 => match bin o d x with
      | some z => .ok .nx (setE e1 i z)
      | none => .no
    | none => .no
  | .put i k v, e => (ev P v e).bind fun y e1 => if mutAt e1 i then (ev P k e1).bind fun x e2 => atSlot e2 i fun d => putOp d x y else .no
  | .app i a, e => if listAt e i then (ev P a e).bind fun x e1 => atSlot e1 i (appOp x) else .no
  | .ext i a, e => if listAt e i then (ev P a e).bind fun x e1 => atSlot e1 i (extOp x) else .no
  | .drop a, e => (ev P a e).bind fun _ e1 => .ok .nx e1
  | .ite c t f, e => (ev P c e).bind fun x e1 => onBool x (execs P t e1) (execs P f e1)
  | .for_ tg k its b, e => (evs P its e).bind fun ds e1 => match itemsK k ds with
    | some items => loopF tg (fun e => execs P b e) items e1
    | none => .no
  | .while_ c b, e => loopW (fun e => ev P c e) (fun e => execs P b e) P.wf e
  | .ret a, e => (ev P a e).bind fun x e1 => .ok (.ret x) e1
  | .retR a, e => (Out.noEx (ev P a e)).bind fun x e1 => .ok (.ret x) e1
  | .retN, e => .ok (.ret .none) e
  | .brk, e => .ok .brk e
  | .cnt, e => .ok .cnt e
  | .pass, e => .ok .nx e
def execs (P : Px) : List St → En → Out Fl
  | [], e => .ok .nx e
  | s :: ss, e => (exec P s e).bind fun f e1 => match f with
    | .nx => execs P ss e1
    | f => .ok f e1
end
/-- a def: how many names it has (its params first), how many params, which params it changes, which are lent to it, which names hold what it changes, whether what it hands back is new, its body -/
structure Df where
  n : Nat
  ps : Nat
  io : List Nat
  lv : List Nat
  own : List Nat
  fr : Bool
  body : List St
def iosOf (e : En) : List Nat → Option (List D)
  | [] => some []
  | i :: is => match e[i]?.getD none with
    | some d => (iosOf e is).map (d :: ·)
    | none => none
/-- a def run at values -/
def runDf (P : Px) (f : Df) (ds : List D) : Ret :=
  if ds.length = f.ps ∧ (f.own.all fun i => f.io.contains i || !((ds[i]?.map isMut).getD false)) = true ∧ (f.io.all fun i => (ds[i]?.map isMut).getD false) = true then
    match execs P f.body (ds.map some ++ List.replicate (f.n - ds.length) none) with
    | .ok fl e => match iosOf e f.io with
      | some os => match fl with
        | .nx => .ok .none os
        | .ret d => .ok d os
        | _ => .no
      | none => .no
    | .ex c d e => match iosOf e f.io with
      | some os => .ex c d os
      | none => .no
    | .no => .no
  else .no
/-- the defs of a table, calls at most n deep -/
def run (T : Nat → Option Df) (G : Nat → D) (wf : Nat) : Nat → Nat → List D → Ret
  | 0, _, _ => .no
  | n + 1, f, ds => match T f with
    | some d => runDf ⟨run T G wf n, G, fun g => ((T g).map (·.io)).getD [], wf⟩ d ds
    | none => .no
end Mp

namespace Mp
open PySem PySem.Spec PyProof.Rows L2

/-! ### what a value stands for -/
def kD : Key → D
  | .inl i => .int i
  | .inr x => .str x
def kOk : Key → Prop
  | .inl _ => True
  | .inr x => PyData.strOk x = true
/-- the table of a constant dict: keys that are texts -/
def KTab (K : PySem.W.Frag) (w : World) (a : Addr) (kvs : List (Str × V)) : Prop :=
  kvs.length ≤ sizeLine ∧ (kvs.map (·.1)).Nodup ∧ ∃ es n, KDict K w a es n ∧ Paired (fun (p : Str × V) (e : DictEntry) => ((∃ t, e.key = .str p.1 t) ∧ PyData.strOk p.1 = true) ∧ RelV p.2 e.val) kvs es.toList
/-- a list of the module's own -/
def LK (K : PySem.W.Frag) (a : Addr) (xs : List V) : Prop := ∃ (its : Array Value) (n : Nat), K.lookup a = some { cls := .type "list", data := .seq its n } ∧ its.size ≤ sizeLine ∧ Vals xs its.toList
theorem LK.sq {K : PySem.W.Frag} {H : Hp} {a : Addr} {xs : List V} (h : LK K a xs) : SqL K H a xs := by
  obtain ⟨its, n, e, z, r⟩ := h
  exact .inr ⟨_, its, n, e, rfl, rfl, rfl, z, r⟩
mutual
/-- v stands for d in the heap H; A: the addresses that it doesn't lean on -/
inductive Rep (K : PySem.W.Frag) (w : World) (A : Addr → Prop) (H : Hp) : V → D → Prop
  | non : Rep K w A H .non .none
  | bl (b : Bool) : Rep K w A H (.bl b) (.bool b)
  | int (i : Int) : Rep K w A H (.int i) (.int i)
  | str (x : Str) : PyData.strOk x = true → Rep K w A H (.str x) (.str x)
  | tup {a : Addr} {o : Obj} {xs : List V} {ds : List D} : H a = some (.frz o (.tup xs)) ∧ o.dict = none → ¬ A a → RepAll K w A H xs ds → Rep K w A H (.ref a) (.tuple ds)
  | tupK {a : Addr} {xs : List V} {ds : List D} : (∃ o, K.lookup a = some o ∧ o.dict = none) ∧ SqT K (fun _ => none) a xs → RepAll K w A H xs ds → Rep K w A H (.ref a) (.tuple ds)
  | lst {a : Addr} {xs : List V} {ds : List D} : Rd H a (.lst xs) → ¬ A a → RepAll K w A H xs ds → Rep K w A H (.ref a) (.list ds)
  | lstK {a : Addr} {xs : List V} {ds : List D} : LK K a xs → RepAll K w A H xs ds → Rep K w A H (.ref a) (.list ds)
  | dK {a : Addr} {kvs : List (Key × V)} {ds : List (D × D)} : Rd H a (.dK kvs) → ¬ A a → RepK K w A H kvs ds → Rep K w A H (.ref a) (.dict ds)
  | dT {a : Addr} {kvs : List (List Key × V)} {ds : List (D × D)} : H a = some (.dT kvs) → ¬ A a → RepT K w A H kvs ds → Rep K w A H (.ref a) (.dict ds)
  | dC {a : Addr} {kvs : List (Str × V)} {ds : List (D × D)} : KTab K w a kvs → RepC K w A H kvs ds → Rep K w A H (.ref a) (.dict ds)
inductive RepAll (K : PySem.W.Frag) (w : World) (A : Addr → Prop) (H : Hp) : List V → List D → Prop
  | nil : RepAll K w A H [] []
  | cons {v : V} {vs : List V} {d : D} {ds : List D} : Rep K w A H v d → RepAll K w A H vs ds → RepAll K w A H (v :: vs) (d :: ds)
inductive RepK (K : PySem.W.Frag) (w : World) (A : Addr → Prop) (H : Hp) : List (Key × V) → List (D × D) → Prop
  | nil : RepK K w A H [] []
  | cons {k : Key} {v : V} {vs : List (Key × V)} {d : D} {ds : List (D × D)} : kOk k → Rep K w A H v d → RepK K w A H vs ds → RepK K w A H ((k, v) :: vs) ((kD k, d) :: ds)
inductive RepT (K : PySem.W.Frag) (w : World) (A : Addr → Prop) (H : Hp) : List (List Key × V) → List (D × D) → Prop
  | nil : RepT K w A H [] []
  | cons {k : List Key} {v : V} {vs : List (List Key × V)} {d : D} {ds : List (D × D)} : (∀ x ∈ k, kOk x) → Rep K w A H v d → RepT K w A H vs ds → RepT K w A H ((k, v) :: vs) ((.tuple (k.map kD), d) :: ds)
inductive RepC (K : PySem.W.Frag) (w : World) (A : Addr → Prop) (H : Hp) : List (Str × V) → List (D × D) → Prop
  | nil : RepC K w A H [] []
  | cons {k : Str} {v : V} {vs : List (Str × V)} {d : D} {ds : List (D × D)} : Rep K w A H v d → RepC K w A H vs ds → RepC K w A H ((k, v) :: vs) ((.str k, d) :: ds)
end

section
variable {K : PySem.W.Frag} {w : World} {A A' : Addr → Prop} {H H' : Hp}
/-- from one heap, one set of addresses to another -/
def Goes1 (A A' : Addr → Prop) (H H' : Hp) : Prop := ∀ a o, H a = some o → ¬ A a → H' a = some o ∧ ¬ A' a
theorem Goes1.rd {a : Addr} {u : HO} (g : Goes1 A A' H H') (h : Rd H a u) (n : ¬ A a) : Rd H' a u ∧ ¬ A' a := by
  rcases h with h | ⟨o, h⟩
  · exact ⟨.inl (g a _ h n).1, (g a _ h n).2⟩
  · exact ⟨.inr ⟨o, (g a _ h n).1⟩, (g a _ h n).2⟩
mutual
theorem Rep.go (g : Goes1 A A' H H') : ∀ {v : V} {d : D}, Rep K w A H v d → Rep K w A' H' v d
  | _, _, .non => .non
  | _, _, .bl b => .bl b
  | _, _, .int i => .int i
  | _, _, .str x h => .str x h
  | _, _, .tup h n r => .tup ⟨(g _ _ h.1 n).1, h.2⟩ (g _ _ h.1 n).2 (r.go g)
  | _, _, .tupK h r => .tupK h (r.go g)
  | _, _, .lst h n r => .lst (g.rd h n).1 (g.rd h n).2 (r.go g)
  | _, _, .lstK h r => .lstK h (r.go g)
  | _, _, .dK h n r => .dK (g.rd h n).1 (g.rd h n).2 (r.go g)
  | _, _, .dT h n r => .dT (g _ _ h n).1 (g _ _ h n).2 (r.go g)
  | _, _, .dC h r => .dC h (r.go g)
theorem RepAll.go (g : Goes1 A A' H H') : ∀ {v : List V} {d : List D}, RepAll K w A H v d → RepAll K w A' H' v d
  | _, _, .nil => .nil
  | _, _, .cons r s => .cons (r.go g) (s.go g)
theorem RepK.go (g : Goes1 A A' H H') : ∀ {v : List (Key × V)} {d : List (D × D)}, RepK K w A H v d → RepK K w A' H' v d
  | _, _, .nil => .nil
  | _, _, .cons h r s => .cons h (r.go g) (s.go g)
theorem RepT.go (g : Goes1 A A' H H') : ∀ {v : List (List Key × V)} {d : List (D × D)}, RepT K w A H v d → RepT K w A' H' v d
  | _, _, .nil => .nil
  | _, _, .cons h r s => .cons h (r.go g) (s.go g)
theorem RepC.go (g : Goes1 A A' H H') : ∀ {v : List (Str × V)} {d : List (D × D)}, RepC K w A H v d → RepC K w A' H' v d
  | _, _, .nil => .nil
  | _, _, .cons r s => .cons (r.go g) (s.go g)
end
/-- what isn't in A stands as it stood -/
def Kp (A : Addr → Prop) (H H' : Hp) : Prop := ∀ a o, ¬ A a → H a = some o → H' a = some o
theorem Kp.refl : Kp A H H := fun _ _ _ h => h
theorem Kp.trans {H1 : Hp} (a : Kp A H H1) (b : Kp A H1 H') : Kp A H H' := fun x o n h => b x o n (a x o n h)
theorem Kp.go (k : Kp A H H') : Goes1 A A H H' := fun a o h n => ⟨k a o n h, n⟩
theorem Kp.of_same (s : Same H H') : Kp A H H' := fun a o _ h => s a o h
theorem go_less (h : ∀ a, A' a → A a) : Goes1 A A' H H := fun _ _ e n => ⟨e, fun q => n (h _ q)⟩
def plus (A : Addr → Prop) (p : Addr) : Addr → Prop := fun a => A a ∨ a = p
theorem go_new {p : Addr} (hp : H p = none) : Goes1 A (plus A p) H H := fun a o e n => ⟨e, fun q => q.elim n fun z => by rw [z, hp] at e; cases e⟩

theorem RepAll.length : ∀ {vs : List V} {ds : List D}, RepAll K w A H vs ds → vs.length = ds.length
  | _, _, .nil => rfl
  | _, _, .cons _ s => congrArg Nat.succ s.length
theorem RepAll.get : ∀ {vs : List V} {ds : List D} {i : Nat} {d : D}, RepAll K w A H vs ds → ds[i]? = some d → ∃ v, vs[i]? = some v ∧ Rep K w A H v d
  | _, _, _, _, .nil, h => by simp at h
  | _, _, 0, _, .cons r _, h => by simp at h; subst h; exact ⟨_, rfl, r⟩
  | _, _, i + 1, _, .cons _ s, h => by
    obtain ⟨v, e, r⟩ := s.get (i := i) (by simpa using h)
    exact ⟨v, by simpa using e, r⟩
theorem RepAll.append : ∀ {vs us : List V} {ds es : List D}, RepAll K w A H vs ds → RepAll K w A H us es → RepAll K w A H (vs ++ us) (ds ++ es)
  | _, _, _, _, .nil, s => s
  | _, _, _, _, .cons r t, s => .cons r (t.append s)
theorem RepAll.take : ∀ {vs : List V} {ds : List D} (n : Nat), RepAll K w A H vs ds → RepAll K w A H (vs.take n) (ds.take n)
  | _, _, 0, _ => .nil
  | _, _, _ + 1, .nil => .nil
  | _, _, n + 1, .cons r t => .cons r (t.take n)
theorem RepAll.drop : ∀ {vs : List V} {ds : List D} (n : Nat), RepAll K w A H vs ds → RepAll K w A H (vs.drop n) (ds.drop n)
  | _, _, 0, r => r
  | _, _, _ + 1, .nil => .nil
  | _, _, n + 1, .cons _ t => t.drop n
theorem RepAll.set {v : V} {d : D} (r : Rep K w A H v d) : ∀ {vs : List V} {ds : List D} (i : Nat), RepAll K w A H vs ds → RepAll K w A H (vs.set i v) (ds.set i d)
  | _, _, _, .nil => .nil
  | _, _, 0, .cons _ t => .cons r t
  | _, _, i + 1, .cons q t => .cons q (RepAll.set r i t)
theorem RepAll.dropLast {vs : List V} {ds : List D} (r : RepAll K w A H vs ds) : RepAll K w A H vs.dropLast ds.dropLast := by
  rw [List.dropLast_eq_take, List.dropLast_eq_take, r.length]
  exact r.take _

/-! ### data without dicts, as the library reads it -/
mutual
theorem Rep.dp : ∀ {v : V} {d : D}, Rep K w A H v d → d.hasDict = false → Dp K H v d
  | _, _, .non, _ => .non
  | _, _, .bl b, _ => .bl b
  | _, _, .int i, _ => .int i
  | _, _, .str x _, _ => .str x
  | _, _, .tup h _ r, e => .tup (.inl (.inr ⟨_, h.1⟩)) (r.dp (by simpa [PyData.hasDict] using e))
  | _, _, .tupK h r, e => .tup (h.2.elim (fun z => by rcases z with z | ⟨_, z⟩ <;> cases z) .inr) (r.dp (by simpa [PyData.hasDict] using e))
  | _, _, .lst h _ r, e => .lst (.inl h) (r.dp (by simpa [PyData.hasDict] using e))
  | _, _, .lstK h r, e => .lst h.sq (r.dp (by simpa [PyData.hasDict] using e))
  | _, _, .dK _ _ _, e => by simp [PyData.hasDict] at e
  | _, _, .dT _ _ _, e => by simp [PyData.hasDict] at e
  | _, _, .dC _ _, e => by simp [PyData.hasDict] at e
theorem RepAll.dp : ∀ {v : List V} {d : List D}, RepAll K w A H v d → PyData.hasDictAll d = false → DpAll K H v d
  | _, _, .nil, _ => .nil
  | _, _, .cons r s, e => by
    simp only [PyData.hasDictAll, Bool.or_eq_false_iff] at e
    have e' := e
    exact .cons (r.dp e'.1) (s.dp e'.2)
end
mutual
theorem Rep.lay : ∀ {v : V} {d : D}, Rep K w A H v d → d.hasDict = false → d.canLay0 = true
  | _, _, .non, _ => by simp only [PyData.canLay0]
  | _, _, .bl b, _ => by simp only [PyData.canLay0]
  | _, _, .int i, _ => by simp only [PyData.canLay0]
  | _, _, .str x h, _ => by simpa only [PyData.canLay0] using h
  | _, _, .tup h _ r, e => by
    simp only [PyData.canLay0]; exact r.lay (by simpa [PyData.hasDict] using e)
  | _, _, .tupK h r, e => by
    simp only [PyData.canLay0]; exact r.lay (by simpa [PyData.hasDict] using e)
  | _, _, .lst h _ r, e => by
    simp only [PyData.canLay0]; exact r.lay (by simpa [PyData.hasDict] using e)
  | _, _, .lstK h r, e => by
    simp only [PyData.canLay0]; exact r.lay (by simpa [PyData.hasDict] using e)
  | _, _, .dK _ _ _, e => by simp [PyData.hasDict] at e
  | _, _, .dT _ _ _, e => by simp [PyData.hasDict] at e
  | _, _, .dC _ _, e => by simp [PyData.hasDict] at e
theorem RepAll.lay : ∀ {v : List V} {d : List D}, RepAll K w A H v d → PyData.hasDictAll d = false → PyData.canLayAll0 d = true
  | _, _, .nil, _ => by simp only [PyData.canLayAll0]
  | _, _, .cons r s, e => by
    simp only [PyData.hasDictAll, Bool.or_eq_false_iff] at e
    have e' := e
    simp only [PyData.canLayAll0, r.lay e'.1, s.lay e'.2, Bool.and_self]
end

/-! ### what can be changed: a list, a dict at its own address -/
def Root (K : PySem.W.Frag) (w : World) (A : Addr → Prop) (H : Hp) (a : Addr) (d : D) : Prop :=
  (∃ xs ds, d = .list ds ∧ H a = some (.lst xs) ∧ RepAll K w A H xs ds) ∨
  (∃ kvs ds, d = .dict ds ∧ H a = some (.dK kvs) ∧ RepK K w A H kvs ds) ∨
  (∃ kvs ds, d = .dict ds ∧ H a = some (.dT kvs) ∧ RepT K w A H kvs ds ∧ ds ≠ [])
theorem Root.mut {a : Addr} {d : D} (r : Root K w A H a d) : isMut d = true := by
  rcases r with ⟨_, _, rfl, _⟩ | ⟨_, _, rfl, _⟩ | ⟨_, _, rfl, _⟩ <;> rfl
theorem Root.trk {a : Addr} {d : D} (r : Root K w A H a d) : H a ≠ none := by
  rcases r with ⟨_, _, _, h, _⟩ | ⟨_, _, _, h, _⟩ | ⟨_, _, _, h, _⟩ <;> rw [h] <;> simp
theorem Root.go {a : Addr} {d : D} (g : Goes1 A A' H H') (ha : H a = H' a) (r : Root K w A H a d) : Root K w A' H' a d := by
  rcases r with ⟨xs, ds, e, h, q⟩ | ⟨xs, ds, e, h, q⟩ | ⟨xs, ds, e, h, q⟩
  · exact .inl ⟨xs, ds, e, ha ▸ h, q.go g⟩
  · exact .inr (.inl ⟨xs, ds, e, ha ▸ h, q.go g⟩)
  · exact .inr (.inr ⟨xs, ds, e, ha ▸ h, q.1.go g, q.2⟩)
theorem Root.rep {a : Addr} {d : D} (n : ¬ A a) (r : Root K w A H a d) : Rep K w A H (.ref a) d := by
  rcases r with ⟨xs, ds, rfl, h, q⟩ | ⟨xs, ds, rfl, h, q⟩ | ⟨xs, ds, rfl, h, q⟩
  · exact .lst (.inl h) n q
  · exact .dK (.inl h) n q
  · exact .dT h n q.1
/-- a value that may be lent: it stands for d, or is the root of a list, of a dict of the def's own -/
def RepR (K : PySem.W.Frag) (w : World) (A : Addr → Prop) (H : Hp) (v : V) (d : D) : Prop := Rep K w A H v d ∨ ∃ a, v = .ref a ∧ Root K w A H a d
def noA : Addr → Prop := fun _ => False
theorem RepR.any {v : V} {d : D} (r : RepR K w A H v d) : Rep K w noA H v d := by
  have g : Goes1 A noA H H := go_less fun _ z => z.elim
  rcases r with r | ⟨a, rfl, r⟩
  · exact r.go g
  · exact (r.go g rfl).rep fun z => z
end
end Mp

namespace Mp
open PySem PySem.Spec PyProof.Rows L2

/-- what stays through a body: the heap at its entry, the addresses that its args avoid, the params that it changes (slot, address), the slots that hold what it may change -/
structure Cb where
  K : PySem.W.Frag
  w : World
  H0 : Hp
  A0 : Addr → Prop
  io : List (Nat × Addr)
  own : List Nat
  xc : Nat → Addr
  lnt : List (Nat × V × D)
  fz : Addr → Prop
abbrev Ow := Nat → Option Addr
def Av (C : Cb) (O : Ow) (B : Addr → Prop) : Addr → Prop := fun a => C.A0 a ∨ (∃ i, O i = some a) ∨ B a
def Slot (C : Cb) (O : Ow) (B : Addr → Prop) (σ : L2.St) (H : Hp) (i : Nat) (d : D) : Prop :=
  (O i = none ∧ ∃ v, σ[i]? = some (some v) ∧ Rep C.K C.w (Av C O B) H v d) ∨ (∃ a, O i = some a ∧ σ[i]? = some (some (.ref a)) ∧ Root C.K C.w (Av C O B) H a d)
/-- what is lent to a slot: a value, or the root of a list, of a dict that nobody changes meanwhile -/
def Ln (C : Cb) (O : Ow) (B : Addr → Prop) (H : Hp) (v : V) (d : D) : Prop := Rep C.K C.w (Av C O B) H v d ∨ ∃ a, v = .ref a ∧ Root C.K C.w (Av C O B) H a d ∧ C.fz a
structure Lnt (C : Cb) (O : Ow) (B : Addr → Prop) (σ : L2.St) (H : Hp) (e : En) : Prop where
  at_ : ∀ p ∈ C.lnt, e[p.1]? = some (some p.2.2) ∧ σ[p.1]? = some (some p.2.1) ∧ O p.1 = none ∧ p.1 ∉ C.own ∧ Ln C O B H p.2.1 p.2.2
  fz : ∀ a, C.fz a → H a ≠ none ∧ (∀ i, O i ≠ some a) ∧ C.A0 a
theorem Lnt.go {C : Cb} {O O' : Ow} {B B' : Addr → Prop} {σ σ' : L2.St} {H H' : Hp} {e e' : En} (L : Lnt C O B σ H e) (g : Goes1 (Av C O B) (Av C O' B') H H') (hf : ∀ a, C.fz a → H a ≠ none → H a = H' a)
    (hO : ∀ i, i ∉ C.own → O i = none → O' i = none) (hn : ∀ a, C.fz a → (∀ i, O i ≠ some a) → ∀ i, O' i ≠ some a) (hσ : ∀ p ∈ C.lnt, p.1 ∉ C.own → σ'[p.1]? = σ[p.1]?) (he : ∀ p ∈ C.lnt, p.1 ∉ C.own → e'[p.1]? = e[p.1]?) : Lnt C O' B' σ' H' e' where
  at_ := fun p hp => by
    obtain ⟨h1, h2, h3, h4, h5⟩ := L.at_ p hp
    refine ⟨(he p hp h4).trans h1, (hσ p hp h4).trans h2, hO _ h4 h3, h4, ?_⟩
    rcases h5 with r | ⟨a, ha, r, f⟩
    · exact .inl (r.go g)
    · exact .inr ⟨a, ha, r.go g (hf a f (L.fz a f).1), f⟩
  fz := fun a h => ⟨by rw [← hf a h (L.fz a h).1]; exact (L.fz a h).1, hn a h (L.fz a h).2.1, (L.fz a h).2.2⟩
/-- the slots hold what e says -/
structure Sim (C : Cb) (O : Ow) (B : Addr → Prop) (σ : L2.St) (H : Hp) (e : En) : Prop where
  len : e.length = σ.length
  keep : ∀ a o, (∀ p ∈ C.io, p.2 ≠ a) → C.H0 a = some o → H a = some o
  slot : ∀ i d, (∀ p ∈ C.lnt, p.1 ≠ i) → e[i]? = some (some d) → Slot C O B σ H i d
  inj : ∀ i j a, O i = some a → O j = some a → i = j
  own : ∀ i a, O i = some a → i ∈ C.own ∧ (C.H0 a = none ∨ (i, a) ∈ C.io)
  chg : ∀ i, i ∈ C.own → ∀ d, e[i]? = some (some d) → isMut d = true → ∃ a, O i = some a
  io : ∀ p ∈ C.io, O p.1 = some p.2
  trk : ∀ a, Av C O B a → H a ≠ none
  BO : ∀ i a, O i = some a → ¬ B a
  a0 : ∀ a, C.A0 a → C.H0 a ≠ none
  ln : Lnt C O B σ H e
section
variable {C : Cb} {O O' : Ow} {B B' : Addr → Prop} {σ σ' : L2.St} {H H1 H2 H' : Hp} {e e' : En} {p : Addr}
theorem Same.of_trk (s : Same H H') {a : Addr} (h : H a ≠ none) : H a = H' a := by
  cases q : H a with
  | none => exact absurd q h
  | some o => exact (s a o q).symm
/-- more stands in the heap -/
theorem Sim.more (S : Sim C O B σ H e) (s : Same H H') : Sim C O B σ H' e where
  len := S.len
  keep := fun a o h1 h2 => s a o (S.keep a o h1 h2)
  slot := fun i d nl h => by
    rcases S.slot i d nl h with ⟨h1, v, h2, h3⟩ | ⟨a, h1, h2, h3⟩
    · exact .inl ⟨h1, v, h2, h3.go (Kp.of_same s).go⟩
    · exact .inr ⟨a, h1, h2, h3.go (Kp.of_same s).go (Same.of_trk s h3.trk)⟩
  inj := S.inj
  own := S.own
  chg := S.chg
  io := S.io
  trk := fun a h => by
    have := S.trk a h
    rwa [← Same.of_trk s this]
  BO := S.BO
  a0 := S.a0
  ln := S.ln.go (Kp.of_same s).go (fun a _ h => Same.of_trk s h) (fun _ _ h => h) (fun _ _ h => h) (fun _ _ _ => rfl) (fun _ _ _ => rfl)
theorem Av_plus (a : Addr) : Av C O (plus B p) a ↔ plus (Av C O B) p a := by
  unfold Av plus
  constructor
  · rintro (h | h | h | h)
    · exact .inl (.inl h)
    · exact .inl (.inr (.inl h))
    · exact .inl (.inr (.inr h))
    · exact .inr h
  · rintro ((h | h | h) | h)
    · exact .inl h
    · exact .inr (.inl h)
    · exact .inr (.inr (.inl h))
    · exact .inr (.inr (.inr h))
theorem go_plus : Goes1 (plus (Av C O B) p) (Av C O (plus B p)) H H := go_less fun a h => (Av_plus a).mp h
theorem go_plus' : Goes1 (Av C O (plus B p)) (plus (Av C O B) p) H H := go_less fun a h => (Av_plus a).mpr h
theorem go_unplus : Goes1 (plus (Av C O B) p) (Av C O B) H H := go_less fun a h => .inl h
theorem go_unplus' : Goes1 (Av C O (plus B p)) (Av C O B) H H := go_less fun a h => (Av_plus a).mpr (.inl h)
/-- a new object is kept apart -/
theorem Sim.new (S : Sim C O B σ H e) (s : Same H H') (hp : H p = none) (hp' : H' p ≠ none) : Sim C O (plus B p) σ H' e where
  len := S.len
  keep := fun a o h1 h2 => s a o (S.keep a o h1 h2)
  slot := fun i d nl h => by
    have g : Goes1 (Av C O B) (Av C O (plus B p)) H H' := fun a o e n => ⟨s a o e, fun q => ((Av_plus a).mp q).elim n fun z => by rw [z, hp] at e; cases e⟩
    rcases S.slot i d nl h with ⟨h1, v, h2, h3⟩ | ⟨a, h1, h2, h3⟩
    · exact .inl ⟨h1, v, h2, h3.go g⟩
    · exact .inr ⟨a, h1, h2, h3.go g (Same.of_trk s h3.trk)⟩
  inj := S.inj
  own := S.own
  chg := S.chg
  io := S.io
  trk := fun a h => by
    rcases (Av_plus a).mp h with h | h
    · have := S.trk a h
      rwa [← Same.of_trk s this]
    · rw [h]; exact hp'
  BO := fun i a h q => q.elim (S.BO i a h) fun z => S.trk a (.inr (.inl ⟨i, h⟩)) (z ▸ hp)
  a0 := S.a0
  ln := S.ln.go (fun a o e n => ⟨s a o e, fun q => ((Av_plus a).mp q).elim n fun z => by rw [z, hp] at e; cases e⟩) (fun a _ h => Same.of_trk s h) (fun _ _ h => h) (fun _ _ h => h) (fun _ _ _ => rfl) (fun _ _ _ => rfl)
/-- what was kept apart is not any more -/
theorem Sim.less (S : Sim C O B σ H e) (h : ∀ a, B' a → B a) : Sim C O B' σ H e where
  len := S.len
  keep := S.keep
  slot := fun i d nl q => by
    have g : Goes1 (Av C O B) (Av C O B') H H := go_less fun a z => z.elim .inl fun z => z.elim (fun z => .inr (.inl z)) fun z => .inr (.inr (h a z))
    rcases S.slot i d nl q with ⟨h1, v, h2, h3⟩ | ⟨a, h1, h2, h3⟩
    · exact .inl ⟨h1, v, h2, h3.go g⟩
    · exact .inr ⟨a, h1, h2, h3.go g rfl⟩
  inj := S.inj
  own := S.own
  chg := S.chg
  io := S.io
  trk := fun a q => S.trk a (q.elim .inl fun z => z.elim (fun z => .inr (.inl z)) fun z => .inr (.inr (h a z)))
  BO := fun i a q z => S.BO i a q (h a z)
  a0 := S.a0
  ln := S.ln.go (go_less fun a z => z.elim .inl fun z => z.elim (fun z => .inr (.inl z)) fun z => .inr (.inr (h a z))) (fun _ _ _ => rfl) (fun _ _ h => h) (fun _ _ h => h) (fun _ _ _ => rfl) (fun _ _ _ => rfl)
theorem Sim.unplus (S : Sim C O (plus B p) σ H e) : Sim C O B σ H e := S.less fun _ h => .inl h
theorem setE_get {e : En} {i j : Nat} {d x : D} (h : (setE e i d)[j]? = some (some x)) : (j = i ∧ x = d) ∨ (j ≠ i ∧ e[j]? = some (some x)) := by
  unfold setE at h
  by_cases hj : i = j
  · subst hj
    rw [List.getElem?_set] at h
    split at h
    · split at h
      · exact .inl ⟨rfl, (Option.some.inj (Option.some.inj h)).symm⟩
      · cases h
    · exact absurd rfl ‹¬ _›
  · rw [List.getElem?_set_ne hj] at h
    exact .inr ⟨Ne.symm hj, h⟩
theorem setE_lt {e : En} {i : Nat} {d x : D} (h : (setE e i d)[i]? = some (some x)) : i < e.length := by
  unfold setE at h
  obtain ⟨q, _⟩ := List.getElem?_eq_some_iff.mp h
  simpa using q
theorem set_at {α : Type} {l : List α} {i : Nat} {x : α} (h : i < l.length) : (l.set i x)[i]? = some x := by
  rw [List.getElem?_set_self h]
/-- a plain name is stored -/
theorem Sim.store (S : Sim C O B σ H e) {i : Nat} (hi : i ∉ C.own) (hln : ∀ p ∈ C.lnt, p.1 ≠ i) {v : V} {d : D} (r : Rep C.K C.w (Av C O B) H v d) : Sim C O B (σ.set i (some v)) H (setE e i d) where
  len := by unfold setE; rw [List.length_set, List.length_set]; exact S.len
  keep := S.keep
  slot := fun j x nl h => by
    rcases setE_get h with ⟨rfl, rfl⟩ | ⟨hj, h'⟩
    · have hl := setE_lt h
      have hO : O j = none := by
        cases q : O j with
        | none => rfl
        | some a => exact absurd (S.own j a q).1 hi
      exact .inl ⟨hO, v, set_at (by rw [← S.len]; exact hl), r⟩
    · rcases S.slot j x nl h' with ⟨h1, u, h2, h3⟩ | ⟨a, h1, h2, h3⟩
      · exact .inl ⟨h1, u, by rw [List.getElem?_set_ne (Ne.symm hj)]; exact h2, h3⟩
      · exact .inr ⟨a, h1, by rw [List.getElem?_set_ne (Ne.symm hj)]; exact h2, h3⟩
  inj := S.inj
  own := S.own
  chg := fun j hj x h hm => by
    rcases setE_get h with ⟨rfl, rfl⟩ | ⟨_, h'⟩
    · exact absurd hj hi
    · exact S.chg j hj x h' hm
  io := S.io
  trk := S.trk
  BO := S.BO
  a0 := S.a0
  ln := S.ln.go (fun _ _ h n => ⟨h, n⟩) (fun _ _ _ => rfl) (fun _ _ h => h) (fun _ _ h => h) (fun p hp _ => by rw [List.getElem?_set_ne (Ne.symm (hln p hp))]) (fun p hp _ => by unfold setE; rw [List.getElem?_set_ne (Ne.symm (hln p hp))])
/-- where a slot holds what, now -/
def own1 (O : Ow) (i : Nat) (a : Option Addr) : Ow := fun j => if j = i then a else O j
theorem own1_same {i : Nat} {a : Option Addr} : own1 O i a i = a := if_pos rfl
theorem own1_ne {i j : Nat} {a : Option Addr} (h : j ≠ i) : own1 O i a j = O j := if_neg h
theorem own1_some {i j : Nat} {a : Option Addr} {b : Addr} (h : own1 O i a j = some b) : (j = i ∧ a = some b) ∨ (j ≠ i ∧ O j = some b) := by
  by_cases hj : j = i
  · subst hj; rw [own1_same] at h; exact .inl ⟨rfl, h⟩
  · rw [own1_ne hj] at h; exact .inr ⟨hj, h⟩
/-- an own name gets a new list, a new dict -/
theorem Sim.storeNew (S : Sim C O (plus B p) σ H e) {i : Nat} (hi : i ∈ C.own) (hio : ∀ q ∈ C.io, q.1 ≠ i) (h0 : C.H0 p = none) (hB : ¬ B p) (hO : ∀ j, O j ≠ some p) (hfz : ¬ C.fz p) {d : D} (r : Root C.K C.w (plus (Av C O B) p) H p d) :
    Sim C (own1 O i (some p)) B (σ.set i (some (.ref p))) H (setE e i d) := by
  have g : Goes1 (plus (Av C O B) p) (Av C (own1 O i (some p)) B) H H := go_less fun a h => by
    rcases h with h | ⟨j, h⟩ | h
    · exact .inl (.inl h)
    · rcases own1_some h with ⟨_, h⟩ | ⟨_, h⟩
      · exact .inr (Option.some.inj h).symm
      · exact .inl (.inr (.inl ⟨j, h⟩))
    · exact .inl (.inr (.inr h))
  have g' : Goes1 (Av C O (plus B p)) (Av C (own1 O i (some p)) B) H H := fun a o h1 h2 => g a o h1 fun z => h2 ((Av_plus a).mpr z)
  refine ⟨by unfold setE; rw [List.length_set, List.length_set]; exact S.len, S.keep, fun j x nl h => ?_, fun j k a h1 h2 => ?_, fun j a h => ?_, fun j hj x h hm => ?_, fun q hq => ?_, fun a h => ?_, fun j a h => ?_, S.a0,
    S.ln.go g' (fun _ _ _ => rfl) (fun j hj h => by rw [own1_ne (fun (z : j = i) => hj (by rw [z]; exact hi))]; exact h) (fun a ha h j q => (own1_some q).elim (fun z => hfz (by rw [Option.some.inj z.2]; exact ha)) fun z => h j z.2) (fun q hq hn => by rw [List.getElem?_set_ne (fun (z : i = q.1) => hn (by rw [← z]; exact hi))]) (fun q hq hn => by unfold setE; rw [List.getElem?_set_ne (fun (z : i = q.1) => hn (by rw [← z]; exact hi))])⟩
  · rcases setE_get h with ⟨rfl, rfl⟩ | ⟨hj, h'⟩
    · have hl := setE_lt h
      exact .inr ⟨p, own1_same, set_at (by rw [← S.len]; exact hl), r.go g rfl⟩
    · rcases S.slot j x nl h' with ⟨h1, u, h2, h3⟩ | ⟨a, h1, h2, h3⟩
      · exact .inl ⟨by rw [own1_ne hj]; exact h1, u, by rw [List.getElem?_set_ne (Ne.symm hj)]; exact h2, h3.go g'⟩
      · exact .inr ⟨a, by rw [own1_ne hj]; exact h1, by rw [List.getElem?_set_ne (Ne.symm hj)]; exact h2, h3.go g' rfl⟩
  · rcases own1_some h1 with ⟨e1, q1⟩ | ⟨n1, q1⟩
    · rcases own1_some h2 with ⟨e2, q2⟩ | ⟨n2, q2⟩
      · rw [e1, e2]
      · exact absurd (q2.trans q1.symm) (hO k)
    · rcases own1_some h2 with ⟨e2, q2⟩ | ⟨n2, q2⟩
      · exact absurd (q1.trans q2.symm) (hO j)
      · exact S.inj j k a q1 q2
  · rcases own1_some h with ⟨rfl, q1⟩ | ⟨n1, q1⟩
    · cases q1; exact ⟨hi, .inl h0⟩
    · exact S.own j a q1
  · by_cases q : j = i
    · exact ⟨p, by rw [q, own1_same]⟩
    · rcases setE_get h with ⟨z, _⟩ | ⟨_, h'⟩
      · exact absurd z q
      · obtain ⟨a, ha⟩ := S.chg j hj x h' hm
        exact ⟨a, by rw [own1_ne q]; exact ha⟩
  · rw [own1_ne (hio q hq)]; exact S.io q hq
  · rcases h with h | ⟨j, h⟩ | h
    · exact S.trk a (.inl h)
    · rcases own1_some h with ⟨_, q1⟩ | ⟨_, q1⟩
      · cases q1
        exact S.trk p (.inr (.inr (.inr rfl)))
      · exact S.trk a (.inr (.inl ⟨j, q1⟩))
    · exact S.trk a (.inr (.inr (.inl h)))
  · rcases own1_some h with ⟨_, q1⟩ | ⟨_, q1⟩
    · cases q1; exact hB
    · exact fun z => S.BO j a q1 (.inl z)
/-- an own name gets something that can't be changed -/
theorem Sim.storeOld (S : Sim C O B σ H e) {i : Nat} (hi : i ∈ C.own) (hio : ∀ q ∈ C.io, q.1 ≠ i) {v : V} {d : D} (hm : isMut d = false) (r : Rep C.K C.w (Av C O B) H v d) :
    Sim C (own1 O i none) B (σ.set i (some v)) H (setE e i d) := by
  have g : Goes1 (Av C O B) (Av C (own1 O i none) B) H H := go_less fun a h => by
    rcases h with h | ⟨j, h⟩ | h
    · exact .inl h
    · rcases own1_some h with ⟨_, h⟩ | ⟨_, h⟩
      · cases h
      · exact .inr (.inl ⟨j, h⟩)
    · exact .inr (.inr h)
  refine ⟨by unfold setE; rw [List.length_set, List.length_set]; exact S.len, S.keep, fun j x nl h => ?_, fun j k a h1 h2 => ?_, fun j a h => ?_, fun j hj x h hm' => ?_, fun q hq => ?_, fun a h => ?_, fun j a h => ?_, S.a0,
    S.ln.go g (fun _ _ _ => rfl) (fun j hj h => by rw [own1_ne (fun (z : j = i) => hj (by rw [z]; exact hi))]; exact h) (fun a ha h j q => (own1_some q).elim (fun z => by cases z.2) fun z => h j z.2) (fun q hq hn => by rw [List.getElem?_set_ne (fun (z : i = q.1) => hn (by rw [← z]; exact hi))]) (fun q hq hn => by unfold setE; rw [List.getElem?_set_ne (fun (z : i = q.1) => hn (by rw [← z]; exact hi))])⟩
  · rcases setE_get h with ⟨rfl, rfl⟩ | ⟨hj, h'⟩
    · have hl := setE_lt h
      exact .inl ⟨own1_same, v, set_at (by rw [← S.len]; exact hl), r.go g⟩
    · rcases S.slot j x nl h' with ⟨h1, u, h2, h3⟩ | ⟨a, h1, h2, h3⟩
      · exact .inl ⟨by rw [own1_ne hj]; exact h1, u, by rw [List.getElem?_set_ne (Ne.symm hj)]; exact h2, h3.go g⟩
      · exact .inr ⟨a, by rw [own1_ne hj]; exact h1, by rw [List.getElem?_set_ne (Ne.symm hj)]; exact h2, h3.go g rfl⟩
  · rcases own1_some h1 with ⟨_, q1⟩ | ⟨_, q1⟩
    · cases q1
    · rcases own1_some h2 with ⟨_, q2⟩ | ⟨_, q2⟩
      · cases q2
      · exact S.inj j k a q1 q2
  · rcases own1_some h with ⟨_, q1⟩ | ⟨_, q1⟩
    · cases q1
    · exact S.own j a q1
  · rcases setE_get h with ⟨z, rfl⟩ | ⟨z, h'⟩
    · rw [hm] at hm'; cases hm'
    · obtain ⟨a, ha⟩ := S.chg j hj x h' hm'
      exact ⟨a, by rw [own1_ne z]; exact ha⟩
  · rw [own1_ne (hio q hq)]; exact S.io q hq
  · rcases h with h | ⟨j, h⟩ | h
    · exact S.trk a (.inl h)
    · rcases own1_some h with ⟨_, q1⟩ | ⟨_, q1⟩
      · cases q1
      · exact S.trk a (.inr (.inl ⟨j, q1⟩))
    · exact S.trk a (.inr (.inr h))
  · rcases own1_some h with ⟨_, q1⟩ | ⟨_, q1⟩
    · cases q1
    · exact S.BO j a q1
theorem root_upd {K : PySem.W.Frag} {w : World} {A : Addr → Prop} {a b : Addr} {o : HO} {d : D} (h : b ≠ a) (hA : A a) (r : Root K w A H b d) : Root K w A (upd H a o) b d := by
  have g : Goes1 A A H (upd H a o) := fun x u q n => ⟨by rw [upd_ne (fun z => n (by rw [z]; exact hA))]; exact q, n⟩
  exact r.go g (upd_ne h).symm
theorem rep_upd {K : PySem.W.Frag} {w : World} {A : Addr → Prop} {a : Addr} {o : HO} {v : V} {d : D} (hA : A a) (r : Rep K w A H v d) : Rep K w A (upd H a o) v d :=
  r.go fun x u q n => ⟨by rw [upd_ne (fun z => n (by rw [z]; exact hA))]; exact q, n⟩
/-- what an own name holds is changed -/
theorem Sim.change (S : Sim C O B σ H e) {i : Nat} {a : Addr} (hO : O i = some a) {o : HO} {d d0 : D} (h0 : e[i]? = some (some d0)) (r : Root C.K C.w (Av C O B) (upd H a o) a d) : Sim C O B σ (upd H a o) (setE e i d) := by
  have hA : Av C O B a := .inr (.inl ⟨i, hO⟩)
  have nli : ∀ p ∈ C.lnt, p.1 ≠ i := fun p hp z => by
    have q := (S.ln.at_ p hp).2.2.1
    rw [z, hO] at q; cases q
  have hσ : σ[i]? = some (some (.ref a)) := by
    rcases S.slot i d0 nli h0 with ⟨h1, _⟩ | ⟨b, h1, h2, _⟩
    · rw [hO] at h1; cases h1
    · rw [hO] at h1; cases h1; exact h2
  refine ⟨by unfold setE; rw [List.length_set]; exact S.len, fun b u h1 h2 => ?_, fun j x nl h => ?_, S.inj, S.own, fun j hj x h hm => ?_, S.io, fun b h => ?_, S.BO, S.a0,
    S.ln.go (fun x u q n => ⟨by rw [upd_ne (fun z => n (by rw [z]; exact hA))]; exact q, n⟩) (fun b hb _ => (upd_ne (fun (z : b = a) => (S.ln.fz b hb).2.1 i (by rw [z]; exact hO))).symm) (fun _ _ h => h) (fun _ _ h => h) (fun _ _ _ => rfl) (fun p hp _ => by unfold setE; rw [List.getElem?_set_ne (Ne.symm (nli p hp))])⟩
  · have nb : b ≠ a := fun z => by
      rcases (S.own i a hO).2 with q | q
      · rw [z, q] at h2; cases h2
      · exact h1 _ q z.symm
    rw [upd_ne nb]
    exact S.keep b u h1 h2
  · rcases setE_get h with ⟨rfl, rfl⟩ | ⟨hj, h'⟩
    · exact .inr ⟨a, hO, hσ, r⟩
    · rcases S.slot j x nl h' with ⟨h1, u, h2, h3⟩ | ⟨b, h1, h2, h3⟩
      · exact .inl ⟨h1, u, h2, rep_upd hA h3⟩
      · exact .inr ⟨b, h1, h2, root_upd (fun z => hj (S.inj j i a (z ▸ h1) hO)) hA h3⟩
  · rcases setE_get h with ⟨z, _⟩ | ⟨_, h'⟩
    · exact ⟨a, z ▸ hO⟩
    · exact S.chg j hj x h' hm
  · by_cases hb : b = a
    · rw [hb, upd_same]; simp
    · rw [upd_ne hb]; exact S.trk b h
end
end Mp

namespace Mp
open PySem PySem.Spec PyProof.Rows L2

theorem Sim.h0 {C : Cb} {O : Ow} {B : Addr → Prop} {σ : L2.St} {H : Hp} {e : En} {p : Addr} (S : Sim C O B σ H e) (h : H p = none) : C.H0 p = none := by
  cases q : C.H0 p with
  | none => rfl
  | some o =>
    by_cases z : ∃ r ∈ C.io, r.2 = p
    · obtain ⟨r, hr, rfl⟩ := z
      exact absurd h (S.trk r.2 (.inr (.inl ⟨r.1, S.io r hr⟩)))
    · have := S.keep p o (fun r hr zz => z ⟨r, hr, zz⟩) q
      rw [h] at this; cases this
theorem Sim.notB {C : Cb} {O : Ow} {B : Addr → Prop} {σ : L2.St} {H : Hp} {e : En} {p : Addr} (S : Sim C O B σ H e) (h : H p = none) : ¬ B p := fun z => S.trk p (.inr (.inr z)) h
theorem Sim.notO {C : Cb} {O : Ow} {B : Addr → Prop} {σ : L2.St} {H : Hp} {e : En} {p : Addr} (S : Sim C O B σ H e) (h : H p = none) : ∀ j, O j ≠ some p := fun j z => S.trk p (.inr (.inl ⟨j, z⟩)) h
theorem Sim.notF {C : Cb} {O : Ow} {B : Addr → Prop} {σ : L2.St} {H : Hp} {e : En} {p : Addr} (S : Sim C O B σ H e) (h : H p = none) : ¬ C.fz p := fun z => (S.ln.fz p z).1 h
theorem Sim.notA {C : Cb} {O : Ow} {B : Addr → Prop} {σ : L2.St} {H : Hp} {e : En} {p : Addr} (S : Sim C O B σ H e) (h : H p = none) : ¬ Av C O B p := fun z => S.trk p z h

/-- the addresses that names own -/
def Od (O : Ow) : Addr → Prop := fun a => ∃ i, O i = some a
theorem Kp.av {C : Cb} {O : Ow} {B : Addr → Prop} {H H' : Hp} (k : Kp (Od O) H H') : Kp (Av C O B) H H' := fun a o n h => k a o (fun z => n (.inr (.inl z))) h
/-- how a value is handed on: plain; lent (an own name's list, read only); new (nothing else leans on it) -/
inductive Md where | plain | lent | new
def Val (C : Cb) (O : Ow) (B : Addr → Prop) (σ : L2.St) (md : Md) (H H' : Hp) (v : V) (d : D) (e : En) : Prop := match md with
  | .plain => Sim C O B σ H' e ∧ Rep C.K C.w (Av C O B) H' v d
  | .lent => Sim C O B σ H' e ∧ RepR C.K C.w (Av C O B) H' v d
  | .new => (isMut d = true ∧ ∃ p, v = .ref p ∧ H p = none ∧ Sim C O (plus B p) σ H' e ∧ Root C.K C.w (plus (Av C O B) p) H' p d) ∨ (isMut d = false ∧ Sim C O B σ H' e ∧ Rep C.K C.w (Av C O B) H' v d)
/-- the end of an expression: q tells whether all that stood stands as it stood -/
structure Fin (C : Cb) (O : Ow) (B : Addr → Prop) (σ : L2.St) (md : Md) (q : Bool) (H H' : Hp) (v : V) (d : D) (e : En) : Prop where
  kp : Kp (Od O) H H'
  same : q = true → Same H H'
  val : Val C O B σ md H H' v d e
structure XFin (C : Cb) (O : Ow) (B : Addr → Prop) (σ : L2.St) (H H' : Hp) (c : Nat) (d : D) (cv : Value) (od : Option Addr) (e : En) : Prop where
  kp : Kp (Od O) H H'
  sim : Sim C O B σ H' e
  cls : cv = .ref (C.xc c)
  dat : (d = .none ∧ od = none) ∨ ∃ dx v, od = some dx ∧ H' dx = some (.xd [(("at" : Str), v)]) ∧ Rep C.K C.w (Av C O B) H' v d
/-- an end as it is wanted: okp of a value; an exception as W wants it -/
def EvG {α : Type} (C : Cb) (O : Ow) (B : Addr → Prop) (σ : L2.St) (H : Hp) (W : WX) (okp : α → En → Prop) : Out α → Prop
  | .ok a e => okp a e
  | .ex c d e => ∀ cv od H', XFin C O B σ H H' c d cv od e → W cv od σ H'
  | .no => False
section
variable {C : Cb} {O : Ow} {B : Addr → Prop} {σ : L2.St} {H H1 H2 H' : Hp} {W : WX} {e e1 : En} {md : Md} {q : Bool} {v : V} {d : D}
theorem Val.sim (h : Val C O B σ md H H' v d e) : Sim C O B σ H' e := by
  cases md with
  | plain => exact h.1
  | lent => exact h.1
  | new =>
    rcases h with ⟨_, p, _, _, S, _⟩ | ⟨_, S, _⟩
    · exact S.unplus
    · exact S
theorem Fin.sim (h : Fin C O B σ md q H H' v d e) : Sim C O B σ H' e := h.val.sim
theorem Val.lent (h : Val C O B σ md H H' v d e) (h0 : ∀ p, H p = none → ¬ Av C O B p) : RepR C.K C.w (Av C O B) H' v d := by
  cases md with
  | plain => exact .inl h.2
  | lent => exact h.2
  | new =>
    rcases h with ⟨_, p, rfl, hp, S, r⟩ | ⟨_, S, r⟩
    · exact .inl ((r.go go_unplus rfl).rep (h0 p hp))
    · exact .inl r
theorem Fin.plain (S0 : Sim C O B σ H e) (h : Fin C O B σ .new q H H' v d e1) : Fin C O B σ .plain q H H' v d e1 :=
  ⟨h.kp, h.same, h.sim, by
    rcases h.val with ⟨_, p, rfl, hp, S, r⟩ | ⟨_, S, r⟩
    · exact (r.go go_unplus rfl).rep (S0.notA hp)
    · exact r⟩
theorem Fin.lentOf (S0 : Sim C O B σ H e) (h : Fin C O B σ md q H H' v d e1) : Fin C O B σ .lent q H H' v d e1 := ⟨h.kp, h.same, h.sim, h.val.lent fun p hp => S0.notA hp⟩
theorem EvG.mono {α : Type} {P Q : α → En → Prop} {x : Out α} (h : EvG C O B σ H W P x) (f : ∀ a e, x = .ok a e → P a e → Q a e) : EvG C O B σ H W Q x := by
  cases x with
  | ok a e => exact f a e rfl h
  | ex c d e => exact h
  | no => exact h
/-- a part, behind H1, of what is asked from H on -/
theorem EvG.part {α β : Type} {P : β → En → Prop} {x : Out α} {k : α → En → Out β} (kp : Kp (Od O) H H1) (h : EvG C O B σ H W P (x.bind k)) : EvG C O B σ H1 W (fun a e => x = .ok a e ∧ EvG C O B σ H W P (k a e)) x := by
  cases x with
  | ok a e => exact ⟨rfl, h⟩
  | ex c d e => exact fun cv od H' z => h cv od H' ⟨kp.trans z.kp, z.sim, z.cls, z.dat⟩
  | no => exact h
end
abbrev TEv := D → En → Prop
/-- the reading of an expression: it hands back what the evaluator tells -/
def tE (C : Cb) (P : Px) (W : WX) (md : Md) (q : Bool) (x : Ex) : TE := fun σ H Q => ∃ O B e, Sim C O B σ H e ∧ EvG C O B σ H W (fun d e' => ∀ v H', Fin C O B σ md q H H' v d e' → Q v H') (ev P x e)
/-- as a test -/
def tT (C : Cb) (P : Px) (W : WX) (q : Bool) (x : En → Out D) : TT := fun σ H Q => ∃ O B e, Sim C O B σ H e ∧ EvG C O B σ H W (fun d e' => ∃ b, d = .bool b ∧ ∀ H', Kp (Od O) H H' → (q = true → Same H H') → Sim C O B σ H' e' → Q b H') (x e)
/-- how the args are handed on: as Md; io: the name itself, of what the callee changes -/
inductive Am where | md (m : Md) | io | lv
def ArgIs (C : Cb) (O : Ow) (B : Addr → Prop) (H : Hp) : Am → Ex → V → D → Prop
  | .md .plain, _, v, d => Rep C.K C.w (Av C O B) H v d
  | .md _, _, v, d => RepR C.K C.w (Av C O B) H v d
  | .io, x, v, _ => ∃ i, x = .var i ∧ ∀ a, O i = some a → v = .ref a
  | .lv, x, v, d => Rep C.K C.w (Av C O B) H v d ∨ ∃ i a, x = .var i ∧ v = .ref a ∧ Root C.K C.w (Av C O B) H a d ∧ (O i = some a ∨ C.fz a)
inductive Args (C : Cb) (O : Ow) (B : Addr → Prop) (H : Hp) : List Am → List Ex → List V → List D → Prop
  | nil : Args C O B H [] [] [] []
  | cons {m : Am} {ms : List Am} {x : Ex} {xs : List Ex} {v : V} {vs : List V} {d : D} {ds : List D} : ArgIs C O B H m x v d → Args C O B H ms xs vs ds → Args C O B H (m :: ms) (x :: xs) (v :: vs) (d :: ds)
/-- the reading of an argument list -/
def tA (C : Cb) (P : Px) (W : WX) (ms : List Am) (q : Bool) (xs : List Ex) : TA := fun σ H Q => ∃ O B e, Sim C O B σ H e ∧ EvG C O B σ H W (fun ds e' => ∀ vs H', Kp (Od O) H H' → (q = true → Same H H') → Sim C O B σ H' e' → Args C O B H' ms xs vs ds → Q vs H') (evs P xs e)
def isLent : Am → Bool
  | .lv => true
  | .md .lent => true
  | .md .new => true
  | _ => false
theorem ArgIs.step {C : Cb} {O : Ow} {B : Addr → Prop} {H H' : Hp} {m : Am} {x : Ex} {v : V} {d : D} (k : Kp (Od O) H H') (s : isLent m = true → Same H H') (h : ArgIs C O B H m x v d) : ArgIs C O B H' m x v d := by
  cases m with
  | io => exact h
  | lv =>
    rcases h with r | ⟨i, a, e, e2, r, o⟩
    · exact .inl (r.go k.av.go)
    · exact .inr ⟨i, a, e, e2, r.go k.av.go (Same.of_trk (s rfl) r.trk), o⟩
  | md m =>
    have lent : (isLent (.md m) = true) → RepR C.K C.w (Av C O B) H v d → RepR C.K C.w (Av C O B) H' v d := fun z r => by
      rcases r with r | ⟨a, rfl, r⟩
      · exact .inl (r.go k.av.go)
      · exact .inr ⟨a, rfl, r.go k.av.go (Same.of_trk (s z) r.trk)⟩
    cases m with
    | plain => exact h.go k.av.go
    | lent => exact lent rfl h
    | new => exact lent rfl h

/-! ### weakening of readings -/
theorem pe_imp {X : Cx} {e : Expr} {t t' : TE} (h : PE X e t) (f : ∀ σ H Q, t' σ H Q → t σ H Q) : PE X e t' := ⟨fun pins s σ H Q I z => h.run pins s σ H Q I (f σ H Q z)⟩
theorem pt_imp {X : Cx} {e : Expr} {t t' : TT} (h : PT X e t) (f : ∀ σ H Q, t' σ H Q → t σ H Q) : PT X e t' := ⟨fun pins s σ H Q I z => h.run pins s σ H Q I (f σ H Q z)⟩
theorem pw_imp {X : Cx} {e : Expr} {t t' : TT} (h : PW X e t) (f : ∀ σ H Q, t' σ H Q → t σ H Q) : PW X e t' := ⟨fun wh pins s σ H Q I z => h.run wh pins s σ H Q I (f σ H Q z)⟩
theorem pa_imp {X : Cx} {e : List Expr} {t t' : TA} (h : PA X e t) (f : ∀ σ H Q, t' σ H Q → t σ H Q) : PA X e t' := ⟨fun pos pins s σ H Q I z => h.run pos pins s σ H Q I (f σ H Q z)⟩
theorem ps_imp {X : Cx} {e : Stmt} {t t' : TS} (h : PS X e t) (f : ∀ D σ H, t' D σ H → t D σ H) : PS X e t' := ⟨fun pins s σ H D I z => h.run pins s σ H D I (f D σ H z)⟩
theorem pss_imp {X : Cx} {e : List Stmt} {t t' : TS} (h : PSs X e t) (f : ∀ D σ H, t' D σ H → t D σ H) : PSs X e t' := ⟨fun pins s σ H D I z => h.run pins s σ H D I (f D σ H z)⟩
section
variable {X : Cx} {C : Cb} {P : Px} {W : WX} {md : Md} {q : Bool} {x : Ex} {e : Expr}
theorem tE_plain (h : PE X e (tE C P W .new q x)) : PE X e (tE C P W .plain q x) := pe_imp h fun σ H Q ⟨O, B, en, S, g⟩ => ⟨O, B, en, S, g.mono fun d e' _ k v H' z => k v H' (z.plain S)⟩
theorem tE_lent (h : PE X e (tE C P W md q x)) : PE X e (tE C P W .lent q x) := pe_imp h fun σ H Q ⟨O, B, en, S, g⟩ => ⟨O, B, en, S, g.mono fun d e' _ k v H' z => k v H' (z.lentOf S)⟩
/-- a value that can't be changed is new at once -/
theorem tE_q (h : PE X e (tE C P W md q x)) : PE X e (tE C P W md false x) := pe_imp h fun σ H Q ⟨O, B, en, S, g⟩ => ⟨O, B, en, S, g.mono fun d e' _ k v H' z => k v H' ⟨z.kp, fun z => (by cases z), z.val⟩⟩
end

/-! ### an operation by values -/
/-- f, of lent values that stand for x and y, hands back what g tells; new: nothing else leans on the answer -/
def Op2 (X : Cx) (f : Value → Value → Sem Value) (g : D → D → Option D) (nw : Bool) : Prop :=
  ∀ (A : Addr → Prop) (pins : List (Addr × Obj)) (s : Shared) (σ : L2.St) (H : Hp) (x y : V) (v u : Value) (dx dy d : D) (Q : VK), Inv X pins σ H s → RelV x v → RelV y u → (∀ a, A a → H a ≠ none) →
    RepR X.K X.w A H x dx → RepR X.K X.w A H y dy → g dx dy = some d → (∀ z H', Same H H' → Rep X.K X.w A H' z d → (nw = true → isMut d = true → ∃ p, z = .ref p ∧ H p = none ∧ Root X.K X.w (plus A p) H' p d) → Q z H') →
    wpAny (model X.prog X.w) X.A (f v u) (EP X pins σ Q) X.xe s
/-- .. of one value -/
def Op1 (X : Cx) (f : Value → Sem Value) (g : D → Option D) (nw : Bool) : Prop :=
  ∀ (A : Addr → Prop) (pins : List (Addr × Obj)) (s : Shared) (σ : L2.St) (H : Hp) (x : V) (v : Value) (dx d : D) (Q : VK), Inv X pins σ H s → RelV x v → (∀ a, A a → H a ≠ none) →
    RepR X.K X.w A H x dx → g dx = some d → (∀ z H', Same H H' → Rep X.K X.w A H' z d → (nw = true → isMut d = true → ∃ p, z = .ref p ∧ H p = none ∧ Root X.K X.w (plus A p) H' p d) → Q z H') →
    wpAny (model X.prog X.w) X.A (f v) (EP X pins σ Q) X.xe s
/-- .. of a list of values -/
def OpN (X : Cx) (f : List Value → Sem Value) (g : List D → Option D) (nw : Bool) : Prop :=
  ∀ (A : Addr → Prop) (pins : List (Addr × Obj)) (s : Shared) (σ : L2.St) (H : Hp) (xs : List V) (vs : List Value) (dxs : List D) (d : D) (Q : VK), Inv X pins σ H s → Vals xs vs → (∀ a, A a → H a ≠ none) →
    Paired (RepR X.K X.w A H) xs dxs → g dxs = some d → (∀ z H', Same H H' → Rep X.K X.w A H' z d → (nw = true → isMut d = true → ∃ p, z = .ref p ∧ H p = none ∧ Root X.K X.w (plus A p) H' p d) → Q z H') →
    wpAny (model X.prog X.w) X.A (f vs) (EP X pins σ Q) X.xe s
section
variable {X : Cx} {C : Cb} {P : Px} {W : WX} {md : Md} {q : Bool} {x : Ex} {e : Expr} {O : Ow} {B : Addr → Prop} {σ : L2.St} {H H' : Hp} {d : D} {z : V} {en : En}
/-- the end of an operation on what was worked out -/
theorem fin_op (S : Sim C O B σ H en) (s : Same H H') (r : Rep C.K C.w (Av C O B) H' z d) {nw : Bool} (n : nw = true → isMut d = true → ∃ p, z = .ref p ∧ H p = none ∧ Root C.K C.w (plus (Av C O B) p) H' p d) (hm : md = .new → nw = true) :
    Fin C O B σ md q H H' z d en := by
  refine ⟨Kp.of_same s, fun _ => s, ?_⟩
  cases md with
  | plain => exact ⟨S.more s, r⟩
  | lent => exact ⟨S.more s, .inl r⟩
  | new =>
    cases hd : isMut d with
    | false => exact .inr ⟨hd, S.more s, r⟩
    | true =>
      obtain ⟨p, e1, e2, e3⟩ := n (hm rfl) hd
      exact .inl ⟨hd, p, e1, e2, S.new s e2 e3.trk, e3⟩
/-- .. told from the beginning on -/
theorem Fin.from {H1 : Hp} {q1 q2 : Bool} {e1 e2 : En} {v : V} (S1 : Sim C O B σ H1 e1) (a : Kp (Od O) H H1) (sa : q1 = true → Same H H1) (b : Fin C O B σ md q2 H1 H' v d e2) (hq : q = true → q1 = true ∧ q2 = true) : Fin C O B σ md q H H' v d e2 := by
  refine ⟨a.trans b.kp, fun z => Same.trans (sa (hq z).1) (b.same (hq z).2), ?_⟩
  cases md with
  | plain => exact b.val
  | lent => exact b.val
  | new =>
    rcases b.val with ⟨h1, p, h2, h3, h4, h5⟩ | h
    · refine .inl ⟨h1, p, h2, ?_, h4, h5⟩
      cases z : H p with
      | none => rfl
      | some o =>
        have := a p o (fun q => S1.notO h3 q.choose q.choose_spec) z
        rw [h3] at this; cases this
    · exact .inr h
end
end Mp

/-! Tuples that are made are held as they stand: nobody writes at them, and they have no dict of their own. -/
namespace Mp
open PySem PySem.Spec PyProof.Rows L2
section
variable {X : Cx} {pins : List (Addr × Obj)} {σ : L2.St} {H : Hp} {s : Shared}
theorem laidT {a : Addr} {h' : Heap} {xs : List V} {its : List Value} {t' : Nat} (I : Inv X pins σ H s) (k : ∀ b u, s.heap.get? b = some u → h'.get? b = some u) (hp : s.heap.objs.size ≤ a) (he : h'.get? a = some { cls := .type "tuple", data := .seq its.toArray }) (r : Vals xs its) (hz : xs.length ≤ sizeLine) :
    Inv X pins σ (upd H a (.frz { cls := .type "tuple", data := .seq its.toArray } (.tup xs))) { s with heap := h', toks := t' } :=
  I.laid k hp ⟨he, hz, its, r, ⟨_, he, rfl, _, rfl⟩⟩
/-- a new tuple, as it is wanted -/
def NwT (H : Hp) (xs : List V) (Q : VK) : Prop := ∀ p o, H p = none → o.dict = none → Q (.ref p) (upd H p (.frz o (.tup xs)))
theorem endT {xs : List V} {its : List Value} {Q : VK} {t' : Nat} (I : Inv X pins σ H s) (r : Vals xs its) (hz : xs.length ≤ sizeLine) (q : NwT H xs Q) : EP X pins σ Q (.ref s.heap.objs.size) { s with heap := s.heap.push { cls := .type "tuple", data := .seq its.toArray }, toks := t' } :=
  ⟨.ref s.heap.objs.size, _, laidT I (fun b u e => Heap.get?_push_of_some _ e) (Nat.le_refl _) (Heap.get?_push_size _ rfl) r hz, rfl, q _ _ (I.hok.fresh (Nat.le_refl _)) rfl⟩
def tTupF (t : TA) : TE := fun σ H Q => t σ H fun xs H1 => xs.length ≤ sizeLine ∧ NwT H1 xs Q
theorem pe_tupF {es : List Expr} {t : TA} {pos : Pos} {x1} (h : PA X es t) : PE X (.Tuple es x1 pos) (tTupF t) :=
  ⟨fun pins s σ H Q I hq => wpAny_Tuple_spliced (thn (h.run pos pins s σ H _ I hq) fun us s1 ⟨xs, H1, I1, r, z, q⟩ => ⟨by rw [← r.length]; exact z, endT (t' := s1.toks) I1 r z q⟩)⟩
def rCatF (K : PySem.W.Frag) : R2 := fun x y H Q => ∃ a b xs ys, x = .ref a ∧ y = .ref b ∧ SqT K H a xs ∧ SqT K H b ys ∧ xs.length + ys.length ≤ sizeLine ∧
  (xs = [] → Q (.ref b) H) ∧ (xs ≠ [] → ys = [] → Q (.ref a) H) ∧ (xs ≠ [] → ys ≠ [] → NwT H (xs ++ ys) Q)
theorem op_catF : OpR X (binaryOp .Add) (rCatF X.K) := by
  intro pins s σ H x y v u Q I rx ry ⟨a, b, xs, ys, ex, ey, ha, hb, hz, q0, q1, q2⟩
  subst ex ey
  have ev : v = Value.ref a := rx
  have eu : u = Value.ref b := ry
  subst ev eu
  obtain ⟨its, r1, p1, _⟩ := I.tuple ha
  obtain ⟨its2, r2, p2, _⟩ := I.tuple hb
  by_cases hx : xs = []
  · subst hx
    cases r1
    exact cat_tup0 p1 p2 ⟨.ref b, H, I, rfl, q0 rfl⟩
  · refine HT.cat_tup p1 p2 (fun z => hx (r1.nil_iff.mp z)) (fun z => ⟨.ref a, H, I, rfl, q1 hx (r2.nil_iff.mp z)⟩) (fun z => ?_) (by rw [← r1.length, ← r2.length]; exact hz)
    exact endT (t' := s.toks) I (r1.append r2) (by rw [List.length_append]; exact hz) (q2 hx fun w => z (r2.nil_iff.mpr w))
def rSlF (K : PySem.W.Frag) : V → Option Int → Option Int → Hp → VK → Prop := fun x lo hi H Q => ∃ a xs, x = .ref a ∧ SqT K H a xs ∧
  (HT.sIx xs.length 0 lo = 0 ∧ HT.sIx xs.length xs.length hi = xs.length → Q (.ref a) H) ∧ (¬ (HT.sIx xs.length 0 lo = 0 ∧ HT.sIx xs.length xs.length hi = xs.length) → NwT H (cutV xs lo hi) Q)
theorem sl_tupF : SlR X (rSlF X.K) := by
  intro pins s σ H x v vl vu lo hi sl Q I rx hs pl pu ⟨a, xs, ex, hx, q1, q2⟩
  subst ex
  have ev : v = Value.ref a := rx
  subst ev
  obtain ⟨its, r, ht, hz⟩ := I.tuple hx
  have hlen : its.toArray.size = xs.length := by rw [List.size_toArray]; exact r.length.symm
  refine ⟨"tuple", _, PyProof.Rows.slot_tuple_getitem.lookup, ht.typeIs, ?_⟩
  by_cases hw : HT.sIx xs.length 0 lo = 0 ∧ HT.sIx xs.length xs.length hi = xs.length
  · exact getItem_tuple_whole ht hs pl pu (by rw [hlen]; exact hw) ⟨.ref a, H, I, rfl, q1 hw⟩
  · refine HT.getItem_tuple_cut ht hs pl pu (by rw [hlen]; exact hw) ?_ (by rw [hlen]; exact hz)
    rw [hlen]
    exact endT (t' := s.toks) I ((r.drop (HT.sIx xs.length 0 lo)).take (HT.sIx xs.length xs.length hi - HT.sIx xs.length 0 lo)) (Nat.le_trans (cutV_length xs lo hi) hz) (q2 hw)
theorem call_tupF : CallR X (.type "tuple") (fun xs H Q => ∃ p ys, xs = [.ref p] ∧ ((SqL X.K H p ys ∧ NwT H ys Q) ∨ (SqT X.K H p ys ∧ Q (.ref p) H))) := by
  intro pins s σ H xs us Q I r ⟨p, ys, ex, h⟩
  subst ex
  obtain ⟨u, rfl, rx⟩ : ∃ u, us = [u] ∧ RelV (.ref p) u := by
    cases r with
    | cons h t => cases t; exact ⟨_, rfl, h⟩
  have eu : u = Value.ref p := rx
  subst eu
  rcases h with ⟨hq, q⟩ | ⟨hq, q⟩
  · obtain ⟨its, r', pl, hz⟩ := I.list hq
    have hlen := r'.length
    refine call_tuple_list pl.isList (fun h' kp => ?_) (by simp only [List.size_toArray] <;> omega)
    have I1 : Inv X pins σ H { s with heap := h' } := I.kept (t' := s.toks) kp
    exact endT (s := { s with heap := h' }) (t' := s.toks) I1 r' hz q
  · obtain ⟨its, r', pl, hz⟩ := I.tuple hq
    exact call_tuple_same pl ⟨.ref p, H, I, rfl, q⟩
/-- a tuple's kind, and that it has no dict -/
theorem no_dict {a : Addr} {o : Obj} {xs : List V} (I : Inv X pins σ H s) (h : H a = some (.frz o (.tup xs))) (hd : o.dict = none) : s.TypeIs (.ref a) "tuple" ∧ ∃ ob, s.heap.get? a = some ob ∧ ob.dict = none := by
  obtain ⟨e, _, its, _, o', e', hc, _⟩ := I.hok a _ h
  rw [e] at e'; cases e'
  exact ⟨⟨o, e, hc⟩, o, e, hd⟩
end
end Mp

namespace Mp
open PySem PySem.Spec PyProof.Rows L2

/-! ### what stands for a datum of a kind -/
section
variable {K : PySem.W.Frag} {w : World} {A : Addr → Prop} {H : Hp} {x : V}
theorem RepR.non (r : RepR K w A H x .none) : x = .non := by
  rcases r with r | ⟨a, _, r⟩
  · cases r; rfl
  · rcases r with ⟨_, _, e, _⟩ | ⟨_, _, e, _⟩ | ⟨_, _, e, _⟩ <;> cases e
theorem RepR.bl {b : Bool} (r : RepR K w A H x (.bool b)) : x = .bl b := by
  rcases r with r | ⟨a, _, r⟩
  · cases r; rfl
  · rcases r with ⟨_, _, e, _⟩ | ⟨_, _, e, _⟩ | ⟨_, _, e, _⟩ <;> cases e
theorem RepR.int {i : Int} (r : RepR K w A H x (.int i)) : x = .int i := by
  rcases r with r | ⟨a, _, r⟩
  · cases r; rfl
  · rcases r with ⟨_, _, e, _⟩ | ⟨_, _, e, _⟩ | ⟨_, _, e, _⟩ <;> cases e
theorem RepR.str {z : Str} (r : RepR K w A H x (.str z)) : x = .str z ∧ PyData.strOk z = true := by
  rcases r with r | ⟨a, _, r⟩
  · cases r with
    | str _ h => exact ⟨rfl, h⟩
  · rcases r with ⟨_, _, e, _⟩ | ⟨_, _, e, _⟩ | ⟨_, _, e, _⟩ <;> cases e
theorem sqT_any {a : Addr} {xs : List V} (h : SqT K (fun _ => none) a xs) : SqT K H a xs := h.elim (fun z => by rcases z with z | ⟨_, z⟩ <;> cases z) .inr
theorem RepR.tup {ds : List D} (r : RepR K w A H x (.tuple ds)) : ∃ a xs, x = .ref a ∧ SqT K H a xs ∧ RepAll K w A H xs ds := by
  rcases r with r | ⟨a, _, r⟩
  · cases r with
    | tup h _ r => exact ⟨_, _, rfl, .inl (.inr ⟨_, h.1⟩), r⟩
    | tupK h r => exact ⟨_, _, rfl, sqT_any h.2, r⟩
  · rcases r with ⟨_, _, e, _⟩ | ⟨_, _, e, _⟩ | ⟨_, _, e, _⟩ <;> cases e
theorem RepR.tupR {ds : List D} (r : RepR K w A H x (.tuple ds)) : Rep K w A H x (.tuple ds) := by
  rcases r with r | ⟨a, _, r⟩
  · exact r
  · rcases r with ⟨_, _, e, _⟩ | ⟨_, _, e, _⟩ | ⟨_, _, e, _⟩ <;> cases e
/-- a list: tracked, locked, or the module's own -/
def LAt (K : PySem.W.Frag) (H : Hp) (a : Addr) (xs : List V) : Prop := Rd H a (.lst xs) ∨ LK K a xs
theorem LAt.sq {a : Addr} {xs : List V} (h : LAt K H a xs) : SqL K H a xs := h.elim .inl LK.sq
theorem LAt.same {H' : Hp} (s : Same H H') {a : Addr} {xs : List V} (h : LAt K H a xs) : LAt K H' a xs := by
  rcases h with (h | ⟨o, h⟩) | h
  · exact .inl (.inl (s _ _ h))
  · exact .inl (.inr ⟨o, s _ _ h⟩)
  · exact .inr h
theorem RepR.lst {ds : List D} (r : RepR K w A H x (.list ds)) : ∃ a xs, x = .ref a ∧ LAt K H a xs ∧ RepAll K w A H xs ds := by
  rcases r with r | ⟨a, e, r⟩
  · cases r with
    | lst h _ r => exact ⟨_, _, rfl, .inl h, r⟩
    | lstK h r => exact ⟨_, _, rfl, .inr h, r⟩
  · rcases r with ⟨xs, es, e', h, r⟩ | ⟨_, _, e', _⟩ | ⟨_, _, e', _⟩
    · cases e'
      exact ⟨a, xs, e, .inl (.inl h), r⟩
    · cases e'
    · cases e'
theorem LAt.ok {X : Cx} {pins : List (Addr × Obj)} {σ : L2.St} {s : Shared} {a : Addr} {xs : List V} (I : Inv X pins σ H s) (h : LAt X.K H a xs) :
    xs.length ≤ sizeLine ∧ ∃ (its : List Value) (n : Nat), Vals xs its ∧ xs.length = its.length ∧ s.heap.get? a = some { cls := .type "list", data := .seq its.toArray n } := by
  rcases h with h | ⟨its, n, e, z, r⟩
  · obtain ⟨z, its, n, r, e⟩ := h.ok I.hok
    exact ⟨z, its, n, r, r.length, e⟩
  · have hl := r.length
    simp only [Array.length_toList] at hl
    refine ⟨by omega, its.toList, n, r, r.length, ?_⟩
    have := I.kIn a _ e
    simpa using this
end
theorem upd_self {H : Hp} {p : Addr} {o : HO} (hp : H p = none) : Same H (upd H p o) := fun b u e => by
  rw [upd_ne (ne_of_none e hp)]; exact e
section
variable {K : PySem.W.Frag} {w : World} {A : Addr → Prop} {H : Hp}
/-- a new tuple, a new list -/
theorem rep_newT {p : Addr} {o : Obj} {xs : List V} {ds : List D} (hp : H p = none) (hd : o.dict = none) (hA : ∀ a, A a → H a ≠ none) (r : RepAll K w A H xs ds) : Rep K w A (upd H p (.frz o (.tup xs))) (.ref p) (.tuple ds) :=
  .tup ⟨upd_same, hd⟩ (fun z => hA p z hp) (r.go (Kp.of_same (upd_self hp)).go)
theorem root_newL {p : Addr} {xs : List V} {ds : List D} (hp : H p = none) (r : RepAll K w A H xs ds) : Root K w (plus A p) (upd H p (.lst xs)) p (.list ds) :=
  .inl ⟨xs, ds, rfl, upd_same, (r.go (go_new hp)).go (Kp.of_same (upd_self hp)).go⟩
theorem rep_newL {p : Addr} {xs : List V} {ds : List D} (hp : H p = none) (hA : ∀ a, A a → H a ≠ none) (r : RepAll K w A H xs ds) : Rep K w A (upd H p (.lst xs)) (.ref p) (.list ds) :=
  .lst (.inl upd_same) (fun z => hA p z hp) (r.go (Kp.of_same (upd_self hp)).go)
end
theorem okLen_le {n : Nat} (h : okLen n = true) : n ≤ sizeLine := by
  rw [sizeLine_eq]; exact of_decide_eq_true h
theorem strOk_append {x y : Str} (hx : PyData.strOk x = true) (hy : PyData.strOk y = true) : PyData.strOk (x ++ y) = true := by
  unfold PyData.strOk at *
  have e : (x ++ y).cps = x.cps ++ y.cps := rfl
  rw [e, Array.all_append, hx, hy]; rfl
section
variable {X : Cx}
theorem op2_add : Op2 X (binaryOp .Add) (bin .add) true := by
  intro A pins s σ H x y v u dx dy d Q I rx ry hA hx hy hg hq
  cases dx with
  | int i =>
    cases dy with
    | int j =>
      have ex := hx.int; have ey := hy.int; subst ex ey
      cases hg
      exact op_add pins s σ H _ _ v u Q I rx ry ⟨i, j, rfl, rfl, hq _ H (Same.refl H) (.int _) fun _ z => by cases z⟩
    | _ => cases hg
  | str i =>
    cases dy with
    | str j =>
      obtain ⟨ex, sx⟩ := hx.str; obtain ⟨ey, sy⟩ := hy.str; subst ex ey
      simp only [bin] at hg
      split at hg
      · cases hg
        rename_i hl
        exact op_add_str pins s σ H _ _ v u Q I rx ry ⟨i, j, rfl, rfl, okLen_le hl, hq _ H (Same.refl H) (.str _ (strOk_append sx sy)) fun _ z => by cases z⟩
      · cases hg
    | _ => cases hg
  | tuple xs =>
    cases dy with
    | tuple ys =>
      have tx := hx.tupR; have ty := hy.tupR
      obtain ⟨a, us, ex, ha, qa⟩ := hx.tup; obtain ⟨b, ws, ey, hb, qb⟩ := hy.tup; subst ex ey
      simp only [bin] at hg
      split at hg
      · cases hg
        rename_i hl
        refine op_catF pins s σ H _ _ v u Q I rx ry ⟨a, b, us, ws, rfl, rfl, ha, hb, by rw [qa.length, qb.length]; exact okLen_le hl, fun e => ?_, fun _ e => ?_, fun _ _ p o hp hd => ?_⟩
        · subst e
          cases qa
          exact hq _ H (Same.refl H) ty fun _ z => by cases z
        · subst e
          cases qb
          rw [List.append_nil] at hq
          exact hq _ H (Same.refl H) tx fun _ z => by cases z
        · exact hq _ _ (upd_self hp) (rep_newT hp hd hA (qa.append qb)) fun _ z => by cases z
      · cases hg
    | _ => cases hg
  | list xs =>
    cases dy with
    | list ys =>
      obtain ⟨a, us, ex, ha, qa⟩ := hx.lst; obtain ⟨b, ws, ey, hb, qb⟩ := hy.lst; subst ex ey
      simp only [bin] at hg
      split at hg
      · cases hg
        rename_i hl
        have hl := okLen_le hl
        rw [← qa.length, ← qb.length] at hl
        cases rx
        cases ry
        obtain ⟨z, its, n, r, h1, e⟩ := ha.ok I
        obtain ⟨z2, its2, n2, r2, h2, e2⟩ := hb.ok I
        refine PySem.P.add_list e e2 ?_ (by rw [List.size_toArray, List.size_toArray]; omega)
        have ea : its.toArray ++ its2.toArray = (its ++ its2).toArray := by simp
        rw [ea]
        exact ⟨.ref _, _, I.lnew (t' := s.toks) (r.append r2) (by rw [List.length_append]; omega), rfl, hq _ _ (upd_self I.fresh) (rep_newL I.fresh hA (qa.append qb)) fun _ _ => ⟨_, rfl, I.fresh, root_newL I.fresh (qa.append qb)⟩⟩
      · cases hg
    | _ => cases hg
  | _ => cases hg
end
end Mp

namespace Mp
open PySem PySem.Spec PyProof.Rows L2

section
variable {X : Cx}
theorem op2_sub : Op2 X (binaryOp .Sub) (bin .sub) true := by
  intro A pins s σ H x y v u dx dy d Q I rx ry hA hx hy hg hq
  cases dx with
  | int i => cases dy with
    | int j =>
      have ex := hx.int; have ey := hy.int; subst ex ey
      cases hg
      exact op_sub pins s σ H _ _ v u Q I rx ry ⟨i, j, rfl, rfl, hq _ H (Same.refl H) (.int _) fun _ z => by cases z⟩
    | _ => cases hg
  | _ => cases hg
theorem op2_mul : Op2 X (binaryOp .Mult) (bin .mul) true := by
  intro A pins s σ H x y v u dx dy d Q I rx ry hA hx hy hg hq
  cases dx with
  | int i => cases dy with
    | int j =>
      have ex := hx.int; have ey := hy.int; subst ex ey
      simp only [bin] at hg
      split at hg
      · cases hg
        rename_i hc
        have hc' : CMul i j := by
          rcases Bool.or_eq_true _ _ ▸ hc with h | h
          · exact .inl (of_decide_eq_true h)
          · exact .inr (of_decide_eq_true h)
        exact op_mul pins s σ H _ _ v u Q I rx ry ⟨i, j, rfl, rfl, hc', hq _ H (Same.refl H) (.int _) fun _ z => by cases z⟩
      · cases hg
    | _ => cases hg
  | _ => cases hg
theorem op2_fdiv : Op2 X (binaryOp .FloorDiv) (bin .fdiv) true := by
  intro A pins s σ H x y v u dx dy d Q I rx ry hA hx hy hg hq
  cases dx with
  | int i => cases dy with
    | int j =>
      have ex := hx.int; have ey := hy.int; subst ex ey
      simp only [bin] at hg
      split at hg
      · cases hg
        rename_i hc
        exact op_fdiv pins s σ H _ _ v u Q I rx ry ⟨i, j, rfl, rfl, (show CDiv i j from of_decide_eq_true (p := 0 < j ∧ j < 1073741824) hc), hq _ H (Same.refl H) (.int _) fun _ z => by cases z⟩
      · cases hg
    | _ => cases hg
  | _ => cases hg
theorem op2_mod : Op2 X (binaryOp .Mod) (bin .mod) true := by
  intro A pins s σ H x y v u dx dy d Q I rx ry hA hx hy hg hq
  cases dx with
  | int i => cases dy with
    | int j =>
      have ex := hx.int; have ey := hy.int; subst ex ey
      simp only [bin] at hg
      split at hg
      · cases hg
        rename_i hc
        exact op_mod pins s σ H _ _ v u Q I rx ry ⟨i, j, rfl, rfl, of_decide_eq_true hc, hq _ H (Same.refl H) (.int _) fun _ z => by cases z⟩
      · cases hg
    | _ => cases hg
  | _ => cases hg
theorem op2_pow : Op2 X (binaryOp .Pow) (bin .pow) true := by
  intro A pins s σ H x y v u dx dy d Q I rx ry hA hx hy hg hq
  cases dx with
  | int i => cases dy with
    | int j =>
      have ex := hx.int; have ey := hy.int; subst ex ey
      simp only [bin] at hg
      split at hg
      · cases hg
        rename_i hc
        have hc := of_decide_eq_true hc
        exact op_pow pins s σ H _ _ v u Q I rx ry ⟨i, j, rfl, rfl, ⟨hc.1, by omega, hc.2.2⟩, hq _ H (Same.refl H) (.int _) fun _ z => by cases z⟩
      · cases hg
    | _ => cases hg
  | _ => cases hg
def opOf : Bo → Operator
  | .add => .Add | .sub => .Sub | .mul => .Mult | .fdiv => .FloorDiv | .mod => .Mod | .pow => .Pow
theorem op2_bin : ∀ o : Bo, Op2 X (binaryOp (opOf o)) (bin o) true
  | .add => op2_add | .sub => op2_sub | .mul => op2_mul | .fdiv => op2_fdiv | .mod => op2_mod | .pow => op2_pow

/-! ### comparisons -/
theorem RepR.reads {A : Addr → Prop} {pins : List (Addr × Obj)} {σ : L2.St} {H : Hp} {s : Shared} {x : V} {v : Value} {d : D} (I : Inv X pins σ H s) (r : RepR X.K X.w A H x d) (hn : nd d = true) (rv : RelV x v) : (∃ as, Reads s.heap v d as) ∧ d.canLay0 = true := by
  have hn' : d.hasDict = false := by simpa [nd] using hn
  have q := r.any
  exact ⟨Dp.reads I d x v (q.dp hn') rv, q.lay hn'⟩
theorem okEq_iff {a b : D} (h : okEq a b = true) : nd a = true ∧ nd b = true ∧ min a.depth b.depth ≤ 128 := by
  unfold okEq at h
  rw [Bool.and_eq_true, Bool.and_eq_true] at h
  exact ⟨h.1.1, h.1.2, of_decide_eq_true h.2⟩
abbrev Deep (X : Cx) : Prop := X.A.units + 200 < cLine
theorem op2_eq (hu : Deep X) : Op2 X (compareOp .Eq) (fun a b => (cmp .eq a b).map .bool) true := by
  intro A pins s σ H x y v u dx dy d Q I rx ry hA hx hy hg hq
  simp only [cmp] at hg
  split at hg
  · rename_i hc
    cases hg
    obtain ⟨n1, n2, hd⟩ := okEq_iff hc
    obtain ⟨⟨as, r1⟩, l1⟩ := hx.reads I n1 rx
    obtain ⟨⟨bs, r2⟩, l2⟩ := hy.reads I n2 ry
    exact SeqAt.compareEq_reads r1 r2 l1 l2 (by have : X.A.units + 200 < cLine := hu; omega) ⟨.bl _, H, I, rfl, hq _ H (Same.refl H) (.bl _) fun _ z => by cases z⟩
  · cases hg
theorem op2_ne (hu : Deep X) : Op2 X (compareOp .NotEq) (fun a b => (cmp .ne a b).map .bool) true := by
  intro A pins s σ H x y v u dx dy d Q I rx ry hA hx hy hg hq
  simp only [cmp] at hg
  split at hg
  · rename_i hc
    cases hg
    obtain ⟨n1, n2, hd⟩ := okEq_iff hc
    obtain ⟨⟨as, r1⟩, l1⟩ := hx.reads I n1 rx
    obtain ⟨⟨bs, r2⟩, l2⟩ := hy.reads I n2 ry
    exact SeqAt.compareNe_reads r1 r2 l1 l2 (by have : X.A.units + 200 < cLine := hu; omega) ⟨.bl _, H, I, rfl, hq _ H (Same.refl H) (.bl _) fun _ z => by cases z⟩
  · cases hg
theorem op2_lt : Op2 X (compareOp .Lt) (fun a b => (cmp .lt a b).map .bool) true := by
  intro A pins s σ H x y v u dx dy d Q I rx ry hA hx hy hg hq
  cases dx with
  | int i => cases dy with
    | int j =>
      have ex := hx.int; have ey := hy.int; subst ex ey
      cases hg
      exact op_lt pins s σ H _ _ v u Q I rx ry ⟨i, j, rfl, rfl, hq _ H (Same.refl H) (.bl _) fun _ z => by cases z⟩
    | _ => cases hg
  | str i => cases dy with
    | str j =>
      obtain ⟨ex, _⟩ := hx.str; obtain ⟨ey, _⟩ := hy.str; subst ex ey
      cases hg
      exact op_lt_str pins s σ H _ _ v u Q I rx ry ⟨i, j, rfl, rfl, hq _ H (Same.refl H) (.bl _) fun _ z => by cases z⟩
    | _ => cases hg
  | _ => cases hg
theorem op2_le : Op2 X (compareOp .LtE) (fun a b => (cmp .le a b).map .bool) true := by
  intro A pins s σ H x y v u dx dy d Q I rx ry hA hx hy hg hq
  cases dx with
  | int i => cases dy with
    | int j =>
      have ex := hx.int; have ey := hy.int; subst ex ey
      cases hg
      exact op_le pins s σ H _ _ v u Q I rx ry ⟨i, j, rfl, rfl, hq _ H (Same.refl H) (.bl _) fun _ z => by cases z⟩
    | _ => cases hg
  | str i => cases dy with
    | str j =>
      obtain ⟨ex, _⟩ := hx.str; obtain ⟨ey, _⟩ := hy.str; subst ex ey
      cases hg
      exact op_le_str pins s σ H _ _ v u Q I rx ry ⟨i, j, rfl, rfl, hq _ H (Same.refl H) (.bl _) fun _ z => by cases z⟩
    | _ => cases hg
  | _ => cases hg
theorem op2_gt : Op2 X (compareOp .Gt) (fun a b => (cmp .gt a b).map .bool) true := by
  intro A pins s σ H x y v u dx dy d Q I rx ry hA hx hy hg hq
  cases dx with
  | int i => cases dy with
    | int j =>
      have ex := hx.int; have ey := hy.int; subst ex ey
      cases hg
      exact op_gt pins s σ H _ _ v u Q I rx ry ⟨i, j, rfl, rfl, hq _ H (Same.refl H) (.bl _) fun _ z => by cases z⟩
    | _ => cases hg
  | _ => cases hg
theorem op2_ge : Op2 X (compareOp .GtE) (fun a b => (cmp .ge a b).map .bool) true := by
  intro A pins s σ H x y v u dx dy d Q I rx ry hA hx hy hg hq
  cases dx with
  | int i => cases dy with
    | int j =>
      have ex := hx.int; have ey := hy.int; subst ex ey
      cases hg
      exact op_ge pins s σ H _ _ v u Q I rx ry ⟨i, j, rfl, rfl, hq _ H (Same.refl H) (.bl _) fun _ z => by cases z⟩
    | _ => cases hg
  | _ => cases hg
theorem is_non {K : PySem.W.Frag} {w : World} {A : Addr → Prop} {H : Hp} {x : V} {d : D} (r : RepR K w A H x d) : decide (x = .non) = isNone d := by
  cases d with
  | none => have e := r.non; subst e; rfl
  | bool b => have e := r.bl; subst e; rfl
  | int i => have e := r.int; subst e; rfl
  | str z => have e := r.str.1; subst e; rfl
  | list ds => obtain ⟨a, _, e, _⟩ := r.lst; subst e; rfl
  | tuple ds => obtain ⟨a, _, e, _⟩ := r.tup; subst e; rfl
  | dict ds =>
    rcases r with r | ⟨a, e, _⟩
    · cases r <;> rfl
    · subst e; rfl
theorem op2_isn : Op2 X (compareOp .Is) (fun a b => (cmp .isn a b).map .bool) true := by
  intro A pins s σ H x y v u dx dy d Q I rx ry hA hx hy hg hq
  cases dy with
  | none =>
    have ey := hy.non; subst ey
    simp only [cmp] at hg
    cases hg
    refine op_isN pins s σ H _ _ v u Q I rx ry ⟨rfl, ?_⟩
    rw [is_non hx]
    exact hq _ H (Same.refl H) (.bl _) fun _ z => by cases z
  | _ => cases hg
theorem op2_nis : Op2 X (compareOp .IsNot) (fun a b => (cmp .nis a b).map .bool) true := by
  intro A pins s σ H x y v u dx dy d Q I rx ry hA hx hy hg hq
  cases dy with
  | none =>
    have ey := hy.non; subst ey
    simp only [cmp] at hg
    cases hg
    refine op_notN pins s σ H _ _ v u Q I rx ry ⟨rfl, ?_⟩
    rw [is_non hx]
    exact hq _ H (Same.refl H) (.bl _) fun _ z => by cases z
  | _ => cases hg
theorem depthAll_le {d : D} {n : Nat} : ∀ {xs : List D}, (∀ y ∈ xs, min y.depth d.depth ≤ n) → min (PyData.depthAll xs) d.depth ≤ n
  | [], _ => by simp [PyData.depthAll]
  | x :: xs, h => by
    have h1 := h x List.mem_cons_self
    have h2 := depthAll_le (d := d) (n := n) fun y hy => h y (List.mem_cons_of_mem x hy)
    simp only [PyData.depthAll]
    omega
theorem nd_all {xs : List D} (h : ∀ y ∈ xs, nd y = true) : PyData.hasDictAll xs = false := by
  induction xs with
  | nil => simp [PyData.hasDictAll]
  | cons x xs ih =>
    have h1 := h x List.mem_cons_self
    simp only [PyData.hasDictAll, Bool.or_eq_false_iff]
    exact ⟨by simpa [nd] using h1, ih fun y hy => h y (List.mem_cons_of_mem x hy)⟩
theorem nd_list {xs : List D} (h : ∀ y ∈ xs, nd y = true) : nd (.list xs) = true := by
  simp only [nd, PyData.hasDict, nd_all h, Bool.not_false]
theorem nd_tuple {xs : List D} (h : ∀ y ∈ xs, nd y = true) : nd (.tuple xs) = true := by
  simp only [nd, PyData.hasDict, nd_all h, Bool.not_false]
theorem all_ok {x : D} {xs : List D} (h : (nd x && xs.all fun y => okEq y x) = true) : nd x = true ∧ (∀ y ∈ xs, nd y = true) ∧ min (PyData.depthAll xs) x.depth ≤ 128 := by
  rw [Bool.and_eq_true, List.all_eq_true] at h
  exact ⟨h.1, fun y hy => (okEq_iff (h.2 y hy)).1, depthAll_le fun y hy => (okEq_iff (h.2 y hy)).2.2⟩
end
end Mp

namespace Mp
open PySem PySem.Spec PyProof.Rows L2

/-! ### keys -/
theorem eqv_kD (a b : Key) : PyData.eqv (kD a) (kD b) = decide (a = b) := by
  cases a with
  | inl i => cases b with
    | inl j => simp [kD, PyData.eqv, Bool.beq_eq_decide_eq]
    | inr y => simp [kD, PyData.eqv]
  | inr x => cases b with
    | inl j => simp [kD, PyData.eqv]
    | inr y => simp [kD, PyData.eqv, Bool.beq_eq_decide_eq]
theorem eqv_kDs : ∀ a b : List Key, PyData.eqvAll (a.map kD) (b.map kD) = decide (a = b)
  | [], [] => by simp [PyData.eqvAll]
  | [], _ :: _ => by simp [PyData.eqvAll]
  | _ :: _, [] => by simp [PyData.eqvAll]
  | x :: a, y :: b => by
    simp only [List.map_cons, PyData.eqvAll, eqv_kD, eqv_kDs a b]
    by_cases h : x = y
    · subst h; simp
    · simp [h]
theorem eqv_kT (a b : List Key) : PyData.eqv (.tuple (a.map kD)) (.tuple (b.map kD)) = decide (a = b) := by
  simp only [PyData.eqv, eqv_kDs]
theorem keyOk_kD {d : D} (h : keyOk d = true) : ∃ k, d = kD k := by
  cases d with
  | int i => exact ⟨.inl i, rfl⟩
  | str x => exact ⟨.inr x, rfl⟩
  | _ => cases h
theorem keyOk_of (k : Key) : keyOk (kD k) = true := by cases k <;> rfl
theorem keysOk_kD : ∀ {xs : List D}, xs.all keyOk = true → ∃ ks : List Key, xs = ks.map kD
  | [], _ => ⟨[], rfl⟩
  | x :: xs, h => by
    rw [List.all_cons, Bool.and_eq_true] at h
    obtain ⟨k, rfl⟩ := keyOk_kD h.1
    obtain ⟨ks, rfl⟩ := keysOk_kD h.2
    exact ⟨k :: ks, rfl⟩
theorem keysOk_T {d : D} (h : keysOk d = true) : ∃ ks : List Key, d = .tuple (ks.map kD) := by
  cases d with
  | tuple xs => obtain ⟨ks, rfl⟩ := keysOk_kD (xs := xs) h; exact ⟨ks, rfl⟩
  | _ => cases h
section
variable {K : PySem.W.Frag} {w : World} {A : Addr → Prop} {H : Hp}
theorem rep_key {x : V} : ∀ {k : Key}, RepR K w A H x (kD k) → x = kV k ∧ kOk k
  | .inl i, r => ⟨r.int, trivial⟩
  | .inr z, r => r.str
theorem key_rep {k : Key} (h : kOk k) : Rep K w A H (kV k) (kD k) := by
  cases k with
  | inl i => exact .int i
  | inr x => exact .str x h
theorem rep_keys : ∀ {ks : List Key} {xs : List V}, RepAll K w A H xs (ks.map kD) → xs = ks.map kV ∧ ∀ k ∈ ks, kOk k
  | [], _, .nil => ⟨rfl, fun _ z => by cases z⟩
  | k :: ks, _, .cons r s => by
    obtain ⟨e1, h1⟩ := rep_key (.inl r)
    obtain ⟨e2, h2⟩ := rep_keys s
    subst e1 e2
    exact ⟨rfl, fun x hx => by rcases List.mem_cons.mp hx with e | hx; exact e ▸ h1; exact h2 x hx⟩
/-- what a table gives at a key stands for what the datum gives there -/
def Gives {κ : Type} (K : PySem.W.Frag) (w : World) (A : Addr → Prop) (H : Hp) (f : κ → Option V) (enc : κ → D) (ds : List (D × D)) : Prop :=
  ∀ k, match dget ds (enc k) with
    | some d => ∃ v, f k = some v ∧ Rep K w A H v d
    | none => f k = none
theorem dget_cons {k x v : D} {r : List (D × D)} : dget ((x, v) :: r) k = if PyData.eqv x k = true then some v else dget r k := by
  unfold dget
  rw [List.find?_cons]
  cases h : PyData.eqv x k <;> simp [h]
theorem gives_nil {κ : Type} {enc : κ → D} {f : κ → Option V} (hf : ∀ k, f k = none) : Gives K w A H f enc [] := fun k => by
  show (match dget [] (enc k) with | some d => ∃ v, f k = some v ∧ Rep K w A H v d | none => f k = none)
  have e : dget [] (enc k) = none := rfl
  rw [e]; exact hf k
theorem gives_K : ∀ {kvs : List (Key × V)} {ds : List (D × D)}, RepK K w A H kvs ds → Gives K w A H (valV kvs) kD ds
  | [], _, .nil => gives_nil fun _ => rfl
  | (k, v) :: kvs, _, .cons hk r s => fun j => by
    have ih := gives_K s j
    rw [dget_cons, eqv_kD]
    by_cases h : k = j
    · subst h
      simp only [decide_true, if_true]
      exact ⟨v, valV_pos rfl, r⟩
    · simp only [h, decide_false, Bool.false_eq_true, if_false]
      rw [valV_neg h]
      exact ih
theorem gives_T : ∀ {kvs : List (List Key × V)} {ds : List (D × D)}, RepT K w A H kvs ds → Gives K w A H (valV kvs) (fun k => .tuple (k.map kD)) ds
  | [], _, .nil => gives_nil fun _ => rfl
  | (k, v) :: kvs, _, .cons hk r s => fun j => by
    have ih := gives_T s j
    rw [dget_cons, eqv_kT]
    by_cases h : k = j
    · subst h
      simp only [decide_true, if_true]
      exact ⟨v, valV_pos rfl, r⟩
    · simp only [h, decide_false, Bool.false_eq_true, if_false]
      rw [valV_neg h]
      exact ih
def tabF (kvs : List (Str × V)) : Key → Option V
  | .inl _ => none
  | .inr x => valV kvs x
theorem gives_C : ∀ {kvs : List (Str × V)} {ds : List (D × D)}, RepC K w A H kvs ds → Gives K w A H (tabF kvs) kD ds
  | [], _, .nil => gives_nil fun k => by cases k <;> rfl
  | (k, v) :: kvs, _, .cons r s => fun j => by
    have ih := gives_C s j
    have e := eqv_kD (.inr k) j
    rw [dget_cons]
    have e' : PyData.eqv (.str k) (kD j) = decide ((Sum.inr k : Key) = j) := e
    rw [e']
    cases j with
    | inl i =>
      simp only [reduceCtorEq, decide_false, Bool.false_eq_true, if_false]
      exact ih
    | inr y =>
      by_cases h : k = y
      · subst h
        simp only [decide_true, if_true]
        exact ⟨v, valV_pos rfl, r⟩
      · have h' : ¬ (Sum.inr k : Key) = Sum.inr y := fun z => h (Sum.inr.inj z)
        simp only [h', decide_false, Bool.false_eq_true, if_false]
        show (match dget _ _ with | some d => ∃ v', valV ((k, v) :: kvs) y = some v' ∧ Rep K w A H v' d | none => valV ((k, v) :: kvs) y = none)
        rw [valV_neg h]
        exact ih
end
section
variable {X : Cx} {pins : List (Addr × Obj)} {σ : L2.St} {H : Hp} {s : Shared} {A : Addr → Prop} {x : V} {ds : List (D × D)}
theorem ents_find {kvs : List (Str × V)} {es : List DictEntry} (r : Paired (fun (p : Str × V) (e : DictEntry) => ((∃ t, e.key = .str p.1 t) ∧ PyData.strOk p.1 = true) ∧ RelV p.2 e.val) kvs es) (k : Key) :
    RelO (tabF kvs k) ((es.find? fun e => keyIs k e.key).map (·.val)) := by
  induction r with
  | nil => cases k <;> trivial
  | @cons p e ps es h t ih =>
    obtain ⟨⟨⟨tk, hk⟩, _⟩, hv⟩ := h
    rw [List.find?_cons, hk]
    cases k with
    | inl i =>
      have e1 : keyIs (.inl i) (Value.str p.1 tk) = false := rfl
      rw [e1]
      exact ih
    | inr z =>
      have e1 : keyIs (.inr z) (Value.str p.1 tk) = decide (p.1 = z) := by
        show Value.isStrOf z (Value.str p.1 tk) = _
        simp only [Value.isStrOf]
        by_cases h : p.1 = z
        · subst h; simp
        · have h' : ¬ z = p.1 := fun q => h q.symm
          simp [h]
      rw [e1]
      by_cases h : p.1 = z
      · show RelO (valV (p :: ps) z) _
        rw [valV_pos h]
        simp only [h, decide_true, Option.map_some]
        exact hv
      · show RelO (valV (p :: ps) z) _
        rw [valV_neg h]
        simp only [h, decide_false]
        exact ih
theorem ktab_map {a : Addr} {kvs : List (Str × V)} (I : Inv X pins σ H s) (h : KTab X.K X.w a kvs) : (a == sysModules) = false ∧ ∃ f', s.heap.MapOf (mixKind X.prog X.w) a f' ∧ ∀ k, RelO (tabF kvs k) (f' k) := by
  obtain ⟨_, _, es, n, hd, r⟩ := h
  refine ⟨hd.low, fun k => findBy (mixKind X.prog X.w).is es k, ⟨_, es, n, I.kIn _ _ hd.at_, ⟨rfl, rfl, rfl⟩, rfl, fun e he => ?_, fun _ => rfl⟩, fun k => ?_⟩
  · obtain ⟨y, t, e1, e2⟩ := hd.lit.all e (Array.mem_toList_iff.mpr he)
    exact ⟨.inr y, by rw [e1]; exact mixKind_str _ _ y t, e2⟩
  · have q := ents_find r k
    have e : findBy (mixKind X.prog X.w).is es k = (es.toList.find? fun e => keyIs k e.key).map (·.val) := by
      obtain ⟨l⟩ := es
      simp [findBy, mixKind_is]
    show RelO (tabF kvs k) (findBy (mixKind X.prog X.w).is es k)
    rw [e]
    exact q
/-- a dict asked at ints and texts -/
theorem dict1 (I : Inv X pins σ H s) (r : RepR X.K X.w A H x (.dict ds)) (hk : (ds.all fun kv => keyOk kv.1) = true) :
    ∃ a f f', x = .ref a ∧ (a == sysModules) = false ∧ s.heap.MapOf (mixKind X.prog X.w) a f' ∧ (∀ k, RelO (f k) (f' k)) ∧ Gives X.K X.w A H f kD ds := by
  have one : ∀ {a : Addr} {kvs : List (Key × V)}, Rd H a (.dK kvs) → RepK X.K X.w A H kvs ds → ∃ f f', (a == sysModules) = false ∧ s.heap.MapOf (mixKind X.prog X.w) a f' ∧ (∀ k, RelO (f k) (f' k)) ∧ Gives X.K X.w A H f kD ds := fun h q => by
    obtain ⟨_, hd, vs, rel, dd⟩ := dk_rd I.hok h
    exact ⟨_, _, hd, dd.mapOf, rel.val, gives_K q⟩
  have two : ∀ {a : Addr} {kvs : List (List Key × V)}, Rd H a (.dT kvs) → RepT X.K X.w A H kvs ds → ∃ f f', (a == sysModules) = false ∧ s.heap.MapOf (mixKind X.prog X.w) a f' ∧ (∀ k, RelO (f k) (f' k)) ∧ Gives X.K X.w A H f kD ds := fun h q => by
    cases q with
    | nil =>
      obtain ⟨_, hd, xs, rel, o, es, ep, ho, hc, hdt, he, _, _⟩ := dt_rd I.hok h
      cases rel
      have he' : es = #[] := by
        have : es.toList = [] := by simpa using he
        simpa using this
      subst he'
      exact ⟨fun _ => none, fun _ => none, hd, ⟨o, #[], ep, ho, hc, hdt, fun e he => by simp at he, fun k => by simp [findBy]⟩, fun _ => trivial, gives_nil fun _ => rfl⟩
    | cons hk' _ _ => rw [List.all_cons, Bool.and_eq_true] at hk; exact absurd hk.1 (by simp [keyOk])
  rcases r with r | ⟨a, rfl, r⟩
  · cases r with
    | dK h n q => obtain ⟨f, f', z⟩ := one h q; exact ⟨_, f, f', rfl, z⟩
    | dT h n q => obtain ⟨f, f', z⟩ := two (.inl h) q; exact ⟨_, f, f', rfl, z⟩
    | dC h q =>
      obtain ⟨hd, f', hm, hr⟩ := ktab_map I h
      exact ⟨_, _, f', rfl, hd, hm, hr, gives_C q⟩
  · rcases r with ⟨_, _, e, _⟩ | ⟨kvs, es, e, h, q⟩ | ⟨kvs, es, e, h, q⟩
    · cases e
    · cases e; obtain ⟨f, f', z⟩ := one (.inl h) q; exact ⟨_, f, f', rfl, z⟩
    · cases e; obtain ⟨f, f', z⟩ := two (.inl h) q.1; exact ⟨_, f, f', rfl, z⟩
theorem tab_pairs {kvs : List (Str × V)} {es : List DictEntry} (r : Paired (fun (p : Str × V) (e : DictEntry) => ((∃ t, e.key = .str p.1 t) ∧ PyData.strOk p.1 = true) ∧ RelV p.2 e.val) kvs es) :
    ∃ vs : List (Key × Value), KV (kvs.map fun p => ((Sum.inr p.1 : Key), p.2)) vs ∧ Pairs (mixKind X.prog X.w) es vs := by
  induction r with
  | nil => exact ⟨[], .nil, .nil⟩
  | @cons p e ps es h t ih =>
    obtain ⟨vs, h1, h2⟩ := ih
    obtain ⟨⟨⟨tk, hk⟩, _⟩, hv⟩ := h
    exact ⟨(.inr p.1, e.val) :: vs, .cons ⟨rfl, hv⟩ h1, .cons (by rw [hk]; exact mixKind_str _ _ p.1 tk) rfl h2⟩
theorem tab_repK {K : PySem.W.Frag} {w : World} {kvs : List (Str × V)} (hs : ∀ p ∈ kvs, PyData.strOk p.1 = true) {ds : List (D × D)} (r : RepC K w A H kvs ds) : RepK K w A H (kvs.map fun p => ((Sum.inr p.1 : Key), p.2)) ds := by
  revert ds
  induction kvs with
  | nil => intro ds r; cases r; exact .nil
  | cons p kvs ih => intro ds r; cases r with
    | @cons k v _ _ _ r t =>
      have h1 := hs (k, v) List.mem_cons_self
      exact RepK.cons (k := .inr k) h1 r (ih (fun q hq => hs q (List.mem_cons_of_mem _ hq)) t)
theorem nodup_inr {kvs : List (Str × V)} (h : (kvs.map (·.1)).Nodup) : ((kvs.map fun p => ((Sum.inr p.1 : Key), p.2)).map (·.1)).Nodup := by
  rw [List.map_map]
  have e : ((fun x : Key × V => x.1) ∘ fun p : Str × V => ((Sum.inr p.1 : Key), p.2)) = (fun z : Str => (Sum.inr z : Key)) ∘ fun p : Str × V => p.1 := rfl
  rw [e, ← List.map_map]
  exact List.Pairwise.map _ (fun a b hab q => hab (Sum.inr.inj q)) h
/-- a dict of ints and texts as keys, whole -/
theorem dictOf1 (I : Inv X pins σ H s) (r : RepR X.K X.w A H x (.dict ds)) (hk : (ds.all fun kv => keyOk kv.1) = true) :
    ∃ a kvs vs, x = .ref a ∧ (a == sysModules) = false ∧ kvs.length ≤ sizeLine ∧ KV kvs vs ∧ s.heap.DictOf (mixKind X.prog X.w) a vs ∧ RepK X.K X.w A H kvs ds := by
  have one : ∀ {a : Addr} {kvs : List (Key × V)}, Rd H a (.dK kvs) → RepK X.K X.w A H kvs ds → ∃ kvs vs, (a == sysModules) = false ∧ kvs.length ≤ sizeLine ∧ KV kvs vs ∧ s.heap.DictOf (mixKind X.prog X.w) a vs ∧ RepK X.K X.w A H kvs ds := fun h q => by
    obtain ⟨z, hd, vs, rel, dd⟩ := dk_rd I.hok h
    exact ⟨_, _, hd, z, rel, dd, q⟩
  have two : ∀ {a : Addr} {kvs : List (List Key × V)}, Rd H a (.dT kvs) → RepT X.K X.w A H kvs ds → ∃ kvs vs, (a == sysModules) = false ∧ kvs.length ≤ sizeLine ∧ KV kvs vs ∧ s.heap.DictOf (mixKind X.prog X.w) a vs ∧ RepK X.K X.w A H kvs ds := fun h q => by
    cases q with
    | nil =>
      obtain ⟨_, hd, xs, rel, o, es, ep, ho, hc, hdt, he, _, _⟩ := dt_rd I.hok h
      cases rel
      have he' : es = #[] := by
        have : es.toList = [] := by simpa using he
        simpa using this
      subst he'
      exact ⟨[], [], hd, Nat.zero_le _, .nil, ⟨o, #[], ep, ho, hc, hdt, fun e he => by simp at he, .nil, List.nodup_nil⟩, .nil⟩
    | cons hk' _ _ => rw [List.all_cons, Bool.and_eq_true] at hk; exact absurd hk.1 (by simp [keyOk])
  rcases r with r | ⟨a, rfl, r⟩
  · cases r with
    | dK h n q => obtain ⟨f, f', z⟩ := one h q; exact ⟨_, f, f', rfl, z⟩
    | dT h n q => obtain ⟨f, f', z⟩ := two (.inl h) q; exact ⟨_, f, f', rfl, z⟩
    | @dC a kvs _ h q =>
      obtain ⟨hz, nd, es, n, hd, r⟩ := h
      obtain ⟨vs, h1, h2⟩ := tab_pairs (X := X) r
      have ks : ∀ p ∈ kvs, PyData.strOk p.1 = true := by
        intro p hp
        clear h1 h2 q nd hz
        generalize es.toList = l at r
        induction r with
        | nil => cases hp
        | cons h t ih => rcases List.mem_cons.mp hp with e | hp; exact e ▸ h.1.2; exact ih hp
      have hn := nodup_inr nd
      have e1 := KV.keys h1
      rw [e1] at hn
      refine ⟨_, _, vs, rfl, hd.low, ?_, h1, ⟨_, es, n, I.kIn _ _ hd.at_, ⟨rfl, rfl, rfl⟩, rfl, fun e he => ?_, h2, hn⟩, tab_repK ks q⟩
      · rw [List.length_map]; exact hz
      · obtain ⟨y, t, e1, e2⟩ := hd.lit.all e (Array.mem_toList_iff.mpr he)
        exact ⟨.inr y, by rw [e1]; exact mixKind_str _ _ y t, e2⟩
  · rcases r with ⟨_, _, e, _⟩ | ⟨kvs, es, e, h, q⟩ | ⟨kvs, es, e, h, q⟩
    · cases e
    · cases e; obtain ⟨f, f', z⟩ := one (.inl h) q; exact ⟨_, f, f', rfl, z⟩
    · cases e; obtain ⟨f, f', z⟩ := two (.inl h) q.1; exact ⟨_, f, f', rfl, z⟩
/-- a tuple of ints and texts as a key -/
theorem key_is {b : Addr} {ks : List Key} (I : Inv X pins σ H s) (h : SqT X.K H b (ks.map kV)) : (tupleKind (mixKind X.prog X.w)).is s.heap ks b := by
  obtain ⟨its, r, ⟨o, h1, h2, n, h3⟩, _⟩ := I.tuple h
  exact ⟨o, its.toArray, n, h1, h2, h3, by simpa using items_are r⟩
/-- a dict asked at tuples -/
theorem dict2 (I : Inv X pins σ H s) (r : RepR X.K X.w A H x (.dict ds)) (hk : (ds.all fun kv => keysOk kv.1) = true) :
    ∃ a f xs, x = .ref a ∧ (a == sysModules) = false ∧ s.heap.DictOfH (tupleKind (mixKind X.prog X.w)) a xs ∧ (∀ k, RelO (f k) ((atKey xs k).map (·.2))) ∧ Gives X.K X.w A H f (fun k => .tuple (k.map kD)) ds := by
  have emp : ∀ {a : Addr} {o : Obj} {es : Array DictEntry} {ep : Nat}, (a == sysModules) = false → s.heap.get? a = some o → o.ExactDict → o.data = .dict es ep → es = #[] → ds = [] → ∃ f xs, (a == sysModules) = false ∧ s.heap.DictOfH (tupleKind (mixKind X.prog X.w)) a xs ∧ (∀ k, RelO (f k) ((atKey xs k).map (·.2))) ∧ Gives X.K X.w A H f (fun k => .tuple (k.map kD)) ds := fun hd ho hc hdt he hds => by
    subst he hds
    exact ⟨fun _ => none, [], hd, ⟨_, #[], _, ho, hc, hdt, rfl, (fun _ z => by cases z), List.nodup_nil⟩, fun _ => trivial, gives_nil fun _ => rfl⟩
  have one : ∀ {a : Addr} {kvs : List (Key × V)}, Rd H a (.dK kvs) → RepK X.K X.w A H kvs ds → ∃ f xs, (a == sysModules) = false ∧ s.heap.DictOfH (tupleKind (mixKind X.prog X.w)) a xs ∧ (∀ k, RelO (f k) ((atKey xs k).map (·.2))) ∧ Gives X.K X.w A H f (fun k => .tuple (k.map kD)) ds := fun h q => by
    cases q with
    | nil =>
      obtain ⟨_, hd, vs, rel, o, es, ep, ho, hc, hdt, hks, hp, _⟩ := dk_rd I.hok h
      cases rel
      have he : es = #[] := by
        have : es.toList = [] := by generalize es.toList = l at hp; cases hp; rfl
        simpa using this
      exact emp hd ho hc hdt he rfl
    | @cons k _ _ _ _ _ _ _ =>
      rw [List.all_cons, Bool.and_eq_true] at hk
      cases k <;> exact absurd hk.1 (by simp [keysOk, kD])
  have two : ∀ {a : Addr} {kvs : List (List Key × V)}, Rd H a (.dT kvs) → RepT X.K X.w A H kvs ds → ∃ f xs, (a == sysModules) = false ∧ s.heap.DictOfH (tupleKind (mixKind X.prog X.w)) a xs ∧ (∀ k, RelO (f k) ((atKey xs k).map (·.2))) ∧ Gives X.K X.w A H f (fun k => .tuple (k.map kD)) ds := fun h q => by
    obtain ⟨_, hd, xs, rel, dd⟩ := dt_rd I.hok h
    exact ⟨_, xs, hd, dd, rel.val, gives_T q⟩
  rcases r with r | ⟨a, rfl, r⟩
  · cases r with
    | dK h n q => obtain ⟨f, f', z⟩ := one h q; exact ⟨_, f, f', rfl, z⟩
    | dT h n q => obtain ⟨f, f', z⟩ := two (.inl h) q; exact ⟨_, f, f', rfl, z⟩
    | dC h q =>
      cases q with
      | nil =>
        obtain ⟨_, _, es, n, hd, r⟩ := h
        have he : es = #[] := by
          have : es.toList = [] := by generalize es.toList = l at r; cases r; rfl
          simpa using this
        obtain ⟨f, f', z⟩ := emp (es := es) (ep := n) hd.low (I.kIn _ _ hd.at_) ⟨rfl, rfl, rfl⟩ rfl he rfl
        exact ⟨_, f, f', rfl, z⟩
      | cons _ _ => rw [List.all_cons, Bool.and_eq_true] at hk; exact absurd hk.1 (by simp [keysOk])
  · rcases r with ⟨_, _, e, _⟩ | ⟨kvs, es, e, h, q⟩ | ⟨kvs, es, e, h, q⟩
    · cases e
    · cases e; obtain ⟨f, f', z⟩ := one (.inl h) q; exact ⟨_, f, f', rfl, z⟩
    · cases e; obtain ⟨f, f', z⟩ := two (.inl h) q.1; exact ⟨_, f, f', rfl, z⟩
end
end Mp

namespace Mp
open PySem PySem.Spec PyProof.Rows L2

section
variable {X : Cx}
theorem dictOk_cases {kvs : List (D × D)} {k : D} (h : dictOk kvs k = true) : (∃ y : Key, k = kD y ∧ (kvs.all fun kv => keyOk kv.1) = true) ∨ (∃ ks : List Key, k = .tuple (ks.map kD) ∧ (kvs.all fun kv => keysOk kv.1) = true) := by
  unfold dictOk at h
  rw [Bool.or_eq_true, Bool.and_eq_true, Bool.and_eq_true] at h
  rcases h with ⟨h1, h2⟩ | ⟨h1, h2⟩
  · obtain ⟨y, e⟩ := keyOk_kD h1; exact .inl ⟨y, e, h2⟩
  · obtain ⟨y, e⟩ := keysOk_T h1; exact .inr ⟨y, e, h2⟩
theorem isSome_of {κ : Type} {K : PySem.W.Frag} {w : World} {A : Addr → Prop} {H : Hp} {f : κ → Option V} {enc : κ → D} {ds : List (D × D)} (g : Gives K w A H f enc ds) (k : κ) : (f k).isSome = (dget ds (enc k)).isSome := by
  have h := g k
  cases e : dget ds (enc k) with
  | none => rw [e] at h; rw [h]; rfl
  | some d => rw [e] at h; obtain ⟨v, hv, _⟩ := h; rw [hv]; rfl
theorem room1 (hu : Deep X) : X.A.units + 1 < cLine := by have : X.A.units + 200 < cLine := hu; omega
/-- y in d -/
theorem in_dict (hu : Deep X) {A : Addr → Prop} {pins : List (Addr × Obj)} {s : Shared} {σ : L2.St} {H : Hp} {x y : V} {v u : Value} {dx : D} {kvs : List (D × D)} {Q : Value → Shared → Prop} (I : Inv X pins σ H s) (rx : RelV x v) (ry : RelV y u)
    (hx : RepR X.K X.w A H x dx) (hy : RepR X.K X.w A H y (.dict kvs)) (hk : dictOk kvs dx = true) (h : ∀ s', Inv X pins σ H s' → Q (.bool (dget kvs dx).isSome) s') : wpAny (model X.prog X.w) X.A (compareOp .In v u) Q X.xe s := by
  rcases dictOk_cases hk with ⟨k, rfl, hall⟩ | ⟨ks, rfl, hall⟩
  · obtain ⟨a, f, f', rfl, hd, hm, hr, g⟩ := dict1 I hy hall
    obtain ⟨ex, _⟩ := rep_key hx; subst ex
    cases ry
    refine wpAny_in_of (kV_is rx) hd hm ?_
    rw [← (hr k).isSome_eq, isSome_of g k]
    exact h _ (I.tok _)
  · obtain ⟨a, f, xs, rfl, hd, hm, hr, g⟩ := dict2 I hy hall
    obtain ⟨b, us, rfl, hb, hbs⟩ := hx.tup
    obtain ⟨eu, _⟩ := rep_keys hbs; subst eu
    cases ry
    cases rx
    refine wpAny_in_heap (tupleKind_room_in1 (room1 hu)) (key_is I hb) hd hm ?_
    have q := (hr ks).isSome_eq
    rw [Option.isSome_map] at q
    have e := isSome_of g ks
    rw [← q, e]
    exact h _ (I.tok _)
theorem notIn_dict (hu : Deep X) {A : Addr → Prop} {pins : List (Addr × Obj)} {s : Shared} {σ : L2.St} {H : Hp} {x y : V} {v u : Value} {dx : D} {kvs : List (D × D)} {Q : Value → Shared → Prop} (I : Inv X pins σ H s) (rx : RelV x v) (ry : RelV y u)
    (hx : RepR X.K X.w A H x dx) (hy : RepR X.K X.w A H y (.dict kvs)) (hk : dictOk kvs dx = true) (h : ∀ s', Inv X pins σ H s' → Q (.bool (!(dget kvs dx).isSome)) s') : wpAny (model X.prog X.w) X.A (compareOp .NotIn v u) Q X.xe s := by
  rcases dictOk_cases hk with ⟨k, rfl, hall⟩ | ⟨ks, rfl, hall⟩
  · obtain ⟨a, f, f', rfl, hd, hm, hr, g⟩ := dict1 I hy hall
    obtain ⟨ex, _⟩ := rep_key hx; subst ex
    cases ry
    refine wpAny_notIn_of (kV_is rx) hd hm ?_
    rw [← (hr k).isSome_eq, isSome_of g k]
    exact h _ (I.tok _)
  · obtain ⟨a, f, xs, rfl, hd, hm, hr, g⟩ := dict2 I hy hall
    obtain ⟨b, us, rfl, hb, hbs⟩ := hx.tup
    obtain ⟨eu, _⟩ := rep_keys hbs; subst eu
    cases ry
    cases rx
    refine wpAny_notIn_heap (tupleKind_room_in1 (room1 hu)) (key_is I hb) hd hm ?_
    have q := (hr ks).isSome_eq
    rw [Option.isSome_map] at q
    have e := isSome_of g ks
    rw [← q, e]
    exact h _ (I.tok _)
theorem op2_in (hu : Deep X) : Op2 X (compareOp .In) (fun a b => (cmp .in_ a b).map .bool) true := by
  intro A pins s σ H x y v u dx dy d Q I rx ry hA hx hy hg hq
  have fin : ∀ b, EP X pins σ Q (.bool b) s → EP X pins σ Q (.bool b) s := fun _ z => z
  have hu' : X.A.units + 200 < cLine := hu
  cases dy with
  | tuple xs =>
    simp only [cmp, isIn] at hg
    split at hg
    · rename_i hc
      cases hg
      obtain ⟨n1, n2, hd⟩ := all_ok hc
      obtain ⟨⟨as, r1⟩, l1⟩ := hx.reads I n1 rx
      obtain ⟨⟨bs, r2⟩, l2⟩ := hy.reads I (nd_tuple n2) ry
      exact SeqAt.in_tuple_reads r2 r1 (by simpa [PyData.canLay0] using l2) l1 (by omega) ⟨.bl _, H, I, rfl, hq _ H (Same.refl H) (.bl _) fun _ z => by cases z⟩
    · cases hg
  | list xs =>
    simp only [cmp, isIn] at hg
    split at hg
    · rename_i hc
      cases hg
      obtain ⟨n1, n2, hd⟩ := all_ok hc
      obtain ⟨⟨as, r1⟩, l1⟩ := hx.reads I n1 rx
      obtain ⟨⟨bs, r2⟩, l2⟩ := hy.reads I (nd_list n2) ry
      exact SeqAt.in_list_reads r2 r1 (by simpa [PyData.canLay0] using l2) l1 (by omega) ⟨.bl _, H, I, rfl, hq _ H (Same.refl H) (.bl _) fun _ z => by cases z⟩
    · cases hg
  | dict kvs =>
    simp only [cmp, isIn] at hg
    split at hg
    · rename_i hc
      cases hg
      exact in_dict hu I rx ry hx hy hc fun s' I' => ⟨.bl _, H, I', rfl, hq _ H (Same.refl H) (.bl _) fun _ z => by cases z⟩
    · cases hg
  | str z =>
    obtain ⟨ey, _⟩ := hy.str; subst ey
    cases dx with
    | str t =>
      obtain ⟨ex, _⟩ := hx.str; subst ex
      obtain ⟨⟨l⟩⟩ := t
      match l, hg, rx with
      | [c], hg, rx =>
        cases hg
        exact op_in_sign pins s σ H _ _ v u Q I rx ry ⟨c, z, rfl, rfl, hq _ H (Same.refl H) (.bl _) fun _ z => by cases z⟩
      | [], hg, rx => cases hg
      | _ :: _ :: _, hg, rx => cases hg
    | _ => cases hg
  | _ => cases hg
theorem op2_nin (hu : Deep X) : Op2 X (compareOp .NotIn) (fun a b => (cmp .nin a b).map .bool) true := by
  intro A pins s σ H x y v u dx dy d Q I rx ry hA hx hy hg hq
  have hu' : X.A.units + 200 < cLine := hu
  cases dy with
  | tuple xs =>
    simp only [cmp, isIn] at hg
    split at hg
    · rename_i hc
      cases hg
      obtain ⟨n1, n2, hd⟩ := all_ok hc
      obtain ⟨⟨as, r1⟩, l1⟩ := hx.reads I n1 rx
      obtain ⟨⟨bs, r2⟩, l2⟩ := hy.reads I (nd_tuple n2) ry
      exact SeqAt.notIn_tuple_reads r2 r1 (by simpa [PyData.canLay0] using l2) l1 (by omega) ⟨.bl _, H, I, rfl, hq _ H (Same.refl H) (.bl _) fun _ z => by cases z⟩
    · cases hg
  | list xs =>
    simp only [cmp, isIn] at hg
    split at hg
    · rename_i hc
      cases hg
      obtain ⟨n1, n2, hd⟩ := all_ok hc
      obtain ⟨⟨as, r1⟩, l1⟩ := hx.reads I n1 rx
      obtain ⟨⟨bs, r2⟩, l2⟩ := hy.reads I (nd_list n2) ry
      exact SeqAt.notIn_list_reads r2 r1 (by simpa [PyData.canLay0] using l2) l1 (by omega) ⟨.bl _, H, I, rfl, hq _ H (Same.refl H) (.bl _) fun _ z => by cases z⟩
    · cases hg
  | dict kvs =>
    simp only [cmp, isIn] at hg
    split at hg
    · rename_i hc
      cases hg
      exact notIn_dict hu I rx ry hx hy hc fun s' I' => ⟨.bl _, H, I', rfl, hq _ H (Same.refl H) (.bl _) fun _ z => by cases z⟩
    · cases hg
  | str z =>
    obtain ⟨ey, _⟩ := hy.str; subst ey
    cases dx with
    | str t =>
      obtain ⟨ex, _⟩ := hx.str; subst ex
      obtain ⟨⟨l⟩⟩ := t
      match l, hg, rx with
      | [c], hg, rx =>
        cases hg
        exact op_notIn_sign pins s σ H _ _ v u Q I rx ry ⟨c, z, rfl, rfl, hq _ H (Same.refl H) (.bl _) fun _ z => by cases z⟩
      | [], hg, rx => cases hg
      | _ :: _ :: _, hg, rx => cases hg
    | _ => cases hg
  | _ => cases hg
def copOf : Co → CmpOp
  | .eq => .Eq | .ne => .NotEq | .lt => .Lt | .le => .LtE | .gt => .Gt | .ge => .GtE | .isn => .Is | .nis => .IsNot | .in_ => .In | .nin => .NotIn
theorem op2_cmp (hu : Deep X) : ∀ o : Co, Op2 X (compareOp (copOf o)) (fun a b => (cmp o a b).map .bool) true
  | .eq => op2_eq hu | .ne => op2_ne hu | .lt => op2_lt | .le => op2_le | .gt => op2_gt | .ge => op2_ge | .isn => op2_isn | .nis => op2_nis | .in_ => op2_in hu | .nin => op2_nin hu

/-! ### subscripts -/
theorem atI_rep {K : PySem.W.Frag} {w : World} {A : Addr → Prop} {H : Hp} {xs : List V} {ds : List D} {i : Int} {d : D} (r : RepAll K w A H xs ds) (h : atI ds i = some d) : ∃ v, atI xs i = some v ∧ Rep K w A H v d := by
  unfold atI at *
  rw [r.length]
  cases e : ixN ds.length i with
  | none => rw [e] at h; cases h
  | some j =>
    rw [e] at h
    exact r.get (i := j) h
def Ix2 (X : Cx) : Prop :=
  ∀ (value slice : Expr) (A : Addr → Prop) (pins : List (Addr × Obj)) (s : Shared) (σ : L2.St) (H : Hp) (x y : V) (v u : Value) (dx dy d : D) (Q : VK), Inv X pins σ H s → RelV x v → RelV y u →
    RepR X.K X.w A H x dx → RepR X.K X.w A H y dy → index dx dy = some d → (∀ z, Rep X.K X.w A H z d → Q z H) → subscripted slice false v u = operate [v, u] (getItem v u) →
    wpAny (model X.prog X.w) X.A (subscriptTail value slice v u) (EP X pins σ Q) X.xe s
theorem ix2 (hu : Deep X) : Ix2 X := by
  intro value slice A pins s σ H x y v u dx dy d Q I rx ry hx hy hg hq hs
  cases dx with
  | tuple ds =>
    cases dy with
    | int i =>
      obtain ⟨a, us, rfl, ha, qa⟩ := hx.tup
      have ey := hy.int; subst ey
      obtain ⟨w, hw, rw'⟩ := atI_rep qa hg
      exact ix_tup value slice pins s σ H _ _ v u Q I rx ry ⟨a, us, i, w, rfl, rfl, ha, hw, hq _ rw'⟩ hs
    | _ => cases hg
  | list ds =>
    cases dy with
    | int i =>
      obtain ⟨a, us, rfl, ha, qa⟩ := hx.lst
      have ey := hy.int; subst ey
      obtain ⟨w, hw, rw'⟩ := atI_rep qa hg
      exact ix_list value slice pins s σ H _ _ v u Q I rx ry ⟨a, us, i, w, rfl, rfl, ha.sq, hw, hq _ rw'⟩ hs
    | _ => cases hg
  | str z =>
    cases dy with
    | int i =>
      obtain ⟨ex, hz⟩ := hx.str; subst ex
      have ey := hy.int; subst ey
      simp only [index] at hg
      split at hg
      · rename_i hl
        obtain ⟨c, hc, rfl⟩ := Option.map_eq_some_iff.mp hg
        refine ix_str value slice pins s σ H _ _ v u Q I rx ry ⟨z, i, c, rfl, rfl, okLen_le hl, hc, hq _ (.str _ ?_)⟩ hs
        unfold PyData.strOk at *
        obtain ⟨j, _, hj, _⟩ := atI_get hc
        have hm : c ∈ z.cps := Array.mem_toList_iff.mp (List.mem_of_getElem? hj)
        have := Array.all_eq_true_iff_forall_mem.mp hz c hm
        simpa using this
      · cases hg
    | _ => cases hg
  | dict kvs =>
    simp only [index] at hg
    split at hg
    · rename_i hk
      rcases dictOk_cases hk with ⟨k, rfl, hall⟩ | ⟨ks, rfl, hall⟩
      · obtain ⟨a, f, f', rfl, hd, hm, hr, g⟩ := dict1 I hx hall
        obtain ⟨ex, _⟩ := rep_key hy; subst ex
        cases rx
        have gk := g k
        rw [hg] at gk
        obtain ⟨w, hw, rw'⟩ := gk
        obtain ⟨w', hw', rr⟩ := RelO.some_of (v := w) (o := f' k) (by rw [← hw]; exact hr k)
        exact tail_any hm.typeIs PySem.F.slot_dict_getitem.lookup (wpAny_getItem_of (kV_is ry) hm hw' ⟨w, H, I.tok _, rr, hq _ rw'⟩) hs
      · obtain ⟨a, f, xs, rfl, hd, hm, hr, g⟩ := dict2 I hx hall
        obtain ⟨b, us, rfl, hb, hbs⟩ := hy.tup
        obtain ⟨eu, _⟩ := rep_keys hbs; subst eu
        cases rx
        cases ry
        have gk := g ks
        simp only [hg] at gk
        obtain ⟨w, hw, rw'⟩ := gk
        obtain ⟨w', hw', rr⟩ := RelO.some_of (v := w) (o := (atKey xs ks).map (·.2)) (by rw [← hw]; exact hr ks)
        obtain ⟨p, hp, hp2⟩ := Option.map_eq_some_iff.mp hw'
        refine tail_any hm.typeIs PySem.F.slot_dict_getitem.lookup (wpAny_getItem_heap (tupleKind_room_in1 (room1 hu)) (key_is I hb) hm hp ?_) hs
        rw [hp2]
        exact ⟨w, H, I.tok _, rr, hq _ rw'⟩
    · cases hg
  | _ => cases hg

/-! ### slices -/
def Sl2 (X : Cx) : Prop :=
  ∀ (A : Addr → Prop) (pins : List (Addr × Obj)) (s : Shared) (σ : L2.St) (H : Hp) (x : V) (v vl vu : Value) (lo hi : Option Int) (sl : Addr) (dx d : D) (Q : VK), Inv X pins σ H s → RelV x v → s.heap.IsSliceOf sl vl vu .none → IsPart vl lo → IsPart vu hi → (∀ a, A a → H a ≠ none) →
    RepR X.K X.w A H x dx → slice dx lo hi = some d → (∀ z H', Same H H' → Rep X.K X.w A H' z d → (isMut d = true → ∃ p, z = .ref p ∧ H p = none ∧ Root X.K X.w (plus A p) H' p d) → Q z H') →
    ∃ T id, typeLookup (.type T) "__getitem__" = pure (some (.builtin id)) ∧ s.TypeIs v T ∧ wpAny (model X.prog X.w) X.A (getItem v (.ref sl)) (EP X pins σ Q) X.xe s
theorem cut_rep {K : PySem.W.Frag} {w : World} {A : Addr → Prop} {H : Hp} {xs : List V} {ds : List D} (r : RepAll K w A H xs ds) (lo hi : Option Int) : RepAll K w A H (cutV xs lo hi) (cut ds lo hi) := by
  unfold cutV cut
  rw [r.length]
  exact (r.drop _).take _
theorem strOk_sub {x y : Str} (hx : PyData.strOk x = true) (h : ∀ c ∈ y.cps, c ∈ x.cps) : PyData.strOk y = true := by
  unfold PyData.strOk at *
  rw [Array.all_eq_true_iff_forall_mem] at *
  exact fun c hc => hx c (h c hc)
theorem cutS_sub (z : Str) (lo hi : Option Int) : ∀ c ∈ (cutS z lo hi).cps, c ∈ z.cps := fun c hc => by
  unfold cutS at hc
  have h1 : c ∈ (z.cps.toList.drop (HT.sIx z.length 0 lo)).take (HT.sIx z.length z.length hi - HT.sIx z.length 0 lo) := by simpa using hc
  exact Array.mem_toList_iff.mp (List.mem_of_mem_drop (List.mem_of_mem_take h1))
theorem sl2 : Sl2 X := by
  intro A pins s σ H x v vl vu lo hi sl dx d Q I rx hs pl pu hA hx hg hq
  cases dx with
  | tuple ds =>
    cases hg
    have tx := hx.tupR
    obtain ⟨a, us, rfl, ha, qa⟩ := hx.tup
    refine sl_tupF pins s σ H _ v vl vu lo hi sl Q I rx hs pl pu ⟨a, us, rfl, ha, fun hw => ?_, fun hw p o hp hd => ?_⟩
    · have e : cut ds lo hi = ds := by
        unfold cut
        rw [qa.length] at hw
        rw [hw.1, hw.2, List.drop_zero, Nat.sub_zero, List.take_length]
      rw [e] at hq
      exact hq _ H (Same.refl H) tx fun z => by cases z
    · exact hq _ _ (upd_self hp) (rep_newT hp hd hA (cut_rep qa lo hi)) fun z => by cases z
  | list ds =>
    cases hg
    obtain ⟨a, us, rfl, ha, qa⟩ := hx.lst
    refine sl_list pins s σ H _ v vl vu lo hi sl Q I rx hs pl pu ⟨a, us, rfl, ha.sq, fun p hp => ?_⟩
    exact hq _ _ (upd_self hp) (rep_newL hp hA (cut_rep qa lo hi)) fun _ => ⟨p, rfl, hp, root_newL hp (cut_rep qa lo hi)⟩
  | str z =>
    obtain ⟨ex, hz⟩ := hx.str; subst ex
    simp only [slice] at hg
    split at hg
    · rename_i hl
      cases hg
      exact sl_str pins s σ H _ v vl vu lo hi sl Q I rx hs pl pu ⟨z, rfl, okLen_le hl, hq _ H (Same.refl H) (.str _ (strOk_sub hz (cutS_sub z lo hi))) fun z => by cases z⟩
    · cases hg
  | _ => cases hg
end
end Mp

namespace Mp
open PySem PySem.Spec PyProof.Rows L2

section
variable {K : PySem.W.Frag} {w : World} {A : Addr → Prop} {H : Hp}
theorem bools_rep : ∀ {ds : List D} {bs : List Bool} {xs : List V}, boolsOf ds = some bs → RepAll K w A H xs ds → xs = bs.map V.bl
  | [], _, _, h, .nil => by cases h; rfl
  | d :: ds, bs, _, h, .cons r s => by
    cases d with
    | bool b =>
      simp only [boolsOf] at h
      obtain ⟨cs, hc, rfl⟩ := Option.map_eq_some_iff.mp h
      have e := (RepR.bl (.inl r)); subst e
      rw [bools_rep hc s]; rfl
    | _ => cases h
theorem ints_rep : ∀ {ds : List D} {bs : List Int} {xs : List V}, intsOf ds = some bs → RepAll K w A H xs ds → xs = bs.map V.int
  | [], _, _, h, .nil => by cases h; rfl
  | d :: ds, bs, _, h, .cons r s => by
    cases d with
    | int b =>
      simp only [intsOf] at h
      obtain ⟨cs, hc, rfl⟩ := Option.map_eq_some_iff.mp h
      have e := (RepR.int (.inl r)); subst e
      rw [ints_rep hc s]; rfl
    | _ => cases h
theorem strs_rep : ∀ {ds : List D} {bs : List Str} {xs : List V}, strsOf ds = some bs → RepAll K w A H xs ds → xs = bs.map V.str ∧ ∀ b ∈ bs, PyData.strOk b = true
  | [], _, _, h, .nil => by cases h; exact ⟨rfl, fun _ z => by cases z⟩
  | d :: ds, bs, _, h, .cons r s => by
    cases d with
    | str b =>
      simp only [strsOf] at h
      obtain ⟨cs, hc, rfl⟩ := Option.map_eq_some_iff.mp h
      obtain ⟨e, hb⟩ := (RepR.str (.inl r)); subst e
      obtain ⟨e2, hs⟩ := strs_rep hc s
      rw [e2]
      exact ⟨rfl, fun x hx => by rcases List.mem_cons.mp hx with e | hx; exact e ▸ hb; exact hs x hx⟩
    | _ => cases h
theorem repK_repl {k : Key} {v : V} {d : D} (hk : kOk k) (r : Rep K w A H v d) : ∀ {kvs : List (Key × V)} {ds : List (D × D)}, RepK K w A H kvs ds →
    RepK K w A H (kvs.map fun kv => if kv.1 = k then (kv.1, v) else kv) (ds.map fun kv => if PyData.eqv kv.1 (kD k) then (kv.1, d) else kv)
  | [], _, .nil => .nil
  | (j, u) :: kvs, _, .cons hj rj s => by
    have ih := repK_repl hk r s
    simp only [List.map_cons, eqv_kD]
    by_cases h : j = k
    · simp only [h, decide_true, if_true]
      exact .cons hk r ih
    · simp only [h, decide_false, Bool.false_eq_true, if_false]
      exact .cons hj rj ih
theorem repK_any {k : Key} : ∀ {kvs : List (Key × V)} {ds : List (D × D)}, RepK K w A H kvs ds → (kvs.any fun kv => decide (kv.1 = k)) = ds.any fun kv => PyData.eqv kv.1 (kD k)
  | [], _, .nil => rfl
  | (j, u) :: kvs, _, .cons hj rj s => by
    simp only [List.any_cons, eqv_kD, repK_any s]
theorem repK_append {kvs kvs' : List (Key × V)} {ds ds' : List (D × D)} (r : RepK K w A H kvs ds) (s : RepK K w A H kvs' ds') : RepK K w A H (kvs ++ kvs') (ds ++ ds') := by
  revert ds
  induction kvs with
  | nil => intro ds r; cases r; exact s
  | cons p kvs ih => intro ds r; cases r with
    | cons h r t => exact .cons h r (ih t)
theorem repK_put {k : Key} {v : V} {d : D} {kvs : List (Key × V)} {ds : List (D × D)} (hk : kOk k) (r : Rep K w A H v d) (s : RepK K w A H kvs ds) : RepK K w A H (putK kvs k v) (dput ds (kD k) d) := by
  unfold putK dput
  rw [repK_any s]
  split
  · exact repK_repl hk r s
  · exact repK_append s (.cons hk r .nil)
theorem repK_merge : ∀ {more kvs : List (Key × V)} {ms ds : List (D × D)}, RepK K w A H more ms → RepK K w A H kvs ds → RepK K w A H (mergeK kvs more) (ms.foldl (fun a kv => dput a kv.1 kv.2) ds)
  | [], _, _, _, .nil, s => s
  | (k, v) :: more, kvs, _, ds, .cons hk r t, s => by
    have h := repK_merge (kvs := putK kvs k v) t (repK_put hk r s)
    exact h
/-- pairs, as the new dict takes them -/
theorem pairs_rep : ∀ {ds : List D} {ms : List (D × D)} {xs : List V}, pairsOf ds = some ms → RepAll K w A H xs ds → ∃ (ps : List Addr) (kvs : List (Key × V)), xs = ps.map V.ref ∧ Paired (fun p kv => SqT K H p [kV kv.1, kv.2]) ps kvs ∧ RepK K w A H kvs ms
  | [], _, _, h, .nil => by cases h; exact ⟨[], [], rfl, .nil, .nil⟩
  | d :: ds, ms, _, h, .cons r s => by
    match d, h, r with
    | .tuple [k, v], h, r =>
      simp only [pairsOf] at h
      split at h
      · rename_i hk
        obtain ⟨cs, hc, rfl⟩ := Option.map_eq_some_iff.mp h
        obtain ⟨a, us, rfl, ha, hus⟩ := RepR.tup (.inl r)
        obtain ⟨y, rfl⟩ := keyOk_kD hk
        cases hus with
        | cons r1 t =>
          cases t with
          | cons r2 t2 =>
            cases t2
            obtain ⟨e, hy⟩ := rep_key (.inl r1); subst e
            obtain ⟨ps, kvs, rfl, h1, h2⟩ := pairs_rep hc s
            exact ⟨a :: ps, (y, _) :: kvs, rfl, .cons ha h1, .cons hy r2 h2⟩
      · cases h
theorem paired1 {R : V → D → Prop} {xs : List V} {d : D} (r : Paired R xs [d]) : ∃ x, xs = [x] ∧ R x d := by
  cases r with
  | cons h t => cases t; exact ⟨_, rfl, h⟩
theorem paired2 {R : V → D → Prop} {xs : List V} {d e : D} (r : Paired R xs [d, e]) : ∃ x y, xs = [x, y] ∧ R x d ∧ R y e := by
  cases r with
  | cons h t => cases t with
    | cons h' t' => cases t'; exact ⟨_, _, rfl, h, h'⟩
theorem reprOk_iff {d : D} (h : reprOk d = true) : nd d = true ∧ PyData.strOk d.shown = true ∧ d.showable = true ∧ d.shown.length ≤ sizeLine ∧ d.depth ≤ 128 := by
  unfold reprOk at h
  simp only [Bool.and_eq_true] at h
  obtain ⟨⟨⟨⟨⟨h1, h0⟩, h2⟩, h3⟩, h4⟩, h5⟩ := h
  exact ⟨h1, h0, h2, Nat.le_trans (PyData.shown_le_bulk 40 (by decide) d h3) (okLen_le h4), of_decide_eq_true h5⟩
end
/-- what a built-in's name stands for -/
def bfVal : Bf → Value
  | .len => .builtin "len" | .list => .type "list" | .tuple => .type "tuple" | .dict => .type "dict" | .int => .type "int" | .str => .type "str" | .repr => .builtin "repr" | .sorted => .builtin "sorted"
  | .min => .builtin "min" | .max => .builtin "max" | .sum => .builtin "sum" | .all => .builtin "all" | .any => .builtin "any" | .abs => .builtin "abs"
abbrev Bf1 (X : Cx) (b : Bf) : Prop := OpN X (fun vs => call (bfVal b) vs) (bf b) true
section
variable {X : Cx}
theorem noMut {A : Addr → Prop} {H H' : Hp} {z : V} {d : D} (h : isMut d = false) : true = true → isMut d = true → ∃ p, z = .ref p ∧ H p = none ∧ Root X.K X.w (plus A p) H' p d := fun _ q => by rw [h] at q; cases q
theorem bf_len : Bf1 X .len := by
  intro A pins s σ H xs vs dxs d Q I rv hA hx hg hq
  match dxs, hg, hx with
  | [.tuple ds], hg, hx =>
    cases hg
    obtain ⟨x, rfl, r⟩ := paired1 hx
    obtain ⟨a, us, rfl, ha, hus⟩ := r.tup
    refine call_len_seq pins s σ H _ vs Q I rv ⟨a, us, rfl, .inr ha, ?_⟩
    rw [hus.length]
    exact hq _ H (Same.refl H) (.int _) (noMut rfl)
  | [.list ds], hg, hx =>
    cases hg
    obtain ⟨x, rfl, r⟩ := paired1 hx
    obtain ⟨a, us, rfl, ha, hus⟩ := r.lst
    refine call_len_seq pins s σ H _ vs Q I rv ⟨a, us, rfl, .inl ha.sq, ?_⟩
    rw [hus.length]
    exact hq _ H (Same.refl H) (.int _) (noMut rfl)
  | [.str z], hg, hx =>
    simp only [bf] at hg
    split at hg
    · rename_i hl
      cases hg
      obtain ⟨x, rfl, r⟩ := paired1 hx
      obtain ⟨e, hz⟩ := r.str; subst e
      exact call_len_str pins s σ H _ vs Q I rv ⟨z, rfl, okLen_le hl, hq _ H (Same.refl H) (.int _) (noMut rfl)⟩
    · cases hg
theorem bf_list : Bf1 X .list := by
  intro A pins s σ H xs vs dxs d Q I rv hA hx hg hq
  match dxs, hg, hx with
  | [.tuple ds], hg, hx =>
    cases hg
    obtain ⟨x, rfl, r⟩ := paired1 hx
    obtain ⟨a, us, rfl, ha, hus⟩ := r.tup
    exact call_list_of pins s σ H _ vs Q I rv ⟨a, us, rfl, .inr ha, fun l hl => hq _ _ (upd_self hl) (rep_newL hl hA hus) fun _ _ => ⟨l, rfl, hl, root_newL hl hus⟩⟩
  | [.list ds], hg, hx =>
    cases hg
    obtain ⟨x, rfl, r⟩ := paired1 hx
    obtain ⟨a, us, rfl, ha, hus⟩ := r.lst
    exact call_list_of pins s σ H _ vs Q I rv ⟨a, us, rfl, .inl ha.sq, fun l hl => hq _ _ (upd_self hl) (rep_newL hl hA hus) fun _ _ => ⟨l, rfl, hl, root_newL hl hus⟩⟩
theorem bf_tuple : Bf1 X .tuple := by
  intro A pins s σ H xs vs dxs d Q I rv hA hx hg hq
  match dxs, hg, hx with
  | [.tuple ds], hg, hx =>
    cases hg
    obtain ⟨x, rfl, r⟩ := paired1 hx
    have tr := r.tupR
    obtain ⟨a, us, rfl, ha, hus⟩ := r.tup
    exact call_tupF pins s σ H _ vs Q I rv ⟨a, us, rfl, .inr ⟨ha, hq _ H (Same.refl H) tr (noMut rfl)⟩⟩
  | [.list ds], hg, hx =>
    cases hg
    obtain ⟨x, rfl, r⟩ := paired1 hx
    obtain ⟨a, us, rfl, ha, hus⟩ := r.lst
    exact call_tupF pins s σ H _ vs Q I rv ⟨a, us, rfl, .inl ⟨ha.sq, fun l o hl hd => hq _ _ (upd_self hl) (rep_newT hl hd hA hus) (noMut rfl)⟩⟩
theorem root_newK {K : PySem.W.Frag} {w : World} {A : Addr → Prop} {H : Hp} {p : Addr} {kvs : List (Key × V)} {ds : List (D × D)} (hp : H p = none) (r : RepK K w A H kvs ds) : Root K w (plus A p) (upd H p (.dK kvs)) p (.dict ds) :=
  .inr (.inl ⟨kvs, ds, rfl, upd_same, (r.go (go_new hp)).go (Kp.of_same (upd_self hp)).go⟩)
theorem rep_newK {K : PySem.W.Frag} {w : World} {A : Addr → Prop} {H : Hp} {p : Addr} {kvs : List (Key × V)} {ds : List (D × D)} (hp : H p = none) (hA : ∀ a, A a → H a ≠ none) (r : RepK K w A H kvs ds) : Rep K w A (upd H p (.dK kvs)) (.ref p) (.dict ds) :=
  .dK (.inl upd_same) (fun z => hA p z hp) (r.go (Kp.of_same (upd_self hp)).go)
theorem bf_dict (hc : X.calm = true) : Bf1 X .dict := by
  intro A pins s σ H xs vs dxs d Q I rv hA hx hg hq
  match dxs, hg, hx with
  | [.list ds], hg, hx =>
    simp only [bf] at hg
    obtain ⟨ms, hm, rfl⟩ := Option.map_eq_some_iff.mp hg
    obtain ⟨x, rfl, r⟩ := paired1 hx
    obtain ⟨a, us, rfl, ha, hus⟩ := r.lst
    obtain ⟨ps, kvs, rfl, h1, h2⟩ := pairs_rep hm hus
    have h3 : RepK X.K X.w A H (mergeK [] kvs) (ms.foldl (fun a kv => dput a kv.1 kv.2) []) := repK_merge h2 .nil
    exact call_dictP hc pins s σ H _ vs Q I rv ⟨a, ps, kvs, rfl, ha.sq, h1, fun p hp => hq _ _ (upd_self hp) (rep_newK hp hA h3) fun _ _ => ⟨p, rfl, hp, root_newK hp h3⟩⟩
  | [.dict ds], hg, hx =>
    simp only [bf] at hg
    split at hg
    · rename_i hk
      cases hg
      obtain ⟨x, rfl, r⟩ := paired1 hx
      obtain ⟨a, kvs, us, rfl, hd, hz, rel, dd, q⟩ := dictOf1 I r hk
      cases rv with
      | cons rv rt =>
        cases rt
        cases rv
        refine kt_call_dict hd dd (by rw [← rel.length]; exact hz) fun h' dd' hs => ?_
        have fr : H s.heap.objs.size = none := I.hok.fresh (Nat.le_refl _)
        refine ⟨.ref s.heap.objs.size, _, I.laid (a := s.heap.objs.size) (o := .dK kvs) (t' := s.toks) (fun b u hu => ?_) (Nat.le_refl _) (dk_new hz (beq_eq_false_iff_ne.mpr (Ne.symm (Nat.ne_of_lt I.big))) rel dd'), rfl, hq _ _ (upd_self fr) (rep_newK fr hA q) fun _ _ => ⟨_, rfl, fr, root_newK fr q⟩⟩
        exact (hs.2 b (Nat.ne_of_lt (Heap.lt_size hu))).trans (Heap.get?_push_of_some _ hu)
    · cases hg
theorem bf_int : Bf1 X .int := by
  intro A pins s σ H xs vs dxs d Q I rv hA hx hg hq
  match dxs, hg, hx with
  | [.bool b], hg, hx =>
    cases hg
    obtain ⟨x, rfl, r⟩ := paired1 hx
    have e := r.bl; subst e
    exact call_int1 pins s σ H _ vs Q I rv (.inr ⟨b, rfl, hq _ H (Same.refl H) (.int _) (noMut rfl)⟩)
  | [.int i], hg, hx =>
    cases hg
    obtain ⟨x, rfl, r⟩ := paired1 hx
    have e := r.int; subst e
    exact call_int1 pins s σ H _ vs Q I rv (.inl ⟨i, rfl, hq _ H (Same.refl H) (.int _) (noMut rfl)⟩)
theorem bf_max (hc : X.calm = true) : Bf1 X .max := by
  intro A pins s σ H xs vs dxs d Q I rv hA hx hg hq
  match dxs, hg, hx with
  | [.int i, .int j], hg, hx =>
    cases hg
    obtain ⟨x, y, rfl, r1, r2⟩ := paired2 hx
    have e1 := r1.int; have e2 := r2.int; subst e1 e2
    exact call_max2 hc pins s σ H _ vs Q I rv ⟨i, j, rfl, hq _ H (Same.refl H) (.int _) (noMut rfl)⟩
theorem bf_min (hc : X.calm = true) : Bf1 X .min := by
  intro A pins s σ H xs vs dxs d Q I rv hA hx hg hq
  match dxs, hg, hx with
  | [.int i, .int j], hg, hx =>
    cases hg
    obtain ⟨x, y, rfl, r1, r2⟩ := paired2 hx
    have e1 := r1.int; have e2 := r2.int; subst e1 e2
    exact call_min2 hc pins s σ H _ vs Q I rv ⟨i, j, rfl, hq _ H (Same.refl H) (.int _) (noMut rfl)⟩
theorem bf_all (hc : X.calm = true) : Bf1 X .all := by
  intro A pins s σ H xs vs dxs d Q I rv hA hx hg hq
  match dxs, hg, hx with
  | [.list ds], hg, hx =>
    simp only [bf] at hg
    obtain ⟨bs, hm, rfl⟩ := Option.map_eq_some_iff.mp hg
    obtain ⟨x, rfl, r⟩ := paired1 hx
    obtain ⟨a, us, rfl, ha, hus⟩ := r.lst
    have e := bools_rep hm hus; subst e
    exact cr_all hc pins s σ H _ vs Q I rv ⟨a, bs, rfl, ha.sq, hq _ H (Same.refl H) (.bl _) (noMut rfl)⟩
theorem bf_any (hc : X.calm = true) : Bf1 X .any := by
  intro A pins s σ H xs vs dxs d Q I rv hA hx hg hq
  match dxs, hg, hx with
  | [.list ds], hg, hx =>
    simp only [bf] at hg
    obtain ⟨bs, hm, rfl⟩ := Option.map_eq_some_iff.mp hg
    obtain ⟨x, rfl, r⟩ := paired1 hx
    obtain ⟨a, us, rfl, ha, hus⟩ := r.lst
    have e := bools_rep hm hus; subst e
    exact cr_any hc pins s σ H _ vs Q I rv ⟨a, bs, rfl, ha.sq, hq _ H (Same.refl H) (.bl _) (noMut rfl)⟩
theorem bf_sum (hc : X.calm = true) : Bf1 X .sum := by
  intro A pins s σ H xs vs dxs d Q I rv hA hx hg hq
  match dxs, hg, hx with
  | [.list ds], hg, hx =>
    simp only [bf] at hg
    obtain ⟨bs, hm, rfl⟩ := Option.map_eq_some_iff.mp hg
    obtain ⟨x, rfl, r⟩ := paired1 hx
    obtain ⟨a, us, rfl, ha, hus⟩ := r.lst
    have e := ints_rep hm hus; subst e
    exact cr_sum hc pins s σ H _ vs Q I rv ⟨a, bs, rfl, ha.sq, hq _ H (Same.refl H) (.int _) (noMut rfl)⟩
theorem bf_repr (hu : Deep X) (hgd : X.A.guards = some []) : Bf1 X .repr := by
  intro A pins s σ H xs vs dxs d Q I rv hA hx hg hq
  match dxs, hg, hx with
  | [e], hg, hx =>
    simp only [bf] at hg
    split at hg
    · rename_i hc
      rw [Bool.and_eq_true] at hc
      cases hg
      obtain ⟨x, rfl, r⟩ := paired1 hx
      obtain ⟨h1, h0, h2, h3, h4⟩ := reprOk_iff hc.2
      cases rv with
      | @cons _ u _ _ rv rt =>
        cases rt
        obtain ⟨⟨as, rd⟩, _⟩ := r.reads I h1 rv
        have hu' : X.A.units + 200 < cLine := hu
        have key : ∀ a : Addr, x = .ref a → wpAny (model X.prog X.w) X.A (call (bfVal .repr) [u]) (EP X pins σ Q) X.xe s := fun a ex => by
          subst ex
          have eu : u = Value.ref a := rv
          subst eu
          exact repr_of_reads' rd h2 (PyData.noDict_hsm (by simpa [nd] using h1)) hgd (by omega) (fun _ _ z => z) (fun h' u tk hk => ⟨.str _, H, I.kept hk, ⟨_, rfl⟩, hq _ H (Same.refl H) (.str _ h0) (noMut rfl)⟩) h3
        have hseq := hc.1
        match e, hseq, r with
        | .tuple ds, _, r => obtain ⟨a, _, ex, _⟩ := r.tup; exact key a ex
        | .list ds, _, r => obtain ⟨a, _, ex, _⟩ := r.lst; exact key a ex
    · cases hg
end
end Mp

namespace Mp
open PySem PySem.Spec PyProof.Rows L2

section
variable {X : Cx}
theorem each_of {A : Addr → Prop} {H : Hp} : ∀ {vs : List V} {us : List Value} {ds : List D}, Vals vs us → RepAll X.K X.w A H vs ds → PySem.W.EachIs (fun u d => ∃ v, RelV v u ∧ Rep X.K X.w A H v d) us ds
  | _, _, _, .nil, .nil => .nil
  | _, _, _, .cons r t, .cons q s => .cons ⟨_, r, q⟩ (each_of t s)
theorem of_each {A : Addr → Prop} {H : Hp} : ∀ {us : List Value} {ds : List D}, PySem.W.EachIs (fun u d => ∃ v, RelV v u ∧ Rep X.K X.w A H v d) us ds → ∃ vs, Vals vs us ∧ RepAll X.K X.w A H vs ds
  | _, _, .nil => ⟨[], .nil, .nil⟩
  | _, _, .cons ⟨v, r, q⟩ t => by
    obtain ⟨vs, h1, h2⟩ := of_each t
    exact ⟨v :: vs, .cons r h1, .cons q h2⟩
theorem each_reads {A : Addr → Prop} {H : Hp} {pins : List (Addr × Obj)} {s : Shared} {σ : L2.St} (I : Inv X pins σ H s) : ∀ {vs : List V} {us : List Value} {ds : List D}, Vals vs us → RepAll X.K X.w A H vs ds → (∀ d ∈ ds, nd d = true) → PySem.W.EachIs (fun u d => ∃ as, Reads s.heap u (id d) as) us ds
  | _, _, _, .nil, .nil, _ => .nil
  | _, _, _, .cons r t, .cons q s, h => .cons (RepR.reads I (.inl q) (h _ List.mem_cons_self) r).1 (each_reads I t s fun d hd => h d (List.mem_cons_of_mem _ hd))
theorem isTup1_ex {d : D} (h : isTup1 d = true) : ∃ x r, d = .tuple (x :: r) := by
  cases d with
  | tuple xs => cases xs with
    | nil => cases h
    | cons x r => exact ⟨x, r, rfl⟩
  | _ => cases h
theorem noTup_ex {d : D} (h : noTup d = true) : d ≠ .none ∧ ∀ xs, d ≠ .tuple xs := by
  cases d with
  | none => cases h
  | tuple xs => cases h
  | _ => exact ⟨by simp, by simp⟩
theorem bf_sorted (hu : Deep X) : Bf1 X .sorted := by
  intro A pins s σ H xs vs dxs d Q I rv hA hx hg hq
  match dxs, hg, hx with
  | [.list ds], hg, hx =>
    simp only [bf] at hg
    split at hg
    · rename_i hc
      cases hg
      unfold sortOk at hc
      simp only [Bool.and_eq_true] at hc
      obtain ⟨⟨⟨h1, h2⟩, h3⟩, h4⟩ := hc
      rw [List.all_eq_true] at h1 h3
      obtain ⟨x, rfl, r⟩ := paired1 hx
      obtain ⟨a, us, rfl, ha, hus⟩ := r.lst
      obtain ⟨z, its, n, rits, hl, e⟩ := ha.ok I
      cases rv with
      | @cons _ u _ _ rv rt =>
        cases rt
        have eu : u = Value.ref a := rv
        subst eu
        have hn : ∀ d ∈ ds, nd d = true := fun d hd => by
          have := h3 d hd
          rw [Bool.and_eq_true] at this
          exact this.1
        have hu' : X.A.units + 200 < cLine := hu
        have hal : PySem.W.AllAlike (ds.map id) := by
          rw [List.map_id]
          intro d hd d' hd'
          exact List.all_eq_true.mp (h1 d hd) d' hd'
        have hk : PySem.W.Sortable (ds.map id) := by
          rw [List.map_id]
          rw [Bool.or_eq_true, List.all_eq_true, List.all_eq_true] at h2
          rcases h2 with h2 | h2
          · exact .inl fun d hd => isTup1_ex (h2 d hd)
          · exact .inr fun d hd => noTup_ex (h2 d hd)
        refine PySem.W.sorted_data (enc := id) (bs := ds) (vs := its) (R := fun u d => ∃ v, RelV v u ∧ Rep X.K X.w A H v d) ⟨_, e, rfl, n, rfl⟩ (each_of rits hus) (each_reads I rits hus hn) hal hk (okLen_le h4) (fun b hb => ?_) (fun out ho hr => ?_)
        · have := h3 b hb
          rw [Bool.and_eq_true] at this
          have := of_decide_eq_true this.2
          show X.A.units + 2 + b.depth < cLine
          omega
        · obtain ⟨ws, hw1, hw2⟩ := of_each hr
          have hw2' : RepAll X.K X.w A H ws (sortD ds) := hw2
          have fr : H (s.heap.objs.size + 1) = none := I.hok.fresh (Nat.le_succ _)
          have hlen : ws.length ≤ sizeLine := by rw [hw1.length, ho]; exact okLen_le h4
          obtain ⟨c, hc⟩ := sortedAll_at s.heap its out.toArray
          exact ⟨.ref (s.heap.objs.size + 1), _, I.laid (a := s.heap.objs.size + 1) (o := .lst ws) (t' := s.toks) (fun b u hb => sortedAll_old hb) (Nat.le_succ _) ⟨hlen, out, c, hw1, hc⟩, rfl,
            hq _ _ (upd_self fr) (rep_newL fr hA hw2') fun _ _ => ⟨_, rfl, fr, root_newL fr hw2'⟩⟩
    · cases hg
theorem bf_none {b : Bf} (h : ∀ ds, bf b ds = none) : Bf1 X b := by
  intro A pins s σ H xs vs dxs d Q I rv hA hx hg hq
  rw [h] at hg; cases hg
/-- what a body is run in -/
structure Fit (X : Cx) : Prop where
  calm : X.calm = true
  deep : Deep X
  gds : X.A.guards = some []
theorem bf_ok (F : Fit X) : ∀ b : Bf, Bf1 X b
  | .len => bf_len | .list => bf_list | .tuple => bf_tuple | .dict => bf_dict F.calm | .int => bf_int | .str => bf_none fun ds => by
      unfold bf; split <;> simp_all
  | .repr => bf_repr F.deep F.gds | .sorted => bf_sorted F.deep
  | .min => bf_min F.calm | .max => bf_max F.calm | .sum => bf_sum F.calm | .all => bf_all F.calm | .any => bf_any F.calm | .abs => bf_none fun ds => by
      unfold bf; split <;> simp_all

/-! ### methods -/
def Mt1 (X : Cx) (m : Mt) : Prop :=
  ∀ (A : Addr → Prop) (pins : List (Addr × Obj)) (s : Shared) (σ : L2.St) (H : Hp) (x : V) (v : Value) (dx : D) (xs : List V) (vs : List Value) (dxs : List D) (d : D) (Q : VK), Inv X pins σ H s → RelV x v → Vals xs vs → (∀ a, A a → H a ≠ none) →
    RepR X.K X.w A H x dx → Paired (RepR X.K X.w A H) xs dxs → mt m dx dxs = some d → (∀ z H', Same H H' → Rep X.K X.w A H' z d ∨ (∃ j : Nat, xs[j]? = some z ∧ dxs[j]? = some d ∧ H' = H) → Q z H') →
    ∃ id, mtId m dx = some id ∧ wpAny (model X.prog X.w) X.A (call (.builtin id) (v :: vs)) (EP X pins σ Q) X.xe s
theorem getD_rep {κ : Type} {K : PySem.W.Frag} {w : World} {A : Addr → Prop} {H : Hp} {f : κ → Option V} {enc : κ → D} {ds : List (D × D)} (g : Gives K w A H f enc ds) (k : κ) : (∃ v d, f k = some v ∧ dget ds (enc k) = some d ∧ Rep K w A H v d) ∨ (f k = none ∧ dget ds (enc k) = none) := by
  have h := g k
  cases e : dget ds (enc k) with
  | none => rw [e] at h; exact .inr ⟨h, rfl⟩
  | some d => rw [e] at h; obtain ⟨v, hv, r⟩ := h; exact .inl ⟨v, d, hv, rfl, r⟩
theorem vals_one {x : V} {us : List Value} (r : Vals [x] us) : ∃ u, us = [u] ∧ RelV x u := by
  cases r with
  | cons h t => cases t; exact ⟨_, rfl, h⟩
theorem vals_two {x y : V} {us : List Value} (r : Vals [x, y] us) : ∃ u w, us = [u, w] ∧ RelV x u ∧ RelV y w := by
  cases r with
  | cons h t => cases t with
    | cons h' t' => cases t'; exact ⟨_, _, rfl, h, h'⟩
theorem mt_get (hu : Deep X) : Mt1 X .get := by
  intro A pins s σ H x v dx xs vs dxs d Q I rx rv hA hx hxs hg hq
  match dx, dxs, hg, hx, hxs with
  | .dict kvs, [k], hg, hx, hxs =>
    simp only [mt] at hg
    split at hg
    · rename_i hk
      cases hg
      refine ⟨_, rfl, ?_⟩
      obtain ⟨y, rfl, ry⟩ := paired1 hxs
      obtain ⟨u, rfl, ru⟩ := vals_one rv
      rcases dictOk_cases hk with ⟨k', rfl, hall⟩ | ⟨ks, rfl, hall⟩
      · obtain ⟨a, f, f', rfl, hd, hm, hr, g⟩ := dict1 I hx hall
        obtain ⟨ex, _⟩ := rep_key ry; subst ex
        have ev : v = Value.ref a := rx
        subst ev
        refine call_meetsIn PySem.F.slot_dict_get hm.typeIs PySem.F.entry_dict_get (PySem.F.args_dict_get_2 _ _) (meets_dict_get (mixKind X.prog X.w) a (kV_is ru) hd) ⟨_, hm, ?_⟩
        refine ⟨(f k').getD .non, H, I.tok _, (hr k').getD rfl, ?_⟩
        rcases getD_rep g k' with ⟨w, dd, e1, e2, r⟩ | ⟨e1, e2⟩
        · rw [e2] at hq
          rw [e1]
          exact hq _ H (Same.refl H) (.inl r)
        · rw [e2] at hq
          rw [e1]
          exact hq _ H (Same.refl H) (.inl .non)
      · obtain ⟨a, f, zs, rfl, hd, hm, hr, g⟩ := dict2 I hx hall
        obtain ⟨b, us, rfl, hb, hbs⟩ := ry.tup
        obtain ⟨eu, _⟩ := rep_keys hbs; subst eu
        have ev : v = Value.ref a := rx
        have ev2 : u = Value.ref b := ru
        subst ev ev2
        refine call_meetsIn PySem.F.slot_dict_get hm.typeIs PySem.F.entry_dict_get (PySem.F.args_dict_get_2 _ _) (meetsH_dict_get (tupleKind (mixKind X.prog X.w)) a b hd) ⟨tupleKind_room_in1 (room1 hu), ks, zs, key_is I hb, hm, ?_⟩
        refine ⟨(f ks).getD .non, H, I.tok _, (hr ks).getD rfl, ?_⟩
        rcases getD_rep g ks with ⟨w, dd, e1, e2, r⟩ | ⟨e1, e2⟩
        · rw [e2] at hq
          rw [e1]
          exact hq _ H (Same.refl H) (.inl r)
        · rw [e2] at hq
          rw [e1]
          exact hq _ H (Same.refl H) (.inl .non)
    · cases hg
  | .dict kvs, [k, o], hg, hx, hxs =>
    simp only [mt] at hg
    split at hg
    · rename_i hk
      cases hg
      refine ⟨_, rfl, ?_⟩
      obtain ⟨y, y2, rfl, ry, ry2⟩ := paired2 hxs
      obtain ⟨u, u2, rfl, ru, ru2⟩ := vals_two rv
      rcases dictOk_cases hk with ⟨k', rfl, hall⟩ | ⟨ks, rfl, hall⟩
      · obtain ⟨a, f, f', rfl, hd, hm, hr, g⟩ := dict1 I hx hall
        obtain ⟨ex, _⟩ := rep_key ry; subst ex
        have ev : v = Value.ref a := rx
        subst ev
        refine call_meetsIn PySem.F.slot_dict_get hm.typeIs PySem.F.entry_dict_get (PySem.F.args_dict_get_3 _ _ _) (meets_dict_get_default (mixKind X.prog X.w) a (kV_is ru) hd u2) ⟨_, hm, ?_⟩
        refine ⟨(f k').getD y2, H, I.tok _, (hr k').getD ru2, ?_⟩
        rcases getD_rep g k' with ⟨w, dd, e1, e2, r⟩ | ⟨e1, e2⟩
        · rw [e2] at hq
          rw [e1]
          exact hq _ H (Same.refl H) (.inl r)
        · rw [e2] at hq
          rw [e1]
          exact hq _ H (Same.refl H) (.inr ⟨1, rfl, rfl, rfl⟩)
      · obtain ⟨a, f, zs, rfl, hd, hm, hr, g⟩ := dict2 I hx hall
        obtain ⟨b, us, rfl, hb, hbs⟩ := ry.tup
        obtain ⟨eu, _⟩ := rep_keys hbs; subst eu
        have ev : v = Value.ref a := rx
        have ev2 : u = Value.ref b := ru
        subst ev ev2
        refine call_meetsIn PySem.F.slot_dict_get hm.typeIs PySem.F.entry_dict_get (PySem.F.args_dict_get_3 _ _ _) (meetsH_dict_get_default (tupleKind (mixKind X.prog X.w)) a b hd u2) ⟨tupleKind_room_in1 (room1 hu), ks, zs, key_is I hb, hm, ?_⟩
        refine ⟨(f ks).getD y2, H, I.tok _, (hr ks).getD ru2, ?_⟩
        rcases getD_rep g ks with ⟨w, dd, e1, e2, r⟩ | ⟨e1, e2⟩
        · rw [e2] at hq
          rw [e1]
          exact hq _ H (Same.refl H) (.inl r)
        · rw [e2] at hq
          rw [e1]
          exact hq _ H (Same.refl H) (.inr ⟨1, rfl, rfl, rfl⟩)
    · cases hg
theorem findIdx_facts {ds : List D} {x : D} {j : Nat} (h : (ds.findIdx? fun y => PyData.eqv y x) = some j) : ∃ hj : j < ds.length, PyData.eqv ds[j] x = true ∧ ∀ (m : Nat) (hm : m < ds.length), m < j → PyData.eqv ds[m] x = false := by
  rw [List.findIdx?_eq_some_iff_getElem] at h
  obtain ⟨hj, h1, h2⟩ := h
  refine ⟨hj, h1, fun m hm hmj => ?_⟩
  have := h2 m hmj
  simpa using this
theorem mt_index (hu : Deep X) : Mt1 X .index := by
  intro A pins s σ H x v dx xs vs dxs d Q I rx rv hA hx hxs hg hq
  have hu' : X.A.units + 200 < cLine := hu
  have at_ : ∀ {its : List Value} {ds : List D} {as : List Addr}, ReadsAll s.heap its ds as → PyData.canLayAll0 ds = true → ∀ (m : Nat) (hm : m < its.toArray.size) (hm2 : m < ds.length), SeqAt.readOf s.heap its.toArray[m] = ds[m] := fun {its ds as} rs hl m hm hm2 => by
    have hmap := SeqAt.readsAll_map ds its as hl rs
    have hml : m < its.length := by simpa using hm
    have e : (its.map (SeqAt.readOf s.heap))[m]? = ds[m]? := by rw [hmap]
    rw [List.getElem?_map, List.getElem?_eq_getElem hml, List.getElem?_eq_getElem hm2] at e
    have e' := Option.some.inj (show some (SeqAt.readOf s.heap its[m]) = some ds[m] from e)
    simpa using e'
  match dx, dxs, hg, hx, hxs with
  | .list ds, [y], hg, hx, hxs =>
    simp only [mt, indexOf] at hg
    split at hg
    · rename_i hc
      obtain ⟨j, hj, rfl⟩ := Option.map_eq_some_iff.mp hg
      rw [Bool.and_assoc, Bool.and_eq_true] at hc
      obtain ⟨n1, n2, hd⟩ := all_ok hc.2
      obtain ⟨z, rfl, rz⟩ := paired1 hxs
      obtain ⟨u, rfl, ru⟩ := vals_one rv
      obtain ⟨⟨bs, r1⟩, l1⟩ := rz.reads I n1 ru
      obtain ⟨⟨as, r2⟩, l2⟩ := hx.reads I (nd_list n2) rx
      have l2' : PyData.canLayAll0 ds = true := by simpa [PyData.canLay0] using l2
      obtain ⟨a, us, rfl, ha, hus⟩ := hx.lst
      have ev : v = Value.ref a := rx
      subst ev
      obtain ⟨_, its, n, rits, hl, e⟩ := ha.ok I
      obtain ⟨as, h4⟩ : ∃ as, ReadsAll s.heap its ds as := by
        cases r2 with
        | list h1 h2 h3 h4 => rw [e] at h1; cases h1; cases h3; exact ⟨_, by simpa using h4⟩
      obtain ⟨hjl, hit, hno⟩ := findIdx_facts hj
      have hn : its.length = ds.length := by rw [← hl, hus.length]
      have hjs : j < its.toArray.size := by rw [List.size_toArray, hn]; exact hjl
      have hsl := sizeLine_eq
      have hz := okLen_le hc.1
      refine ⟨_, rfl, call_meets PySem.F.slot_list_index ⟨_, e, rfl⟩ PySem.F.entry_list_index (PySem.F.args_list_index_2 _ _)
        (SeqAt.list_indexAt a its.toArray n _ _ u (fun w => PyData.eqv (SeqAt.readOf s.heap w) y) j hjs (by omega) ?_ ?_) ⟨e, SeqAt.items_eqAt (vs := its.toArray) (by simpa using h4) r1 l2' l1 (by omega), ?_⟩⟩
      · show PyData.eqv (SeqAt.readOf s.heap its.toArray[j]) y = true
        rw [at_ h4 l2' j hjs hjl]; exact hit
      · intro m hm hmj
        have hm2 : m < ds.length := by omega
        show PyData.eqv (SeqAt.readOf s.heap its.toArray[m]) y = false
        rw [at_ h4 l2' m hm hm2]; exact hno m hm2 hmj
      · exact ⟨.int (j : Nat), H, I.tok _, ⟨_, rfl⟩, hq _ H (Same.refl H) (.inl (.int _))⟩
    · cases hg
  | .tuple ds, [y], hg, hx, hxs =>
    simp only [mt, indexOf] at hg
    split at hg
    · rename_i hc
      obtain ⟨j, hj, rfl⟩ := Option.map_eq_some_iff.mp hg
      rw [Bool.and_assoc, Bool.and_eq_true] at hc
      obtain ⟨n1, n2, hd⟩ := all_ok hc.2
      obtain ⟨z, rfl, rz⟩ := paired1 hxs
      obtain ⟨u, rfl, ru⟩ := vals_one rv
      obtain ⟨⟨bs, r1⟩, l1⟩ := rz.reads I n1 ru
      obtain ⟨⟨as, r2⟩, l2⟩ := hx.reads I (nd_tuple n2) rx
      have l2' : PyData.canLayAll0 ds = true := by simpa [PyData.canLay0] using l2
      obtain ⟨a, us, rfl, ha, hus⟩ := hx.tup
      have ev : v = Value.ref a := rx
      subst ev
      obtain ⟨its, rits, ⟨⟨cls, dd, dt, sl⟩, ho, hcl, n, hdt⟩, _⟩ := I.tuple ha
      simp only at hcl hdt
      subst hcl hdt
      obtain ⟨as, h4⟩ : ∃ as, ReadsAll s.heap its ds as := by
        cases r2 with
        | tuple h1 h2 h3 h4 => rw [ho] at h1; cases h1; cases h3; exact ⟨_, by simpa using h4⟩
      obtain ⟨hjl, hit, hno⟩ := findIdx_facts hj
      have hn : its.length = ds.length := by rw [← rits.length, hus.length]
      have hjs : j < its.toArray.size := by rw [List.size_toArray, hn]; exact hjl
      refine ⟨_, rfl, call_meets PySem.F.slot_tuple_index ⟨_, ho, rfl⟩ PySem.F.entry_tuple_index (PySem.F.args_tuple_index_2 _ _)
        (TI.tuple_indexAt a its.toArray n _ _ u (fun w => PyData.eqv (SeqAt.readOf s.heap w) y) j hjs ?_ ?_) ⟨ho, SeqAt.items_eqAt (vs := its.toArray) (by simpa using h4) r1 l2' l1 (by omega), ?_⟩⟩
      · show PyData.eqv (SeqAt.readOf s.heap its.toArray[j]) y = true
        rw [at_ h4 l2' j hjs hjl]; exact hit
      · intro m hm hmj
        have hm2 : m < ds.length := by omega
        show PyData.eqv (SeqAt.readOf s.heap its.toArray[m]) y = false
        rw [at_ h4 l2' m hm hm2]; exact hno m hm2 hmj
      · exact ⟨.int (j : Nat), H, I.tok _, ⟨_, rfl⟩, hq _ H (Same.refl H) (.inl (.int _))⟩
    · cases hg
end
end Mp

namespace Mp
open PySem PySem.Spec PyProof.Rows L2

structure FitC (C : Cb) (X : Cx) : Prop extends Fit X where
  hK : C.K = X.K
  hw : C.w = X.w
/-- an expression's reading by its working out -/
def tV (C : Cb) (W : WX) (md : Md) (q : Bool) (f : En → Out D) : TE := fun σ H Q => ∃ O B e, Sim C O B σ H e ∧ EvG C O B σ H W (fun d e' => ∀ v H', Fin C O B σ md q H H' v d e' → Q v H') (f e)
section
variable {X : Cx} {C : Cb} {P : Px} {W : WX} {O : Ow} {B : Addr → Prop} {σ : L2.St} {H H1 H2 H' : Hp} {q qa qb qc : Bool} {md ma mb mc : Md} {v u : V} {d : D} {e e1 e2 : En} {fa fb fc : En → Out D} {Q : VK}

theorem ArgIs.rd {m : Md} {x : Ex} (h : ArgIs C O B H (.md m) x v d) : RepR C.K C.w (Av C O B) H v d := by
  cases m with
  | plain => exact .inl h
  | lent => exact h
  | new => exact h
theorem Fin.arg (S0 : Sim C O B σ H e) (f : Fin C O B σ md q H H' v d e1) (x : Ex) : ArgIs C O B H' (.md md) x v d := by
  cases md with
  | plain => exact f.val.2
  | lent => exact f.val.2
  | new => exact (f.lentOf S0).val.2
theorem Fin.rd (S0 : Sim C O B σ H e) (f : Fin C O B σ md q H H' v d e1) : RepR C.K C.w (Av C O B) H' v d := (f.arg S0 .nil).rd

/-- an operation's reading -/
def r2 (C : Cb) (g : D → D → Option D) (nw : Bool) : R2 := fun x y H Q => ∃ (A : Addr → Prop) (dx dy d : D), (∀ a, A a → H a ≠ none) ∧ RepR C.K C.w A H x dx ∧ RepR C.K C.w A H y dy ∧ g dx dy = some d ∧
  ∀ z H', Same H H' → Rep C.K C.w A H' z d → (nw = true → isMut d = true → ∃ p, z = .ref p ∧ H p = none ∧ Root C.K C.w (plus A p) H' p d) → Q z H'
theorem opR {f : Value → Value → Sem Value} {g : D → D → Option D} {nw : Bool} (F : FitC C X) (h : Op2 X f g nw) : OpR X f (r2 C g nw) := by
  intro pins s σ H x y v u Q I rx ry ⟨A, dx, dy, d, h1, h2, h3, h4, h5⟩
  rw [F.hK, F.hw] at h2 h3
  refine h A pins s σ H x y v u dx dy d Q I rx ry h1 h2 h3 h4 fun z H' s r n => h5 z H' s ?_ ?_
  · rw [F.hK, F.hw]; exact r
  · rw [F.hK, F.hw]; exact n
theorem ixR {g : D → D → Option D} (F : FitC C X) (h : ∀ dx dy, g dx dy = index dx dy) : IxR X (r2 C g false) := by
  intro value slice pins s σ H x y v u Q I rx ry ⟨A, dx, dy, d, h1, h2, h3, h4, h5⟩ hs
  rw [F.hK, F.hw] at h2 h3
  rw [h] at h4
  refine ix2 F.deep value slice A pins s σ H x y v u dx dy d Q I rx ry h2 h3 h4 (fun z r => h5 z H (Same.refl H) ?_ (fun z => by cases z)) hs
  rw [F.hK, F.hw]; exact r
theorem rd_op2 {g : D → D → Option D} {nw : Bool} (hl : isLent (.md ma) = true → qb = true) (hq : q = true → qa = true ∧ qb = true) (hn : md = .new → nw = true) :
    ∀ σ H Q, tV C W md q (fun e => (fa e).bind fun x e1 => (fb e1).bind fun y e2 => lift (g x y) e2) σ H Q → tOp (r2 C g nw) (tV C W ma qa fa) (tV C W mb qb fb) σ H Q := by
  rintro σ H Q ⟨O, B, e, S, g0⟩
  refine ⟨O, B, e, S, (EvG.part Kp.refl g0).mono fun dx e1 _ ⟨_, g1⟩ v H1 f1 => ⟨O, B, e1, f1.sim, (EvG.part f1.kp g1).mono fun dy e2 _ ⟨_, g2⟩ y H2 f2 => ?_⟩⟩
  cases hg : g dx dy with
  | none => rw [hg] at g2; exact g2.elim
  | some d =>
    rw [hg] at g2
    have g2 : ∀ v H', Fin C O B σ md q H H' v d e2 → Q v H' := g2
    refine ⟨Av C O B, dx, dy, d, f2.sim.trk, (ArgIs.step f2.kp (fun z => f2.same (hl z)) (f1.arg S .nil)).rd, f2.rd f1.sim, hg, fun z H' s r n => g2 z H' ?_⟩
    refine Fin.from (q1 := qa && qb) (q2 := true) f2.sim (f1.kp.trans f2.kp) (fun z => ?_) (fin_op f2.sim s r n hn) (fun z => ⟨by rw [(hq z).1, (hq z).2]; rfl, rfl⟩)
    rw [Bool.and_eq_true] at z
    exact Same.trans (f1.same z.1) (f2.same z.2)
/-- a test's reading serves as a value's -/
theorem tT_tV {f : En → Out D} {Q : Bool → Hp → Prop} (h : tT C P W q f σ H Q) : tV C W .plain q f σ H (fun x H' => ∃ k, x = .bl k ∧ Q k H') := by
  obtain ⟨O, B, e, S, g⟩ := h
  refine ⟨O, B, e, S, g.mono fun d e' _ ⟨b, hb, k⟩ v H' f => ?_⟩
  subst hb
  exact ⟨b, (f.rd S).bl, k H' f.kp f.same f.sim⟩
theorem pt_of {ex : Expr} {f : En → Out D} (h : PE X ex (tV C W .plain q f)) (he : ∀ whole, isTrue ex X.env whole = (do let v ← whole; standAt ex.pos; holding [v] (truthy v)) := by intro _; rfl) : PT X ex (tT C P W q f) :=
  pt_imp (pt_val h he) fun _ _ _ z => tT_tV z

/-! ### names and constants -/
theorem ev_var {i : Nat} {x : Str} {pos : Pos} (hN : X.N[i]? = some x) (hv : Vis X.env.scope x) (hd : (x == ("__debug__" : Str)) = false) (hcd : (x == ("__classdict__" : Str)) = false) (hm : md = .lent ∨ (md = .plain ∧ i ∉ C.own ∧ ∀ p ∈ C.lnt, p.1 ≠ i)) :
    PE X (.Name x pos) (tE C P W md q (.var i)) := by
  refine pe_imp (pe_var hN hv hd hcd) fun σ H Q ⟨O, B, e, S, g⟩ => ?_
  unfold ev at g
  cases h : e[i]? with
  | none => rw [h] at g; exact g.elim
  | some o =>
    cases o with
    | none => rw [h] at g; exact g.elim
    | some d =>
      rw [h] at g
      have g : ∀ v H', Fin C O B σ md q H H' v d e → Q v H' := g
      by_cases hl : ∃ p ∈ C.lnt, p.1 = i
      · obtain ⟨p, hp, rfl⟩ := hl
        obtain ⟨h1, h2, _, _, h5⟩ := S.ln.at_ p hp
        rw [h] at h1
        have h1 := Option.some.inj (Option.some.inj h1)
        subst h1
        refine ⟨_, h2, g _ H ⟨Kp.refl, fun _ => Same.refl H, ?_⟩⟩
        rcases hm with rfl | ⟨_, _, hn⟩
        · rcases h5 with r | ⟨a, ea, r, _⟩
          · exact ⟨S, .inl r⟩
          · exact ⟨S, .inr ⟨a, ea, r⟩⟩
        · exact absurd rfl (hn p hp)
      rcases S.slot i d (fun p hp z => hl ⟨p, hp, z⟩) h with ⟨h1, v, h2, h3⟩ | ⟨a, h1, h2, h3⟩
      · refine ⟨v, h2, g v H ⟨Kp.refl, fun _ => Same.refl H, ?_⟩⟩
        rcases hm with rfl | ⟨rfl, _⟩
        · exact ⟨S, .inl h3⟩
        · exact ⟨S, h3⟩
      · refine ⟨.ref a, h2, g _ H ⟨Kp.refl, fun _ => Same.refl H, ?_⟩⟩
        rcases hm with rfl | ⟨rfl, hn, _⟩
        · exact ⟨S, .inr ⟨a, rfl, h3⟩⟩
        · exact absurd (S.own i a h1).1 hn
/-- a value that can't be changed, of no heap -/
theorem fin_c (S : Sim C O B σ H e) (hd : isMut d = false ∨ md = .plain ∨ md = .lent) (r : Rep C.K C.w (Av C O B) H v d) : Fin C O B σ md q H H v d e := by
  refine ⟨Kp.refl, fun _ => Same.refl H, ?_⟩
  cases md with
  | plain => exact ⟨S, r⟩
  | lent => exact ⟨S, .inl r⟩
  | new =>
    rcases hd with hd | hd | hd
    · exact .inr ⟨hd, S, r⟩
    · cases hd
    · cases hd
theorem ev_c {ex : Expr} {v : V} {d : D} {f : En → Out D} (h : PE X ex (tC v)) (hd : isMut d = false ∨ md = .plain ∨ md = .lent) (r : ∀ A H, Rep C.K C.w A H v d) (hf : ∀ e, f e = .ok d e) : PE X ex (tV C W md q f) :=
  pe_imp h fun σ H Q ⟨O, B, e, S, g⟩ => by
    rw [hf] at g
    have g : ∀ v H', Fin C O B σ md q H H' v d e → Q v H' := g
    exact g v H (fin_c S hd (r _ _))

/-! ### operations -/
variable {a b c : Expr} {xa xb xc : Ex} {pos : Pos}
theorem ev_bin (F : FitC C X) (o : Bo) (ha : PE X a (tE C P W ma qa xa)) (hb : PE X b (tE C P W mb qb xb)) (hl : isLent (.md ma) = true → qb = true) (hq : q = true → qa = true ∧ qb = true) : PE X (.BinOp a (opOf o) b pos) (tE C P W md q (.bin o xa xb)) :=
  pe_imp (pe_op (opR F (op2_bin o)) ha hb) fun σ H Q h => rd_op2 hl hq (fun _ => rfl) σ H Q (by simpa only [tE, tV, ev] using h)
theorem liftB_map {o : Option Bool} {e : En} : liftB o e = lift (o.map .bool) e := by cases o <;> rfl
theorem ev_cmp (F : FitC C X) (o : Co) (ha : PE X a (tE C P W ma qa xa)) (hb : PE X b (tE C P W mb qb xb)) (hl : isLent (.md ma) = true → qb = true) (hq : q = true → qa = true ∧ qb = true) (hm : behindInMarks (copOf o) b = false) : PE X (.Compare a [copOf o] [b] pos) (tE C P W md q (.cmp o xa xb)) :=
  pe_imp (pe_cmpR (opR F (op2_cmp F.deep o)) ha hb hm) fun σ H Q h => rd_op2 hl hq (fun _ => rfl) σ H Q (by simpa only [tE, tV, ev, liftB_map] using h)
theorem evt_cmp (F : FitC C X) (o : Co) (ha : PE X a (tE C P W ma qa xa)) (hb : PE X b (tE C P W mb qb xb)) (hl : isLent (.md ma) = true → qb = true) (hq : q = true → qa = true ∧ qb = true) (hm : behindInMarks (copOf o) b = false) : PT X (.Compare a [copOf o] [b] pos) (tT C P W q (ev P (.cmp o xa xb))) :=
  pt_imp (pt_cmpR (opR F (op2_cmp F.deep o)) ha hb hm) fun σ H Q h => rd_op2 (md := .plain) hl hq (fun _ => rfl) σ H _ (by simpa only [tV, ev, liftB_map] using tT_tV h)
theorem ev_idx (F : FitC C X) (ha : PE X a (tE C P W ma qa xa)) (hb : PE X b (tE C P W mb qb xb)) (hl : isLent (.md ma) = true → qb = true) (hq : q = true → qa = true ∧ qb = true) (hs : PlainIx b) (hn : md ≠ .new) : PE X (.Subscript a b pos) (tE C P W md q (.idx xa xb)) :=
  pe_imp (pe_ix (ixR (g := index) F fun _ _ => rfl) ha hb hs) fun σ H Q h => rd_op2 hl hq (fun z => absurd z hn) σ H Q (by simpa only [tE, tV, ev] using h)
theorem ev_neg (ha : PE X a (tE C P W ma q xa)) : PE X (.UnaryOp .USub a pos) (tE C P W md q (.neg xa)) := by
  refine pe_imp (pe_un un_neg ha) fun σ H Q ⟨O, B, e, S, g⟩ => ?_
  unfold ev at g
  refine ⟨O, B, e, S, (EvG.part Kp.refl g).mono fun dx e1 _ ⟨_, g1⟩ v H1 f1 => ?_⟩
  cases dx with
  | int i =>
    have g1 : ∀ v H', Fin C O B σ md q H H' v (.int (-i)) e1 → Q v H' := g1
    exact ⟨i, (f1.rd S).int, g1 _ H1 (Fin.from f1.sim f1.kp f1.same (fin_c (q := true) f1.sim (.inl rfl) (.int _)) fun z => ⟨z, rfl⟩)⟩
  | _ => exact g1.elim
/-- what is told of two tests in a row -/
theorem Fin.bl {b : Bool} (S0 : Sim C O B σ H e) (k : Kp (Od O) H H1) (s : q = true → Same H H1) (S1 : Sim C O B σ H1 e1) : Fin C O B σ md q H H1 (.bl b) (.bool b) e1 := by
  refine Fin.from (q1 := q) (q2 := true) S1 k s (fin_c S1 (.inl rfl) (.bl b)) fun z => ⟨z, rfl⟩
theorem ev_chn (F : FitC C X) (o o' : Co) (ha : PE X a (tE C P W ma qa xa)) (hb : PE X b (tE C P W mb qb xb)) (hc : PE X c (tE C P W mc qc xc)) (hl : isLent (.md ma) = true → qb = true) (hl' : isLent (.md mb) = true → qc = true) (hq : q = true → qa = true ∧ qb = true ∧ qc = true)
    (hm : lastMarks [copOf o, copOf o'] [b, c] = false) : PE X (.Compare a [copOf o, copOf o'] [b, c] pos) (tE C P W md q (.chn o o' xa xb xc)) ∧ PT X (.Compare a [copOf o, copOf o'] [b, c] pos) (tT C P W q (ev P (.chn o o' xa xb xc))) := by
  have key : ∀ (md : Md) σ H Q, tE C P W md q (.chn o o' xa xb xc) σ H Q → tChain (r2 C (fun a b => (cmp o a b).map .bool) true) (r2 C (fun a b => (cmp o' a b).map .bool) true) (tE C P W ma qa xa) (tE C P W mb qb xb) (tE C P W mc qc xc) σ H Q := by
    rintro md σ H Q ⟨O, B, e, S, g⟩
    unfold ev at g
    refine ⟨O, B, e, S, (EvG.part Kp.refl g).mono fun dx e1 _ ⟨_, g1⟩ v H1 f1 => ⟨O, B, e1, f1.sim, (EvG.part f1.kp g1).mono fun dy e2 _ ⟨_, g2⟩ y H2 f2 => ?_⟩⟩
    have rx := (ArgIs.step f2.kp (fun z => f2.same (hl z)) (f1.arg S .nil)).rd
    cases hg : cmp o dx dy with
    | none => simp only [hg] at g2; exact g2.elim
    | some t =>
      refine ⟨Av C O B, dx, dy, .bool t, f2.sim.trk, rx, f2.rd f1.sim, by simp only [hg]; rfl, fun z H3 s3 r3 _ => ⟨t, RepR.bl (.inl r3), ?_⟩⟩
      have k3 : Kp (Od O) H H3 := (f1.kp.trans f2.kp).trans (Kp.of_same s3)
      have S3 := f2.sim.more s3
      cases t with
      | false =>
        simp only [hg] at g2
        have g2 : ∀ v H', Fin C O B σ md q H H' v (.bool false) e2 → Q v H' := g2
        simp only [Bool.false_eq_true, if_false]
        exact g2 _ _ (Fin.bl S k3 (fun z => ((f1.same (hq z).1).trans (f2.same (hq z).2.1)).trans s3) S3)
      | true =>
        simp only [hg] at g2
        simp only [if_true]
        refine ⟨O, B, e2, S3, (EvG.part k3 g2).mono fun dz e3 _ ⟨_, g3⟩ z' H4 f4 => ?_⟩
        cases hg' : cmp o' dy dz with
        | none => rw [hg'] at g3; exact g3.elim
        | some t' =>
          rw [hg'] at g3
          have g3 : ∀ v H', Fin C O B σ md q H H' v (.bool t') e3 → Q v H' := g3
          have ry : RepR C.K C.w (Av C O B) H4 y dy := (ArgIs.step f4.kp (fun z => f4.same (hl' z)) (ArgIs.step (Kp.of_same s3) (fun _ => s3) (f2.arg f1.sim .nil))).rd
          refine ⟨Av C O B, dy, dz, .bool t', f4.sim.trk, ry, f4.rd S3, by simp only [hg']; rfl, fun z5 H5 s5 r5 _ => ?_⟩
          have e5 : z5 = .bl t' := RepR.bl (.inl r5)
          subst e5
          exact g3 _ _ (Fin.bl S ((k3.trans f4.kp).trans (Kp.of_same s5)) (fun z => ((((f1.same (hq z).1).trans (f2.same (hq z).2.1)).trans s3).trans (f4.same (hq z).2.2)).trans s5) (f4.sim.more s5))
  exact ⟨pe_imp (pe_chain (opR F (op2_cmp F.deep o)) (opR F (op2_cmp F.deep o')) ha hb hc hm) fun σ H Q h => key md σ H Q h,
    pt_imp (pt_chain (opR F (op2_cmp F.deep o)) (opR F (op2_cmp F.deep o')) ha hb hc hm) fun σ H Q h => key .plain σ H _ (tT_tV h)⟩

/-! ### and, or, not, if -/
theorem ev_not (ha : PE X a (tE C P W ma q xa)) : PE X (.UnaryOp .Not a pos) (tE C P W md q (.not xa)) := by
  refine pe_imp (pe_not ha) fun σ H Q ⟨O, B, e, S, g⟩ => ?_
  unfold ev at g
  refine ⟨O, B, e, S, (EvG.part Kp.refl g).mono fun dx e1 _ ⟨_, g1⟩ v H1 f1 => ?_⟩
  cases dx with
  | bool b =>
    have g1 : ∀ v H', Fin C O B σ md q H H' v (.bool (!b)) e1 → Q v H' := g1
    exact ⟨b, (f1.rd S).bl, g1 _ H1 (Fin.bl S f1.kp f1.same f1.sim)⟩
  | _ => exact g1.elim
theorem evt_not (ha : PT X a (tT C P W q (ev P xa))) : PT X (.UnaryOp .Not a pos) (tT C P W q (ev P (.not xa))) := by
  refine pt_imp (pt_not ha) fun σ H Q ⟨O, B, e, S, g⟩ => ?_
  unfold ev at g
  refine ⟨O, B, e, S, (EvG.part Kp.refl g).mono fun dx e1 _ ⟨_, g1⟩ => ?_⟩
  cases dx with
  | bool b =>
    obtain ⟨b', hb, k⟩ := g1
    cases hb
    exact ⟨b, rfl, fun H' k1 s1 S1 => k H' k1 s1 S1⟩
  | _ => exact g1.elim
variable {rest : List Expr} {xs : List Ex}
theorem ev_and1 (ha : PE X a (tE C P W ma q xa)) : PE X (.BoolOp .And [a] pos) (tV C W md q (evAnd P [xa])) := by
  refine pe_imp (pe_one ha) fun σ H Q ⟨O, B, e, S, g⟩ => ?_
  unfold evAnd at g
  refine ⟨O, B, e, S, (EvG.part Kp.refl g).mono fun dx e1 _ ⟨_, g1⟩ v H1 f1 => ?_⟩
  cases dx with
  | bool b =>
    rw [(f1.rd S).bl]
    cases b with
    | true =>
      unfold onBool evAnd at g1
      have g1 : ∀ v H', Fin C O B σ md q H H' v (.bool true) e1 → Q v H' := g1
      exact g1 _ H1 (Fin.bl S f1.kp f1.same f1.sim)
    | false =>
      have g1 : ∀ v H', Fin C O B σ md q H H' v (.bool false) e1 → Q v H' := g1
      exact g1 _ H1 (Fin.bl S f1.kp f1.same f1.sim)
  | _ => exact g1.elim
theorem ev_or1 (ha : PE X a (tE C P W ma q xa)) : PE X (.BoolOp .Or [a] pos) (tV C W md q (evOr P [xa])) := by
  refine pe_imp (pe_one ha) fun σ H Q ⟨O, B, e, S, g⟩ => ?_
  unfold evOr at g
  refine ⟨O, B, e, S, (EvG.part Kp.refl g).mono fun dx e1 _ ⟨_, g1⟩ v H1 f1 => ?_⟩
  cases dx with
  | bool b =>
    rw [(f1.rd S).bl]
    cases b with
    | false =>
      unfold onBool evOr at g1
      have g1 : ∀ v H', Fin C O B σ md q H H' v (.bool false) e1 → Q v H' := g1
      exact g1 _ H1 (Fin.bl S f1.kp f1.same f1.sim)
    | true =>
      have g1 : ∀ v H', Fin C O B σ md q H H' v (.bool true) e1 → Q v H' := g1
      exact g1 _ H1 (Fin.bl S f1.kp f1.same f1.sim)
  | _ => exact g1.elim
/-- a value told behind a part -/
theorem Fin.chain (S : Sim C O B σ H e) (f1 : Fin C O B σ ma qa H H1 u d e1) {d' : D} (f2 : Fin C O B σ md qb H1 H2 v d' e2) (hq : q = true → qa = true ∧ qb = true) : Fin C O B σ md q H H2 v d' e2 := Fin.from f1.sim f1.kp f1.same f2 hq
theorem ev_and (ha : PE X a (tE C P W ma qa xa)) (hb : PE X (.BoolOp .And (b :: rest) pos) (tV C W md qb (evAnd P xs))) (hq : q = true → qa = true ∧ qb = true) : PE X (.BoolOp .And (a :: b :: rest) pos) (tV C W md q (evAnd P (xa :: xs))) := by
  refine pe_imp (pe_and ha hb) fun σ H Q ⟨O, B, e, S, g⟩ => ?_
  unfold evAnd at g
  refine ⟨O, B, e, S, (EvG.part Kp.refl g).mono fun dx e1 _ ⟨_, g1⟩ v H1 f1 => ?_⟩
  cases dx with
  | bool b =>
    refine ⟨b, (f1.rd S).bl, ?_⟩
    cases b with
    | true =>
      simp only [if_true]
      have g1 : EvG C O B σ H W (fun d e' => ∀ v H', Fin C O B σ md q H H' v d e' → Q v H') ((evAnd P xs e1).bind fun d e => .ok d e) := by
        have : ∀ o : Out D, (o.bind fun d e => .ok d e) = o := fun o => by cases o <;> rfl
        rw [this]; exact g1
      exact ⟨O, B, e1, f1.sim, (EvG.part f1.kp g1).mono fun d e2 _ ⟨_, g2⟩ v H2 f2 => g2 v H2 (Fin.chain S f1 f2 hq)⟩
    | false =>
      simp only [Bool.false_eq_true, if_false]
      have g1 : ∀ v H', Fin C O B σ md q H H' v (.bool false) e1 → Q v H' := g1
      exact g1 _ H1 (Fin.bl S f1.kp (fun z => f1.same (hq z).1) f1.sim)
  | _ => exact g1.elim
theorem ev_or (ha : PE X a (tE C P W ma qa xa)) (hb : PE X (.BoolOp .Or (b :: rest) pos) (tV C W md qb (evOr P xs))) (hq : q = true → qa = true ∧ qb = true) : PE X (.BoolOp .Or (a :: b :: rest) pos) (tV C W md q (evOr P (xa :: xs))) := by
  refine pe_imp (pe_or ha hb) fun σ H Q ⟨O, B, e, S, g⟩ => ?_
  unfold evOr at g
  refine ⟨O, B, e, S, (EvG.part Kp.refl g).mono fun dx e1 _ ⟨_, g1⟩ v H1 f1 => ?_⟩
  cases dx with
  | bool b =>
    refine ⟨b, (f1.rd S).bl, ?_⟩
    cases b with
    | false =>
      simp only [Bool.false_eq_true, if_false]
      have g1 : EvG C O B σ H W (fun d e' => ∀ v H', Fin C O B σ md q H H' v d e' → Q v H') ((evOr P xs e1).bind fun d e => .ok d e) := by
        have : ∀ o : Out D, (o.bind fun d e => .ok d e) = o := fun o => by cases o <;> rfl
        rw [this]; exact g1
      exact ⟨O, B, e1, f1.sim, (EvG.part f1.kp g1).mono fun d e2 _ ⟨_, g2⟩ v H2 f2 => g2 v H2 (Fin.chain S f1 f2 hq)⟩
    | true =>
      simp only [if_true]
      have g1 : ∀ v H', Fin C O B σ md q H H' v (.bool true) e1 → Q v H' := g1
      exact g1 _ H1 (Fin.bl S f1.kp (fun z => f1.same (hq z).1) f1.sim)
  | _ => exact g1.elim
/-! .. as tests -/
theorem evt_and1 (ha : PT X a (tT C P W q (ev P xa))) : PW X (.BoolOp .And [a] pos) (tT C P W q (evAnd P [xa])) := by
  refine pw_imp (pw_and1 ha) fun σ H Q ⟨O, B, e, S, g⟩ => ?_
  unfold evAnd at g
  refine ⟨O, B, e, S, (EvG.part Kp.refl g).mono fun dx e1 _ ⟨_, g1⟩ => ?_⟩
  cases dx with
  | bool b =>
    cases b with
    | true =>
      unfold onBool evAnd at g1
      obtain ⟨b', hb, k⟩ := g1
      cases hb
      exact ⟨true, rfl, k⟩
    | false =>
      obtain ⟨b', hb, k⟩ := g1
      cases hb
      exact ⟨false, rfl, k⟩
  | _ => exact g1.elim
theorem evt_or1 (ha : PT X a (tT C P W q (ev P xa))) : PW X (.BoolOp .Or [a] pos) (tT C P W q (evOr P [xa])) := by
  refine pw_imp (pw_or1 ha) fun σ H Q ⟨O, B, e, S, g⟩ => ?_
  unfold evOr at g
  refine ⟨O, B, e, S, (EvG.part Kp.refl g).mono fun dx e1 _ ⟨_, g1⟩ => ?_⟩
  cases dx with
  | bool b =>
    cases b with
    | false =>
      unfold onBool evOr at g1
      obtain ⟨b', hb, k⟩ := g1
      cases hb
      exact ⟨false, rfl, k⟩
    | true =>
      obtain ⟨b', hb, k⟩ := g1
      cases hb
      exact ⟨true, rfl, k⟩
  | _ => exact g1.elim
/-- the second of two tests -/
theorem tT_next {f : En → Out D} {Q : Bool → Hp → Prop} (k1 : Kp (Od O) H H1) (s1 : qa = true → Same H H1) (S1 : Sim C O B σ H1 e1) (hq : q = true → qa = true ∧ qb = true)
    (g : EvG C O B σ H W (fun d e' => ∃ b, d = .bool b ∧ ∀ H', Kp (Od O) H H' → (q = true → Same H H') → Sim C O B σ H' e' → Q b H') (f e1)) : tT C P W qb f σ H1 Q := by
  have g1 : EvG C O B σ H W (fun d e' => ∃ b, d = .bool b ∧ ∀ H', Kp (Od O) H H' → (q = true → Same H H') → Sim C O B σ H' e' → Q b H') ((f e1).bind fun d e => .ok d e) := by
    have : ∀ o : Out D, (o.bind fun d e => .ok d e) = o := fun o => by cases o <;> rfl
    rw [this]; exact g
  refine ⟨O, B, e1, S1, (EvG.part k1 g1).mono fun d e2 _ ⟨_, b, hb, k⟩ => ⟨b, hb, fun H' k2 s2 S2 => k H' (k1.trans k2) (fun z => (s1 (hq z).1).trans (s2 (hq z).2)) S2⟩⟩
theorem evt_and (ha : PT X a (tT C P W qa (ev P xa))) (hb : PW X (.BoolOp .And (b :: rest) pos) (tT C P W qb (evAnd P xs))) (hq : q = true → qa = true ∧ qb = true) : PW X (.BoolOp .And (a :: b :: rest) pos) (tT C P W q (evAnd P (xa :: xs))) := by
  refine pw_imp (pw_and ha hb) fun σ H Q ⟨O, B, e, S, g⟩ => ?_
  unfold evAnd at g
  refine ⟨O, B, e, S, (EvG.part Kp.refl g).mono fun dx e1 _ ⟨_, g1⟩ => ?_⟩
  cases dx with
  | bool b =>
    refine ⟨b, rfl, fun H1 k1 s1 S1 => ?_⟩
    cases b with
    | true => simp only [if_true]; exact tT_next k1 s1 S1 hq g1
    | false =>
      simp only [Bool.false_eq_true, if_false]
      obtain ⟨b', hb, k⟩ := g1
      cases hb
      exact k H1 k1 (fun z => s1 (hq z).1) S1
  | _ => exact g1.elim
theorem evt_or (ha : PT X a (tT C P W qa (ev P xa))) (hb : PW X (.BoolOp .Or (b :: rest) pos) (tT C P W qb (evOr P xs))) (hq : q = true → qa = true ∧ qb = true) : PW X (.BoolOp .Or (a :: b :: rest) pos) (tT C P W q (evOr P (xa :: xs))) := by
  refine pw_imp (pw_or ha hb) fun σ H Q ⟨O, B, e, S, g⟩ => ?_
  unfold evOr at g
  refine ⟨O, B, e, S, (EvG.part Kp.refl g).mono fun dx e1 _ ⟨_, g1⟩ => ?_⟩
  cases dx with
  | bool b =>
    refine ⟨b, rfl, fun H1 k1 s1 S1 => ?_⟩
    cases b with
    | false => simp only [Bool.false_eq_true, if_false]; exact tT_next k1 s1 S1 hq g1
    | true =>
      simp only [if_true]
      obtain ⟨b', hb, k⟩ := g1
      cases hb
      exact k H1 k1 (fun z => s1 (hq z).1) S1
  | _ => exact g1.elim
theorem ev_ite (hc : PT X c (tT C P W qc (ev P xc))) (ha : PE X a (tE C P W md qa xa)) (hb : PE X b (tE C P W md qa xb)) (hq : q = true → qc = true ∧ qa = true) : PE X (.IfExp c a b pos) (tE C P W md q (.ite xc xa xb)) := by
  refine pe_imp (pe_ifExp hc ha hb) fun σ H Q ⟨O, B, e, S, g⟩ => ?_
  unfold ev at g
  refine ⟨O, B, e, S, (EvG.part Kp.refl g).mono fun dx e1 _ ⟨_, g1⟩ => ?_⟩
  have nxt : ∀ (x : Ex) (H1 : Hp), Kp (Od O) H H1 → (qc = true → Same H H1) → Sim C O B σ H1 e1 → EvG C O B σ H W (fun d e' => ∀ v H', Fin C O B σ md q H H' v d e' → Q v H') (ev P x e1) → tE C P W md qa x σ H1 Q := fun x H1 k1 s1 S1 gx => by
    have g2 : EvG C O B σ H W (fun d e' => ∀ v H', Fin C O B σ md q H H' v d e' → Q v H') ((ev P x e1).bind fun d e => .ok d e) := by
      have : ∀ o : Out D, (o.bind fun d e => .ok d e) = o := fun o => by cases o <;> rfl
      rw [this]; exact gx
    exact ⟨O, B, e1, S1, (EvG.part k1 g2).mono fun d e2 _ ⟨_, k⟩ v H2 f2 => k v H2 (Fin.from S1 k1 s1 f2 hq)⟩
  cases dx with
  | bool b =>
    refine ⟨b, rfl, fun H1 k1 s1 S1 => ?_⟩
    cases b with
    | true => simp only [if_true]; exact nxt xa H1 k1 s1 S1 g1
    | false => simp only [Bool.false_eq_true, if_false]; exact nxt xb H1 k1 s1 S1 g1
  | _ => exact g1.elim
end
end Mp

namespace Mp
open PySem PySem.Spec PyProof.Rows L2

theorem bind_ok {α : Type} (o : Out α) : (o.bind fun d e => .ok d e) = o := by cases o <;> rfl
section
variable {X : Cx} {C : Cb} {P : Px} {W : WX} {O : Ow} {B : Addr → Prop} {σ : L2.St} {H H1 H2 H' : Hp} {q qa qb qc : Bool} {md ma mb mc : Md} {v u : V} {d : D} {e e1 e2 : En} {fa fb fc : En → Out D} {Q : VK}
variable {a b c : Expr} {xa xb xc : Ex} {pos : Pos} {rest : List Expr} {xs : List Ex} {ms : List Am}

/-! ### argument lists -/
theorem ea_nil : PA X [] (tA C P W [] q []) := pa_imp pa_nil fun σ H Q ⟨O, B, e, S, g⟩ => by
  unfold evs at g
  exact g [] H Kp.refl (fun _ => Same.refl H) S .nil
/-- behind the first argument -/
theorem tA_next {m : Am} {x : Ex} {fx : En → Out D} {Q : List V → Hp → Prop} (k1 : Kp (Od O) H H1) (s1 : qa = true → Same H H1) (S1 : Sim C O B σ H1 e1) (r1 : ArgIs C O B H1 m x v d) (hl : isLent m = true → qb = true) (hq : q = true → qa = true ∧ qb = true)
    (g : EvG C O B σ H W (fun ds e' => ∀ vs H', Kp (Od O) H H' → (q = true → Same H H') → Sim C O B σ H' e' → Args C O B H' (m :: ms) (x :: xs) vs ds → Q vs H') ((evs P xs e1).bind fun ds e2 => .ok (d :: ds) e2)) :
    tA C P W ms qb xs σ H1 fun vs H2 => Q (v :: vs) H2 :=
  ⟨O, B, e1, S1, (EvG.part k1 g).mono fun ds e2 _ ⟨_, g2⟩ vs H2 k2 s2 S2 r2 =>
    g2 (v :: vs) H2 (k1.trans k2) (fun z => (s1 (hq z).1).trans (s2 (hq z).2)) S2 (.cons (ArgIs.step k2 (fun z => s2 (hl z)) r1) r2)⟩
theorem ea_cons (ha : PE X a (tE C P W ma qa xa)) (hr : PA X rest (tA C P W ms qb xs)) (hs : starEach (a :: rest) X.env = (false, eval a X.env) :: starEach rest X.env) (hl : isLent (.md ma) = true → qb = true) (hq : q = true → qa = true ∧ qb = true) :
    PA X (a :: rest) (tA C P W (.md ma :: ms) q (xa :: xs)) :=
  pa_imp (pa_cons ha hr hs) fun σ H Q ⟨O, B, e, S, g⟩ => by
    unfold evs at g
    exact ⟨O, B, e, S, (EvG.part Kp.refl g).mono fun d e1 _ ⟨_, g1⟩ v H1 f1 => tA_next (fx := fun _ => .no) f1.kp f1.same f1.sim (f1.arg S xa) hl hq g1⟩
theorem ea_io {i : Nat} {x : Str} {pos : Pos} (hN : X.N[i]? = some x) (hv : Vis X.env.scope x) (hd : (x == ("__debug__" : Str)) = false) (hcd : (x == ("__classdict__" : Str)) = false) (hi : i ∈ C.own)
    (hr : PA X rest (tA C P W ms q xs)) (hs : starEach (.Name x pos :: rest) X.env = (false, eval (.Name x pos) X.env) :: starEach rest X.env) : PA X (.Name x pos :: rest) (tA C P W (.io :: ms) q (.var i :: xs)) :=
  pa_imp (pa_cons (pe_var hN hv hd hcd) hr hs) fun σ H Q ⟨O, B, e, S, g⟩ => by
    unfold evs ev at g
    have nl : ∀ p ∈ C.lnt, p.1 ≠ i := fun p hp z => (S.ln.at_ p hp).2.2.2.1 (by rw [z]; exact hi)
    cases h : e[i]? with
    | none => rw [h] at g; exact g.elim
    | some o =>
      cases o with
      | none => rw [h] at g; exact g.elim
      | some d =>
        rw [h] at g
        rcases S.slot i d nl h with ⟨h1, v, h2, h3⟩ | ⟨a, h1, h2, h3⟩
        · exact ⟨v, h2, tA_next (qa := true) (m := .io) (fx := fun _ => .no) Kp.refl (fun _ => Same.refl H) S ⟨i, rfl, fun a z => by rw [h1] at z; cases z⟩ (fun z => by cases z) (fun z => ⟨rfl, z⟩) g⟩
        · exact ⟨.ref a, h2, tA_next (qa := true) (m := .io) (fx := fun _ => .no) Kp.refl (fun _ => Same.refl H) S ⟨i, rfl, fun b z => by rw [h1] at z; cases z; rfl⟩ (fun z => by cases z) (fun z => ⟨rfl, z⟩) g⟩
theorem ea_lv {i : Nat} {x : Str} {pos : Pos} (hN : X.N[i]? = some x) (hv : Vis X.env.scope x) (hd : (x == ("__debug__" : Str)) = false) (hcd : (x == ("__classdict__" : Str)) = false)
    (hr : PA X rest (tA C P W ms qb xs)) (hs : starEach (.Name x pos :: rest) X.env = (false, eval (.Name x pos) X.env) :: starEach rest X.env) (hq : qb = true) : PA X (.Name x pos :: rest) (tA C P W (.lv :: ms) q (.var i :: xs)) :=
  pa_imp (pa_cons (pe_var hN hv hd hcd) hr hs) fun σ H Q ⟨O, B, e, S, g⟩ => by
    unfold evs ev at g
    cases h : e[i]? with
    | none => rw [h] at g; exact g.elim
    | some o =>
      cases o with
      | none => rw [h] at g; exact g.elim
      | some d =>
        rw [h] at g
        have nx : ∀ {v : V}, ArgIs C O B H .lv (.var i) v d → tA C P W ms qb xs σ H fun vs H2 => Q (v :: vs) H2 := fun {v} r => tA_next (qa := true) (m := .lv) (fx := fun _ => .no) Kp.refl (fun _ => Same.refl H) S r (fun _ => hq) (fun z => ⟨rfl, hq⟩) g
        by_cases hl : ∃ p ∈ C.lnt, p.1 = i
        · obtain ⟨p, hp, rfl⟩ := hl
          obtain ⟨h1, h2, _, _, h5⟩ := S.ln.at_ p hp
          rw [h] at h1
          have h1 := Option.some.inj (Option.some.inj h1)
          subst h1
          refine ⟨_, h2, nx ?_⟩
          rcases h5 with r | ⟨a, ea, r, f⟩
          · exact .inl r
          · exact .inr ⟨p.1, a, rfl, ea, r, .inr f⟩
        · rcases S.slot i d (fun p hp z => hl ⟨p, hp, z⟩) h with ⟨h1, v, h2, h3⟩ | ⟨a, h1, h2, h3⟩
          · exact ⟨v, h2, nx (.inl h3)⟩
          · exact ⟨.ref a, h2, nx (.inr ⟨i, a, rfl, rfl, h3, .inl h1⟩)⟩
theorem ea_lvP (ha : PE X a (tE C P W .plain qa xa)) (hr : PA X rest (tA C P W ms qb xs)) (hs : starEach (a :: rest) X.env = (false, eval a X.env) :: starEach rest X.env) (hl : qb = true) (hq : q = true → qa = true ∧ qb = true) :
    PA X (a :: rest) (tA C P W (.lv :: ms) q (xa :: xs)) :=
  pa_imp (pa_cons ha hr hs) fun σ H Q ⟨O, B, e, S, g⟩ => by
    unfold evs at g
    exact ⟨O, B, e, S, (EvG.part Kp.refl g).mono fun d e1 _ ⟨_, g1⟩ v H1 f1 => tA_next (m := .lv) (x := xa) (fx := fun _ => .no) f1.kp f1.same f1.sim (.inl f1.val.2) (fun _ => hl) hq g1⟩
theorem args_rd : ∀ {ms : List Md} {xs : List Ex} {vs : List V} {ds : List D}, Args C O B H (ms.map Am.md) xs vs ds → Paired (RepR C.K C.w (Av C O B) H) vs ds
  | [], _, _, _, h => by cases h; exact .nil
  | m :: ms, _, _, _, h => by
    cases h with
    | cons a t => exact .cons a.rd (args_rd t)
theorem args_plain : ∀ {n : Nat} {xs : List Ex} {vs : List V} {ds : List D}, Args C O B H (List.replicate n (.md .plain)) xs vs ds → RepAll C.K C.w (Av C O B) H vs ds
  | 0, _, _, _, h => by cases h; exact .nil
  | n + 1, _, _, _, h => by
    rw [List.replicate_succ] at h
    cases h with
    | cons a t => exact .cons a (args_plain t)

/-! ### displays -/
theorem ev_tup {x1} {n : Nat} {es : List Expr} (h : PA X es (tA C P W (List.replicate n (.md .plain)) q xs)) : PE X (.Tuple es x1 pos) (tE C P W md q (.tup xs)) :=
  pe_imp (pe_tupF h) fun σ H Q ⟨O, B, e, S, g⟩ => by
    unfold ev at g
    refine ⟨O, B, e, S, (EvG.part Kp.refl g).mono fun ds e1 _ ⟨_, g1⟩ vs H1 k1 s1 S1 r1 => ?_⟩
    by_cases hz : okLen ds.length = true
    · rw [if_pos hz] at g1
      have g1 : ∀ v H', Fin C O B σ md q H H' v (.tuple ds) e1 → Q v H' := g1
      have r := args_plain r1
      refine ⟨by rw [r.length]; exact okLen_le hz, fun p o hp hd => g1 _ _ ?_⟩
      exact Fin.from (q1 := q) (q2 := true) S1 k1 s1 (fin_op S1 (upd_self hp) (rep_newT hp hd S1.trk r) (nw := true) (fun _ z => by cases z) fun _ => rfl) fun z => ⟨z, rfl⟩
    · rw [if_neg hz] at g1; exact g1.elim
theorem ev_lst {n : Nat} {es : List Expr} (h : PA X es (tA C P W (List.replicate n (.md .plain)) q xs)) : PE X (.List es pos) (tE C P W md q (.lst xs)) :=
  pe_imp (pe_lst h) fun σ H Q ⟨O, B, e, S, g⟩ => by
    unfold ev at g
    refine ⟨O, B, e, S, (EvG.part Kp.refl g).mono fun ds e1 _ ⟨_, g1⟩ vs H1 k1 s1 S1 r1 => ?_⟩
    by_cases hz : okLen ds.length = true
    · rw [if_pos hz] at g1
      have g1 : ∀ v H', Fin C O B σ md q H H' v (.list ds) e1 → Q v H' := g1
      have r := args_plain r1
      refine ⟨by rw [r.length]; exact okLen_le hz, fun p hp => g1 _ _ ?_⟩
      exact Fin.from (q1 := q) (q2 := true) S1 k1 s1 (fin_op S1 (upd_self hp) (rep_newL hp S1.trk r) (nw := true) (fun _ _ => ⟨p, rfl, hp, root_newL hp r⟩) fun _ => rfl) fun z => ⟨z, rfl⟩
    · rw [if_neg hz] at g1; exact g1.elim

/-! ### built-ins and methods -/
def rN (C : Cb) (g : List D → Option D) : List V → Hp → VK → Prop := fun vs H Q => ∃ (A : Addr → Prop) (ds : List D) (d : D), (∀ a, A a → H a ≠ none) ∧ Paired (RepR C.K C.w A H) vs ds ∧ g ds = some d ∧
  ∀ z H', Same H H' → Rep C.K C.w A H' z d → (isMut d = true → ∃ p, z = .ref p ∧ H p = none ∧ Root C.K C.w (plus A p) H' p d) → Q z H'
theorem callR (F : FitC C X) (b : Bf) : CallR X (bfVal b) (rN C (bf b)) := by
  intro pins s σ H xs us Q I rv ⟨A, ds, d, h1, h2, h3, h4⟩
  rw [F.hK, F.hw] at h2
  refine bf_ok F.toFit b A pins s σ H xs us ds d Q I rv h1 h2 h3 fun z H' s r n => h4 z H' s ?_ ?_
  · rw [F.hK, F.hw]; exact r
  · rw [F.hK, F.hw]; exact n rfl
theorem rd_blt {b : Bf} {ms : List Md} : ∀ σ H Q, tE C P W md q (.blt b xs) σ H Q → tCB (rN C (bf b)) (tA C P W (ms.map Am.md) q xs) σ H Q := by
  rintro σ H Q ⟨O, B, e, S, g⟩
  unfold ev at g
  refine ⟨O, B, e, S, (EvG.part Kp.refl g).mono fun ds e1 _ ⟨_, g1⟩ vs H1 k1 s1 S1 r1 => ?_⟩
  cases hg : bf b ds with
  | none => rw [hg] at g1; exact g1.elim
  | some d =>
    rw [hg] at g1
    have g1 : ∀ v H', Fin C O B σ md q H H' v d e1 → Q v H' := g1
    exact ⟨Av C O B, ds, d, S1.trk, args_rd r1, hg, fun z H' s r n => g1 _ _ (Fin.from (q1 := q) (q2 := true) S1 k1 s1 (fin_op S1 s r (nw := true) (fun _ => n) fun _ => rfl) fun z => ⟨z, rfl⟩)⟩
theorem ev_bltB {b : Bf} {id : String} {x : Str} {p : Pos} {ms : List Md} (F : FitC C X) (hb : bfVal b = .builtin id) (hg : Gl X x) (hm : X.mg x = none) (hv : bootBuiltins x = some (bfVal b)) (ha : PA X (a :: rest) (tA C P W (ms.map Am.md) q xs))
    (hn : x ≠ "__name__") (hdb : (x == ("__debug__" : Str)) = false) (he : starEach (a :: rest) X.env = (false, eval a X.env) :: starEach rest X.env) (hpl : (backTo pos (starEach rest X.env)).any (·.1) = false) :
    PE X (.Call (.Name x p) (a :: rest) [] pos) (tE C P W md q (.blt b xs)) :=
  pe_imp (pe_callB (hb ▸ callR F b) hg hm (hb ▸ hv) ha hn hdb he hpl) rd_blt
theorem ev_bltT {b : Bf} {T : String} {x : Str} {p : Pos} {ms : List Md} (F : FitC C X) (hb : bfVal b = .type T) (hg : Gl X x) (hm : X.mg x = none) (hv : bootBuiltins x = some (bfVal b)) (ha : PA X (a :: rest) (tA C P W (ms.map Am.md) q xs))
    (hn : x ≠ "__name__") (hdb : (x == ("__debug__" : Str)) = false) (he : starEach (a :: rest) X.env = (false, eval a X.env) :: starEach rest X.env) (hpl : (backTo pos (starEach rest X.env)).any (·.1) = false) :
    PE X (.Call (.Name x p) (a :: rest) [] pos) (tE C P W md q (.blt b xs)) :=
  pe_imp (pe_callTy (hb ▸ callR F b) hg hm (hb ▸ hv) ha hn hdb he hpl) rd_blt
/-! ### slices -/
def rSl (C : Cb) : V → Option Int → Option Int → Hp → VK → Prop := fun x lo hi H Q => ∃ (A : Addr → Prop) (dx d : D), (∀ a, A a → H a ≠ none) ∧ RepR C.K C.w A H x dx ∧ slice dx lo hi = some d ∧
  ∀ z H', Same H H' → Rep C.K C.w A H' z d → (isMut d = true → ∃ p, z = .ref p ∧ H p = none ∧ Root C.K C.w (plus A p) H' p d) → Q z H'
theorem slR (F : FitC C X) : SlR X (rSl C) := by
  intro pins s σ H x v vl vu lo hi sl Q I rx hs pl pu ⟨A, dx, d, h1, h2, h3, h4⟩
  rw [F.hK, F.hw] at h2
  refine sl2 A pins s σ H x v vl vu lo hi sl dx d Q I rx hs pl pu h1 h2 h3 fun z H' s r n => h4 z H' s ?_ ?_
  · rw [F.hK, F.hw]; exact r
  · rw [F.hK, F.hw]; exact n
def tO (C : Cb) (P : Px) (W : WX) (q : Bool) (x : Ex) : TO := fun σ H Q => ∃ O B e, Sim C O B σ H e ∧ EvG C O B σ H W (fun d e' => ∃ o, optInt d = some o ∧ ∀ H', Kp (Od O) H H' → (q = true → Same H H') → Sim C O B σ H' e' → Q o H') (ev P x e)
theorem eo_none : PO X none (tO C P W q .nil) := by
  refine ⟨fun pins s σ H Q I ⟨O, B, e, S, g⟩ => po_none.run pins s σ H Q I ?_⟩
  unfold ev at g
  obtain ⟨o, h, k⟩ := g
  cases h
  exact k H Kp.refl (fun _ => Same.refl H) S
theorem eo_some (h : PE X a (tE C P W ma q xa)) : PO X (some a) (tO C P W q xa) := by
  refine ⟨fun pins s σ H Q I ⟨O, B, e, S, g⟩ => ?_⟩
  rw [evalPart_some]
  refine thn (h.run pins s σ H (fun v H1 => (v = .non ∧ Q none H1) ∨ ∃ i, v = .int i ∧ Q (some i) H1) I ⟨O, B, e, S, g.mono fun d e1 _ ⟨o, ho, k⟩ v H1 f1 => ?_⟩) fun u s1 ⟨x, H1, I1, r1, q1⟩ => ?_
  · cases d with
    | none => cases ho; exact .inl ⟨(f1.rd S).non, k H1 f1.kp f1.same f1.sim⟩
    | int i => cases ho; exact .inr ⟨i, (f1.rd S).int, k H1 f1.kp f1.same f1.sim⟩
    | _ => cases ho
  · rcases q1 with ⟨rfl, q1⟩ | ⟨i, rfl, q1⟩
    · cases r1; exact ⟨none, H1, I1, .none, q1⟩
    · obtain ⟨t, rfl⟩ := r1; exact ⟨some i, H1, I1, .int i t, q1⟩
theorem ev_slc (F : FitC C X) {lo hi : Option Expr} {p2 : Pos} {xl xh : Ex} (ha : PE X a (tE C P W ma qa xa)) (hlo : PO X lo (tO C P W true xl)) (hhi : PO X hi (tO C P W true xh)) (hq : q = true → qa = true) :
    PE X (.Subscript a (.Slice lo hi none p2) pos) (tE C P W md q (.slc xa xl xh)) :=
  pe_imp (pe_slice (slR F) ha hlo hhi) fun σ H Q ⟨O, B, e, S, g⟩ => by
    unfold ev at g
    refine ⟨O, B, e, S, (EvG.part Kp.refl g).mono fun dx e1 _ ⟨_, g1⟩ v H1 f1 => ⟨O, B, e1, f1.sim, (EvG.part f1.kp g1).mono fun dl e2 _ ⟨_, g2⟩ => ?_⟩⟩
    cases hl : optInt dl with
    | none => simp only [hl] at g2; exact g2.elim
    | some l =>
      simp only [hl] at g2
      refine ⟨l, rfl, fun H2 k2 s2 S2 => ⟨O, B, e2, S2, (EvG.part (f1.kp.trans k2) g2).mono fun dh e3 _ ⟨_, g3⟩ => ?_⟩⟩
      cases hh : optInt dh with
      | none => simp only [hh] at g3; exact g3.elim
      | some h =>
        simp only [hh] at g3
        refine ⟨h, rfl, fun H3 k3 s3 S3 => ?_⟩
        cases hs : slice dx l h with
        | none => rw [hs] at g3; exact g3.elim
        | some d =>
          rw [hs] at g3
          have g3 : ∀ v H', Fin C O B σ md q H H' v d e3 → Q v H' := g3
          have sm : Same H1 H3 := (s2 rfl).trans (s3 rfl)
          exact ⟨Av C O B, dx, d, S3.trk, (ArgIs.step (Kp.of_same sm) (fun _ => sm) (f1.arg S .nil)).rd, hs, fun z H' s r n => g3 _ _ (Fin.from (q1 := qa) (q2 := true) S3 ((f1.kp.trans k2).trans k3) (fun z => (f1.same z).trans sm) (fin_op S3 s r (nw := true) (fun _ => n) fun _ => rfl) fun z => ⟨hq z, rfl⟩)⟩
end
end Mp

namespace Mp
open PySem PySem.Spec PyProof.Rows L2

/-! ### what a def promises -/
inductive Pm where | plain | lv | io
def Df.pm (f : Df) (i : Nat) : Pm := if i ∈ f.io then .io else if i ∈ f.lv then .lv else .plain
def amOf : Pm → Am
  | .plain => .md .plain
  | .lv => .lv
  | .io => .io
def InP (K : PySem.W.Frag) (w : World) (A : Addr → Prop) (H : Hp) (as : List Addr) : Pm → V → D → Prop
  | .plain, v, d => Rep K w A H v d
  | .lv, v, d => Rep K w A H v d ∨ ∃ a, v = .ref a ∧ Root K w A H a d ∧ A a ∧ a ∉ as
  | .io, v, d => ∃ a, v = .ref a ∧ Root K w A H a d
structure EndC (K : PySem.W.Frag) (w : World) (A : Addr → Prop) (H H' : Hp) (as : List Addr) (os : List D) : Prop where
  kp : ∀ a o, a ∉ as → H a = some o → H' a = some o
  io : Paired (fun a d => Root K w A H' a d) as os
def DatC (K : PySem.W.Frag) (w : World) (A : Addr → Prop) (H' : Hp) (d : D) (od : Option Addr) : Prop := (d = .none ∧ od = none) ∨ ∃ dx v, od = some dx ∧ H' dx = some (.xd [(("at" : Str), v)]) ∧ Rep K w A H' v d
def RetC (K : PySem.W.Frag) (w : World) (xc : Nat → Addr) (fr : Bool) (A : Addr → Prop) (H : Hp) (as : List Addr) (Q : VK) (E : XK) : Ret → Prop
  | .ok d os => ∀ v H', EndC K w A H H' as os → Rep K w A H' v d → (fr = true → isMut d = true → ∃ p, v = .ref p ∧ H p = none ∧ Root K w (plus A p) H' p d ∧ EndC K w (plus A p) H H' as os) → Q v H'
  | .ex c d os => ∀ od H', EndC K w A H H' as os → DatC K w A H' d od → E (.ref (xc c)) od H'
  | .no => False
def spD (K : PySem.W.Frag) (w : World) (xc : Nat → Addr) (f : Df) (F : List D → Ret) : Sp := fun vs H Q E => vs.length = f.ps ∧ ∃ (A : Addr → Prop) (ds : List D) (as : List Addr), ds.length = f.ps ∧ (∀ a, A a → H a ≠ none) ∧ as.Nodup ∧
  Paired (fun i a => vs[i]? = some (.ref a) ∧ A a) f.io as ∧ (∀ (i : Nat) v d, vs[i]? = some v → ds[i]? = some d → InP K w A H as (f.pm i) v d) ∧ RetC K w xc f.fr A H as Q E (F ds)
/-- a def's promise (nothing guarded around it) -/
structure Fn (P : Program) (w : World) (K : PySem.W.Frag) (mg : Str → Option Value) (base : Heap) (k : Nat) (f : Addr) (fd : FuncData) (ps : List Str) (sp : Sp) : Prop where
  len : ∀ vs H Q E, sp vs H Q E → vs.length = ps.length
  go : ∀ (A : Around) (outer : List Env) (s : Shared) (H : Hp) (args : PySem.Args) (us : List Value) (vs : List V) (Q : VK) (E : XK), Room k A → A.guards = some [] → Env0 P w K mg base A outer s H → BindsTo s fd args (ps.zip us) → Vals vs us → sp vs H Q E →
    codeAny (model P w) A (.call (.ref f) args) (CR (L2.CX P w) outer P w H s Q E) s
section
variable {X : Cx} {k : Nat} {f : Addr} {fd : FuncData} {ps : List Str} {sp : Sp} {W : WX} {x : Str} {p pos : Pos} {e : Expr} {es : List Expr} {t : TA}
theorem fn_go {pins : List (Addr × Obj)} {σ : L2.St} {H : Hp} {s : Shared} {Q : VK} {us : List Value} {vs : List V} (F : Fn X.prog X.w X.K X.mg X.base k f fd ps sp) (hr : Room k X.A) (hgd : X.A.guards = some []) (hb : Binds X.K fd ps []) (tk : Takes X W)
    (I : Inv X pins σ H s) (r : Vals vs us) (h : sp vs H Q (WE W σ)) : wpAny (model X.prog X.w) X.A (call (.ref f) us) (EP X pins σ Q) X.xe s := by
  have hl : us.length = ps.length := r.length.symm.trans (F.len _ _ _ _ h)
  have b := hb s us I.kIn (by simpa using hl)
  rw [List.append_nil] at b
  refine wpAny_call (codeAny_mono (F.go X.A X.stack s H ⟨us, []⟩ us vs Q (WE W σ) hr hgd I.env0 b r h) fun r s' hq => ?_)
  match r, hq with
  | .error e, hq => exact passAt tk σ pins H s e s' I hq
  | .ok (.ret u), hq => exact I.after hq
theorem pe_fn (F : Fn X.prog X.w X.K X.mg X.base k f fd ps sp) (hr : Room k X.A) (hgd : X.A.guards = some []) (hg : Gl X x) (hm : X.mg x = some (.ref f)) (hk : PySem.W.keepIn X.K (.ref f) = true) (hb : Binds X.K fd ps []) (tk : Takes X W)
    (ha : PA X (e :: es) t) (hdb : (x == ("__debug__" : Str)) = false) (he : starEach (e :: es) X.env = (false, eval e X.env) :: starEach es X.env) (hpl : (backTo pos (starEach es X.env)).any (·.1) = false) :
    PE X (.Call (.Name x p) (e :: es) [] pos) (tCallS sp (WE W) t) := by
  refine ⟨fun pins s σ H Q I h => wpAny_Call_Name_kw (ld_glob I hg hm ?_ hdb)⟩
  refine PySem.W.callWith_K (h₀ := X.base) I.ok.mod.kin hk (thn (ha.run pos pins s σ H _ I h) fun us s1 hh => ?_) he hpl
  obtain ⟨vs, H1, I1, r, q⟩ := hh
  exact ⟨I1.kIn, fn_go F hr hgd hb tk I1 r q⟩
theorem pe_fn0 (F : Fn X.prog X.w X.K X.mg X.base k f fd ps sp) (hr : Room k X.A) (hgd : X.A.guards = some []) (hg : Gl X x) (hm : X.mg x = some (.ref f)) (hk : PySem.W.keepIn X.K (.ref f) = true) (hb : Binds X.K fd ps []) (tk : Takes X W)
    (hdb : (x == ("__debug__" : Str)) = false) : PE X (.Call (.Name x p) [] [] pos) (tCallS sp (WE W) tNil) :=
  ⟨fun pins s σ H Q I h => wpAny_Call_Name_kw (ld_glob I hg hm (PySem.W.callWith_K0 I.kIn hk (fn_go (us := []) F hr hgd hb tk I .nil h)) hdb)⟩
end

/-! ### the caller's part -/
theorem paired_of {α β : Type} {R : α → β → Prop} : ∀ {l : List α}, (∀ p ∈ l, ∃ a, R p a) → ∃ as, Paired R l as
  | [], _ => ⟨[], .nil⟩
  | p :: l, h => by
    obtain ⟨a, ha⟩ := h p (List.mem_cons_self ..)
    obtain ⟨as, hs⟩ := paired_of (l := l) fun q hq => h q (List.mem_cons_of_mem _ hq)
    exact ⟨a :: as, .cons ha hs⟩
theorem _root_.PySem.Paired.lft {α β : Type} {R : α → β → Prop} : ∀ {l : List α} {m : List β}, Paired R l m → ∀ a ∈ l, ∃ b ∈ m, R a b
  | _, _, .nil, a, h => by simp at h
  | _, _, .cons r t, a, h => by
    rcases List.mem_cons.mp h with rfl | h
    · exact ⟨_, List.mem_cons_self .., r⟩
    · obtain ⟨b, hb, q⟩ := t.lft a h; exact ⟨b, List.mem_cons_of_mem _ hb, q⟩
theorem _root_.PySem.Paired.rgt {α β : Type} {R : α → β → Prop} : ∀ {l : List α} {m : List β}, Paired R l m → ∀ b ∈ m, ∃ a ∈ l, R a b
  | _, _, .nil, a, h => by simp at h
  | _, _, .cons r t, b, h => by
    rcases List.mem_cons.mp h with rfl | h
    · exact ⟨_, List.mem_cons_self .., r⟩
    · obtain ⟨b, hb, q⟩ := t.rgt b h; exact ⟨b, List.mem_cons_of_mem _ hb, q⟩
theorem _root_.PySem.Paired.at2 {α β γ : Type} {R : α → β → Prop} {R' : β → γ → Prop} : ∀ {l : List α} {m : List β} {n : List γ} {k : Nat} {a : α} {c : γ}, Paired R l m → Paired R' m n → l[k]? = some a → n[k]? = some c → ∃ b, R a b ∧ R' b c
  | _, _, _, _, _, _, .nil, .nil, h, _ => by simp at h
  | _, _, _, 0, _, _, .cons r _, .cons r' _, h, h' => by
    simp at h h'; subst h h'; exact ⟨_, r, r'⟩
  | _, _, _, k + 1, _, _, .cons _ t, .cons _ t', h, h' => t.at2 t' (by simpa using h) (by simpa using h')
theorem _root_.PySem.Paired.wk {α β : Type} {R R' : α → β → Prop} (f : ∀ a b, R a b → R' a b) : ∀ {l : List α} {m : List β}, Paired R l m → Paired R' l m
  | _, _, .nil => .nil
  | _, _, .cons r t => .cons (f _ _ r) (t.wk f)
theorem slotOf_var {x : Ex} {i : Nat} (h : slotOf x = some i) : x = .var i := by
  cases x <;> simp [slotOf] at h
  rw [h]
theorem reread_ok {xs : List Ex} {e : En} : ∀ {io : List Nat} {ds ds' : List D}, rereadIo io xs ds e = some ds' → ds'.length = ds.length ∧ (∀ p, p ∉ io → ds'[p]? = ds[p]?) ∧
    ∀ p ∈ io, ∃ i d, xs[p]? = some (.var i) ∧ e[i]? = some (some d) ∧ isMut d = true ∧ (p < ds.length → ds'[p]? = some d)
  | [], ds, ds', h => by cases h; exact ⟨rfl, fun _ _ => rfl, fun p hp => by simp at hp⟩
  | p :: io, ds, ds', h => by
    simp only [rereadIo] at h
    cases hx : xs[p]? with
    | none => simp [hx] at h
    | some x =>
      cases hs : slotOf x with
      | none => simp [hx, hs] at h
      | some i =>
        simp only [hx, Option.bind_some, hs] at h
        cases he : e[i]? with
        | none => simp [he] at h
        | some o =>
          cases o with
          | none => simp [he] at h
          | some d =>
            simp only [he, Option.getD_some] at h
            split at h
            · rename_i hm
              obtain ⟨h1, h2, h3⟩ := reread_ok (io := io) h
              have ex := slotOf_var hs; subst ex
              refine ⟨by rw [h1, List.length_set], fun q hq => ?_, fun q hq => ?_⟩
              · rw [h2 q fun z => hq (List.mem_cons_of_mem _ z), List.getElem?_set_ne fun z => hq (by rw [z]; exact List.mem_cons_self ..)]
              · by_cases hqi : q ∈ io
                · obtain ⟨i', d', e1, e2, e3, e4⟩ := h3 q hqi
                  exact ⟨i', d', e1, e2, e3, fun hl => e4 (by rw [List.length_set]; exact hl)⟩
                · have : q = p := (List.mem_cons.mp hq).resolve_right hqi
                  subst this
                  exact ⟨i, d, hx, he, hm, fun hl => by rw [h2 q hqi]; exact set_at hl⟩
            · cases h
theorem putIo_get {xs : List Ex} : ∀ {io : List Nat} {os : List D} {e e2 : En}, putIo io xs os e = some e2 → e2.length = e.length ∧ (∀ j, (∀ p ∈ io, xs[p]? ≠ some (.var j)) → e2[j]? = e[j]?) ∧
    (∀ (j : Nat) (d : D), e2[j]? = some (some d) → (∃ p ∈ io, xs[p]? = some (.var j)) → ∃ (k p : Nat), io[k]? = some p ∧ xs[p]? = some (.var j) ∧ os[k]? = some d) ∧ os.length = io.length
  | [], [], e, e2, h => by cases h; exact ⟨rfl, fun _ _ => rfl, fun j d _ ⟨p, hp, _⟩ => by simp at hp, rfl⟩
  | [], _ :: _, e, e2, h => by simp [putIo] at h
  | _ :: _, [], e, e2, h => by simp [putIo] at h
  | p :: io, o :: os, e, e2, h => by
    simp only [putIo] at h
    cases hx : xs[p]? with
    | none => simp [hx] at h
    | some x =>
      cases hs : slotOf x with
      | none => simp [hx, hs] at h
      | some i =>
        simp only [hx, Option.bind_some, hs] at h
        have ex := slotOf_var hs; subst ex
        obtain ⟨h1, h2, h3, h4⟩ := putIo_get (io := io) h
        refine ⟨by rw [h1]; unfold setE; rw [List.length_set], fun j hj => ?_, fun j d hd hj => ?_, by simp [h4]⟩
        · rw [h2 j fun q hq => hj q (List.mem_cons_of_mem _ hq)]
          unfold setE
          exact List.getElem?_set_ne fun z => hj p (List.mem_cons_self ..) (by rw [hx, z])
        · by_cases hq : ∃ q ∈ io, xs[q]? = some (.var j)
          · obtain ⟨k, q, e1, e3, e4⟩ := h3 j d hd hq
            exact ⟨k + 1, q, by simpa using e1, e3, by simpa using e4⟩
          · have hq' : ∀ q ∈ io, xs[q]? ≠ some (.var j) := fun q hqi z => hq ⟨q, hqi, z⟩
            rw [h2 j hq'] at hd
            obtain ⟨q, hqm, hqx⟩ := hj
            have hqp : q = p := (List.mem_cons.mp hqm).resolve_right fun z => hq' q z hqx
            subst hqp
            rw [hx] at hqx
            cases hqx
            rcases setE_get hd with ⟨_, rfl⟩ | ⟨z, _⟩
            · exact ⟨0, q, rfl, hx, rfl⟩
            · exact absurd rfl z
section
variable {X : Cx} {C : Cb} {P : Px} {W : WX} {O : Ow} {B : Addr → Prop} {σ : L2.St} {H H1 H2 H' : Hp} {q qa qb qc : Bool} {md ma mb mc : Md} {v u : V} {d : D} {e e1 e2 : En} {Q : VK}
/-- behind a call -/
theorem Sim.call {B' : Addr → Prop} (S : Sim C O B σ H e) {io : List Nat} {xs : List Ex} {as : List Addr} {os : List D} (hp : putIo io xs os e = some e2) (ha : Paired (fun p a => ∃ i d, xs[p]? = some (.var i) ∧ O i = some a ∧ e[i]? = some (some d)) io as)
    (E : EndC C.K C.w (Av C O B') H H' as os) (hB : ∀ a, B' a → B a ∨ (H a = none ∧ H' a ≠ none)) (hB2 : ∀ a, B a → B' a) : Sim C O B' σ H' e2 := by
  obtain ⟨p1, p2, p3, p4⟩ := putIo_get hp
  have owned : ∀ a ∈ as, ∃ p ∈ io, ∃ i, xs[p]? = some (.var i) ∧ O i = some a := fun a h => by
    obtain ⟨p, hp, i, d, h1, h2, _⟩ := ha.rgt a h
    exact ⟨p, hp, i, h1, h2⟩
  have nA : ∀ a, ¬ Av C O B a → a ∉ as := fun a n h => by
    obtain ⟨_, _, i, _, z⟩ := owned a h
    exact n (.inr (.inl ⟨i, z⟩))
  have g : Goes1 (Av C O B) (Av C O B') H H' := fun a o h n => ⟨E.kp a o (nA a n) h, fun z => by
    rcases z with z | z | z
    · exact n (.inl z)
    · exact n (.inr (.inl z))
    · rcases hB a z with z | ⟨z, _⟩
      · exact n (.inr (.inr z))
      · rw [z] at h; cases h⟩
  have same : ∀ a, a ∉ as → H a ≠ none → H a = H' a := fun a n h => by
    cases z : H a with
    | none => exact absurd z h
    | some o => exact (E.kp a o n z).symm
  have notAs : ∀ j a, O j = some a → (∀ p ∈ io, xs[p]? ≠ some (.var j)) → a ∉ as := fun j a hO hj h => by
    obtain ⟨p, hp, i, h1, h2⟩ := owned a h
    rw [S.inj i j a h2 hO] at h1
    exact hj p hp h1
  have rootAt : ∀ a ∈ as, ∃ d, Root C.K C.w (Av C O B') H' a d := fun a h => by
    obtain ⟨d, _, r⟩ := E.io.lft a h
    exact ⟨d, r⟩
  have inIo : ∀ (j : Nat) (d : D), e2[j]? = some (some d) → (∃ p ∈ io, xs[p]? = some (.var j)) → ∃ a d0, O j = some a ∧ e[j]? = some (some d0) ∧ Root C.K C.w (Av C O B') H' a d := fun j d hd hj => by
    obtain ⟨k, p, h1, h2, h3⟩ := p3 j d hd hj
    obtain ⟨a, ⟨i, d0, q1, q2, q3⟩, r⟩ := ha.at2 E.io h1 h3
    rw [h2] at q1; cases q1
    exact ⟨a, d0, q2, q3, r⟩
  refine ⟨p1.trans S.len, fun a o h1 h2 => ?_, fun j d nl hd => ?_, S.inj, S.own, fun j hj d hd hm => ?_, S.io, fun a h => ?_, fun i a h z => (hB a z).elim (S.BO i a h) fun z => S.trk a (.inr (.inl ⟨i, h⟩)) z.1, S.a0, ?_⟩
  · refine E.kp a o (fun z => ?_) (S.keep a o h1 h2)
    obtain ⟨_, _, i, _, hO⟩ := owned a z
    rcases (S.own i a hO).2 with q | q
    · rw [q] at h2; cases h2
    · exact h1 _ q rfl
  · by_cases hj : ∃ p ∈ io, xs[p]? = some (.var j)
    · obtain ⟨a, d0, q2, q3, r⟩ := inIo j d hd hj
      rcases S.slot j d0 nl q3 with ⟨z, _⟩ | ⟨b, z1, z2, _⟩
      · rw [q2] at z; cases z
      · rw [q2] at z1; cases z1; exact .inr ⟨a, q2, z2, r⟩
    · have hj' : ∀ p ∈ io, xs[p]? ≠ some (.var j) := fun p hp z => hj ⟨p, hp, z⟩
      rw [p2 j hj'] at hd
      rcases S.slot j d nl hd with ⟨z1, v, z2, z3⟩ | ⟨b, z1, z2, z3⟩
      · exact .inl ⟨z1, v, z2, z3.go g⟩
      · exact .inr ⟨b, z1, z2, z3.go g (same b (notAs j b z1 hj') z3.trk)⟩
  · by_cases hj' : ∃ p ∈ io, xs[p]? = some (.var j)
    · obtain ⟨a, _, q2, _⟩ := inIo j d hd hj'
      exact ⟨a, q2⟩
    · rw [p2 j fun p hp z => hj' ⟨p, hp, z⟩] at hd
      exact S.chg j hj d hd hm
  · by_cases ha' : a ∈ as
    · obtain ⟨d, r⟩ := rootAt a ha'
      exact r.trk
    · have keeps : H a ≠ none → H' a ≠ none := fun n => by rw [← same a ha' n]; exact n
      rcases h with h | h | h
      · exact keeps (S.trk a (.inl h))
      · exact keeps (S.trk a (.inr (.inl h)))
      · rcases hB a h with h | h
        · exact keeps (S.trk a (.inr (.inr h)))
        · exact h.2
  · refine S.ln.go g (fun a hf hn => same a (fun z => ?_) hn) (fun _ _ h => h) (fun _ _ h => h) (fun _ _ _ => rfl) fun p hp hn => p2 _ fun q hq z => ?_
    · obtain ⟨_, _, i, _, hO⟩ := owned a z
      exact (S.ln.fz a hf).2.1 i hO
    · obtain ⟨a, _, i, d, h1, h2, _⟩ := ha.lft q hq
      rw [z] at h1; cases h1
      exact hn (S.own _ a h2).1
theorem Args.len : ∀ {ms : List Am} {xs : List Ex} {vs : List V} {ds : List D}, Args C O B H ms xs vs ds → xs.length = ms.length ∧ vs.length = ms.length ∧ ds.length = ms.length
  | _, _, _, _, .nil => ⟨rfl, rfl, rfl⟩
  | _, _, _, _, .cons _ t => by
    obtain ⟨h1, h2, h3⟩ := t.len
    simp [h1, h2, h3]
theorem Args.at_ : ∀ {ms : List Am} {xs : List Ex} {vs : List V} {ds : List D} {k : Nat} {m : Am}, Args C O B H ms xs vs ds → ms[k]? = some m → ∃ x v d, xs[k]? = some x ∧ vs[k]? = some v ∧ ds[k]? = some d ∧ ArgIs C O B H m x v d
  | _, _, _, _, _, _, .nil, h => by simp at h
  | _, _, _, _, 0, _, .cons a _, h => by simp at h; subst h; exact ⟨_, _, _, rfl, rfl, rfl, a⟩
  | _, _, _, _, k + 1, _, .cons _ t, h => by simpa using t.at_ (by simpa using h)
theorem paired_nodup {α β : Type} {R : α → β → Prop} : ∀ {l : List α} {m : List β}, Paired R l m → l.Nodup → (∀ p ∈ l, ∀ p' ∈ l, ∀ a, R p a → R p' a → p = p') → m.Nodup
  | _, _, .nil, _, _ => List.nodup_nil
  | _, _, @Paired.cons _ _ _ p a l m r t, hn, h => by
    rw [List.nodup_cons] at hn ⊢
    refine ⟨fun z => ?_, paired_nodup t hn.2 fun p hp p' hp' => h p (List.mem_cons_of_mem _ hp) p' (List.mem_cons_of_mem _ hp')⟩
    obtain ⟨p', hp', r'⟩ := t.rgt a z
    have := h p (List.mem_cons_self ..) p' (List.mem_cons_of_mem _ hp') a r r'
    exact hn.1 (this ▸ hp')
/-- what is asked of the written arguments: what is changed is an own name; no name is handed in twice where one is changed -/
structure IoOk (own : List Nat) (df : Df) (xs : List Ex) : Prop where
  nod : df.io.Nodup
  own : ∀ p ∈ df.io, p < df.ps ∧ ∀ i, xs[p]? = some (.var i) → i ∈ own
  sep : ∀ p ∈ df.io, ∀ p', p' < df.ps → p' ≠ p → df.pm p' ≠ .plain → ∀ i, xs[p]? = some (.var i) → xs[p']? ≠ some (.var i)
theorem pm_io {df : Df} {p : Nat} (h : p ∈ df.io) : df.pm p = .io := by unfold Df.pm; rw [if_pos h]
theorem pm_nio {df : Df} {p : Nat} (h : df.pm p ≠ .io) : p ∉ df.io := fun z => h (pm_io z)
theorem rd_call {f : Nat} {df : Df} {xs : List Ex} (hio : P.io f = df.io) (ok : IoOk C.own df xs) (hq : q = true → qa = true ∧ df.io = []) (hn : md = .new → df.fr = true) :
    ∀ σ H Q, tE C P W md q (.call f xs) σ H Q → tCallS (spD C.K C.w C.xc df (P.F f)) (WE W) (tA C P W ((List.range df.ps).map fun i => amOf (df.pm i)) qa xs) σ H Q := by
  rintro σ H Q ⟨O, B, e, S, g⟩
  unfold ev at g
  refine ⟨O, B, e, S, (EvG.part Kp.refl g).mono fun ds0 e1 _ ⟨_, g1⟩ vs H1 k1 s1 S1 r1 => ?_⟩
  rw [hio] at g1
  obtain ⟨l1, l2, l3⟩ := r1.len
  simp only [List.length_map, List.length_range] at l1 l2 l3
  refine ⟨l2, ?_⟩
  cases hr : rereadIo df.io xs ds0 e1 with
  | none => rw [hr] at g1; exact g1.elim
  | some ds =>
    simp only [hr] at g1
    obtain ⟨d1, d2, d3⟩ := reread_ok hr
    have arg : ∀ {p : Nat}, p < df.ps → ∃ x v d, xs[p]? = some x ∧ vs[p]? = some v ∧ ds0[p]? = some d ∧ ArgIs C O B H1 (amOf (df.pm p)) x v d := fun {p} hp => r1.at_ (by rw [List.getElem?_map, List.getElem?_range hp]; rfl)
    have each : ∀ p ∈ df.io, ∃ a, (vs[p]? = some (.ref a) ∧ Av C O B a) ∧ ∃ i d, xs[p]? = some (.var i) ∧ O i = some a ∧ e1[i]? = some (some d) ∧ Root C.K C.w (Av C O B) H1 a d ∧ ds[p]? = some d := fun p hp => by
      obtain ⟨i, d, x1, x2, x3, x4⟩ := d3 p hp
      obtain ⟨o1, o2⟩ := ok.own p hp
      obtain ⟨a, hO⟩ := S1.chg i (o2 i x1) d x2 x3
      obtain ⟨x, v, d', y1, y2, y3, y4⟩ := arg o1
      rw [x1] at y1; cases y1
      rw [pm_io hp] at y4
      obtain ⟨i', z1, z2⟩ := y4
      cases z1
      rw [z2 a hO] at y2
      have nl : ∀ p ∈ C.lnt, p.1 ≠ i := fun p hp z => (S1.ln.at_ p hp).2.2.2.1 (by rw [z]; exact o2 i x1)
      refine ⟨a, ⟨y2, .inr (.inl ⟨i, hO⟩)⟩, i, d, x1, hO, x2, ?_, x4 (by rw [l3]; exact o1)⟩
      rcases S1.slot i d nl x2 with ⟨z, _⟩ | ⟨b, z, _, r⟩
      · rw [hO] at z; cases z
      · rw [hO] at z; cases z; exact r
    obtain ⟨as, ha⟩ := paired_of each
    have owned : ∀ a ∈ as, ∃ i, O i = some a := fun a h => by
      obtain ⟨_, _, _, i, _, _, z, _⟩ := ha.rgt a h
      exact ⟨i, z⟩
    refine ⟨Av C O B, ds, as, by rw [d1, l3], S1.trk, ?_, ha.wk fun _ _ z => z.1, fun p v d hv hd => ?_, ?_⟩
    · refine paired_nodup ha ok.nod fun p hp p' hp' a r r' => ?_
      obtain ⟨_, i, _, x1, x2, _⟩ := r
      obtain ⟨_, i', _, y1, y2, _⟩ := r'
      rw [S1.inj i' i a y2 x2] at y1
      by_cases z : p' = p
      · exact z.symm
      · exact absurd y1 (ok.sep p hp p' (ok.own p' hp').1 z (by rw [pm_io hp']; simp) i x1)
    · have hp : p < df.ps := by rw [← l2]; exact (List.getElem?_eq_some_iff.mp hv).1
      obtain ⟨x, v', d', y1, y2, y3, y4⟩ := arg hp
      rw [hv] at y2; cases y2
      cases hpm : df.pm p with
      | io =>
        have hm : p ∈ df.io := by
          unfold Df.pm at hpm
          split at hpm
          · assumption
          · split at hpm <;> cases hpm
        obtain ⟨a, ⟨z1, _⟩, i, dd, _, _, _, r, z2⟩ := each p hm
        rw [hv] at z1; cases z1
        rw [hd] at z2; cases z2
        exact ⟨a, rfl, r⟩
      | plain =>
        rw [hpm] at y4
        rw [d2 p (pm_nio (by rw [hpm]; simp)), y3] at hd; cases hd
        exact y4
      | lv =>
        rw [hpm] at y4
        rw [d2 p (pm_nio (by rw [hpm]; simp)), y3] at hd; cases hd
        rcases y4 with r | ⟨i, a, rfl, rfl, r, o⟩
        · exact .inl r
        · refine .inr ⟨a, rfl, r, ?_, fun z => ?_⟩
          · rcases o with o | o
            · exact .inr (.inl ⟨i, o⟩)
            · exact .inl (S1.ln.fz a o).2.2
          · obtain ⟨p', hp', _, i', _, x1, x2, _⟩ := ha.rgt a z
            rcases o with o | o
            · rw [S1.inj i' i a x2 o] at x1
              refine ok.sep p' hp' p hp (fun zz => ?_) (by rw [hpm]; simp) i x1 y1
              subst zz
              rw [pm_io hp'] at hpm; cases hpm
            · exact (S1.ln.fz a o).2.1 i' x2
    · have call : ∀ {os : List D} {H' : Hp} {B' : Addr → Prop} {e2 : En}, putIo df.io xs os e1 = some e2 → EndC C.K C.w (Av C O B') H1 H' as os → (∀ a, B' a → B a ∨ (H1 a = none ∧ H' a ≠ none)) → (∀ a, B a → B' a) → Sim C O B' σ H' e2 :=
        fun h E b1 b2 => S1.call h (ha.wk fun _ _ ⟨_, i, d, z1, z2, z3, _⟩ => ⟨i, d, z1, z2, z3⟩) E b1 b2
      have kO : ∀ {os : List D} {H' : Hp} {A : Addr → Prop}, EndC C.K C.w A H1 H' as os → Kp (Od O) H H' := fun E => k1.trans fun a o n h => E.kp a o (fun z => n (owned a z)) h
      cases hF : P.F f ds with
      | no => rw [hF] at g1; exact g1.elim
      | ex c d os =>
        simp only [hF] at g1
        cases hp : putIo df.io xs os e1 with
        | none => rw [hp] at g1; exact g1.elim
        | some e2 =>
          rw [hp] at g1
          have g1 : ∀ cv od H', XFin C O B σ H H' c d cv od e2 → W cv od σ H' := g1
          exact fun od H' E dt => g1 _ _ _ ⟨kO E, call hp E (fun _ z => .inl z) fun _ z => z, rfl, dt⟩
      | ok d os =>
        simp only [hF] at g1
        cases hp : putIo df.io xs os e1 with
        | none => rw [hp] at g1; exact g1.elim
        | some e2 =>
          rw [hp] at g1
          have g1 : ∀ v H', Fin C O B σ md q H H' v d e2 → Q v H' := g1
          intro v H' E r fr
          have S2 := call hp E (fun _ z => .inl z) fun _ z => z
          refine g1 v H' ⟨kO E, fun z => ?_, ?_⟩
          · have has : as = [] := by
              have := ha
              rw [(hq z).2] at this
              cases this; rfl
            exact (s1 (hq z).1).trans fun a o h => E.kp a o (by rw [has]; simp) h
          · cases md with
            | plain => exact ⟨S2, r⟩
            | lent => exact ⟨S2, .inl r⟩
            | new =>
              cases hm : isMut d with
              | false => exact .inr ⟨hm, S2, r⟩
              | true =>
                obtain ⟨p, rfl, hp0, r0, E0⟩ := fr (hn rfl) hm
                have go : Goes1 (plus (Av C O B) p) (Av C O (plus B p)) H' H' := go_plus
                have E1 : EndC C.K C.w (Av C O (plus B p)) H1 H' as os := ⟨E0.kp, E0.io.wk fun a d rr => rr.go go rfl⟩
                refine .inl ⟨hm, p, rfl, ?_, call hp E1 (fun a z => z.elim .inl fun z => .inr ⟨by rw [z]; exact hp0, by rw [z]; exact r0.trk⟩) (fun a z => .inl z), r0⟩
                cases z : H p with
                | none => rfl
                | some o =>
                  have := k1 p o (fun q => S1.notO hp0 q.choose q.choose_spec) z
                  rw [hp0] at this; cases this
end
end Mp

namespace Mp
open PySem PySem.Spec PyProof.Rows L2

/-! ### enumerate(tuple) -/
section
open AutoSeq1 (wpAny_loadPart')
theorem meets_enumT (l : Addr) (items : Array Value) (n : Nat) (dct : Option Addr) (sl : Array (Option Value)) :
    Meets (Builtin.«enumerate.__new__» ⟨[.type "enumerate", .ref l], []⟩) (fun _ R s => s.heap.get? l = some { cls := .type "tuple", dict := dct, data := .seq items n, slots := sl } ∧
      R (.ok (.ret (.ref (s.heap.objs.size + 1)))) { s with heap := (s.heap.push { cls := .type "tuple_iterator", data := .fields #[.ref l, .int 0 0] }).push { cls := .type "enumerate", data := .fields #[.none, .bool false, .ref s.heap.objs.size, rawInt 0, .none, .none] } }) :=
  .of_wp fun prog w A R s h => by
    obtain ⟨hp, g, d, tk, os⟩ := s; obtain ⟨hl, h⟩ := h
    have hsub := sub_enumerate
    have hL : Heap.IsTuple (Shared.heap ⟨hp, g, d, tk, os⟩) l items := ⟨_, hl, rfl, n, rfl⟩
    have hz : (hp.push { cls := .type "tuple_iterator", data := .fields #[.ref l, .int 0 0] }).objs.size = hp.objs.size + 1 := Heap.size_push ..
    simp only at h
    rw [← hz] at h
    wp_walk using wpAny_loadPart' hl
    refine wpAny_stack_any fun st => wpAny_pure ?_
    split
    · rename_i c _ _ _ _ _
      cases (c == Value.type "enumerate")
      · wp_walk using wpAny_loadPart' hl, wpAny_pyIter_tuple hL
        exact ⟨_, rfl, h⟩
      · wp_walk using wpAny_loadPart' hl, wpAny_pyIter_tuple hL
        exact ⟨_, rfl, h⟩
    · wp_walk using wpAny_loadPart' hl, wpAny_pyIter_tuple hL
      exact ⟨_, rfl, h⟩
end
theorem call_enumT {prog : Program} {w : World} {A : Around} {E : Value → Shared → Prop} {s : Shared} {l : Addr} {items : Array Value} {Q : Value → Shared → Prop} (hL : s.heap.IsTuple l items)
    (h : ∀ h', IsEnum h' (s.heap.objs.size + 1) s.heap.objs.size 0 .none → h'.IsTupleIter s.heap.objs.size l 0 → (∀ b o, s.heap.get? b = some o → h'.get? b = some o) → Q (.ref (s.heap.objs.size + 1)) { s with heap := h' }) :
    wpAny (model prog w) A (call (.type "enumerate") [.ref l]) Q E s := by
  obtain ⟨⟨c, dct, dt, sl⟩, hl, hc, n, hd⟩ := hL
  replace hc : c = .type "tuple" := hc
  replace hd : dt = .seq items n := hd
  subst hc hd
  refine callType_new F.called_enumerate (by decide) (F.typeCall_enumerate_1 _) (F.newCall_enumerate_1 _) (fun obj => F.args_object_init_2 obj _) F.entry_enumerate_new (meets_enumT l items n dct sl) ⟨hl, ?_⟩
  have he : IsEnum ((s.heap.push { cls := .type "tuple_iterator", data := .fields #[.ref l, .int 0 0] }).push
      { cls := .type "enumerate", data := .fields #[.none, .bool false, .ref s.heap.objs.size, rawInt 0, .none, .none] }) (s.heap.objs.size + 1) s.heap.objs.size 0 .none := by
    have := Heap.get?_push_size (s.heap.push { cls := .type "tuple_iterator", data := .fields #[.ref l, .int 0 0] })
      (o := { cls := .type "enumerate", data := .fields #[.none, .bool false, .ref s.heap.objs.size, rawInt 0, .none, .none] }) rfl
    rw [Heap.size_push] at this; exact this
  exact ⟨⟨_, he, rfl⟩, h _ he ⟨_, Heap.get?_push_of_some _ (Heap.get?_push_size _ rfl), rfl, rfl⟩ fun b o x => Heap.get?_push_of_some _ (Heap.get?_push_of_some _ x)⟩
end Mp

namespace Mp
open PySem PySem.Spec PyProof.Rows L2
/-- the tuple at a, each item in a new pair -/
def IteT (K : PySem.W.Frag) (a : Addr) : It :=
  ⟨fun i H => ∃ (xs : List V) (x : V), SqT K H a xs ∧ xs[i]? = some x, fun i H v H' => ∃ T o x, v = .ref T ∧ H T = none ∧ o.dict = none ∧ H' = upd H T (.frz o (.tup [.int (i : Nat), x])) ∧ ∀ xs, SqT K H a xs → xs[i]? = some x, fun i H => ∃ xs : List V, SqT K H a xs ∧ xs.length = i⟩
theorem turn_enumT {P : Program} {w : World} {K : PySem.W.Frag} {elts : List Expr} {kk : Nat} {tpos : Pos} (a e it : Addr) :
    Turn P w K (.Tuple elts kk tpos) (IteT K a) [e, it] e (fun i h => (∃ old, IsEnum h e it ((i : Nat) : Int) old) ∧ h.IsTupleIter it a i ∧ e ≠ it ∧ a ≠ it ∧ a ≠ e) where
  mem := by simp
  obj := fun i h st b hb => by
    obtain ⟨⟨old, he⟩, ⟨o, ho, hc, hd⟩, _⟩ := st
    rcases (show b = e ∨ b = it by simpa using hb) with z | z
    · rw [z]; exact ⟨_, he, fun v q => nomatch q⟩
    · rw [z]; exact ⟨o, ho, fun v q => by rw [hd] at q; cases q⟩
  keep := fun i h h' st k => let ⟨⟨old, he⟩, hi, hne⟩ := st; ⟨⟨old, k e (by simp) _ he⟩, hi.at fun o q => k it (by simp) o q, hne⟩
  item := by
    intro X hP hw hK hc i pins s σ H E I hf st hg
    subst hP hw hK
    obtain ⟨⟨old, he⟩, hit, hne, hai, hae⟩ := st
    obtain ⟨xs, x, hq, hx⟩ := hg
    obtain ⟨its, rv, p, hz⟩ := I.tuple hq
    obtain ⟨u, hu, ru⟩ := rv.get hx
    have hel : e < s.heap.objs.size := Heap.lt_size he
    have hil : it < s.heap.objs.size := by obtain ⟨_, q, _⟩ := hit; exact Heap.lt_size q
    have hlt : i < its.toArray.size := by
      have := (List.getElem?_eq_some_iff.mp hu).1
      simpa using this
    refine wpAny_pyNext_enum_itemD (Draws.tuple (show X.A.in1.handled = none from I.ok.hd hc) it a hai its.toArray) he ⟨hit, p⟩ hlt hne (by simp [hne, Ne.symm hae]) fun y h' tk hPy ho hst hT hsz hk => ?_
    have ey : y = u := by
      have : its.toArray[i]? = some u := by simpa using hu
      rw [this] at hPy; exact (Option.some.inj hPy).symm
    subst ey
    refine ⟨_, rfl, wpAny_letOwnedTupleGo_enum (s := { s with heap := h', toks := tk + 1 }) ho fun h'' he' sb => ?_⟩
    have hT2 : h''.get? s.heap.objs.size = some { cls := .type "tuple", data := .seq #[.int i tk, y] } := (sb.2 _ (Nat.ne_of_gt hel)).trans hT
    have new : ObjOk X.prog X.w (upd H s.heap.objs.size (.frz { cls := .type "tuple", data := .seq #[.int i tk, y] } (.tup [.int (i : Nat), x]))) h'' s.heap.objs.size (.frz { cls := .type "tuple", data := .seq #[.int i tk, y] } (.tup [.int (i : Nat), x])) :=
      ⟨hT2, by show 2 ≤ sizeLine; decide, [.int i tk, y], .cons ⟨_, rfl⟩ (.cons ru .nil), ⟨_, hT2, rfl, _, rfl⟩⟩
    have I1 := I.turnedNew (t' := tk + 1) (ch := [e, it]) (fun b ob hb q => (sb.2 b (fun z => hb (by simp [z]))).trans (hk b ob (fun z => hb (by simp [z])) (fun z => hb (by simp [z])) q)) hf (Nat.le_refl _) new
    refine ⟨.ref s.heap.objs.size, _, I1, rfl, ⟨_, _, x, rfl, I.hok.fresh (Nat.le_refl _), rfl, rfl, fun ys hy => by rw [I.tuple_inj hy hq]; exact hx⟩, ⟨⟨y, ?_⟩, hst.1.at fun o q => (sb.2 it (Ne.symm hne)).trans q, hne, hai, hae⟩, fun b hb => ?_⟩
    · have e1 : ((i + 1 : Nat) : Int) = (i : Int) + 1 := by omega
      rw [e1]; exact he'
    · have hb' : b < s.heap.objs.size := by
        rcases (show b = e ∨ b = it by simpa using hb) with z | z
        · rw [z]; exact hel
        · rw [z]; exact hil
      rw [upd_ne (Nat.ne_of_lt hb')]
      exact (hf b hb).1
  done := by
    intro X hP hw hK hc i pins s σ H E I hf st hg
    subst hP hw hK
    obtain ⟨⟨old, he⟩, hit, hne, hai, hae⟩ := st
    obtain ⟨xs, hq, hx⟩ := hg
    obtain ⟨its, rv, p, hz⟩ := I.tuple hq
    obtain ⟨f0, f1, f2, f3, f4, f5⟩ := hf it (by simp)
    have hl := rv.length
    have hn : its.toArray.size = i := by simp only [List.size_toArray]; omega
    refine wpAny_pyNext_enum_endD (Draws.tuple (show X.A.in1.handled = none from I.ok.hd hc) it a hai its.toArray) he (by rw [hn]; exact ⟨hit, p⟩) fun h' eb => ⟨rfl, I.turned (t' := s.toks) (fun b o hb q => eb b o hb q) f0 f1 f3 f4 f5⟩
  self := fun A i s Q E st h => let ⟨⟨_, he⟩, _⟩ := st; wpAny_pyIter_enum he h

/-- the list at a, each item in a new pair -/
def IteL (K : PySem.W.Frag) (a : Addr) : It :=
  ⟨fun i H => ∃ (xs : List V) (x : V), SqL K H a xs ∧ xs[i]? = some x, fun i H v H' => ∃ T o x, v = .ref T ∧ H T = none ∧ o.dict = none ∧ H' = upd H T (.frz o (.tup [.int (i : Nat), x])) ∧ ∀ xs, SqL K H a xs → xs[i]? = some x, fun i H => ∃ xs : List V, SqL K H a xs ∧ xs.length = i⟩
theorem turn_enumL {P : Program} {w : World} {K : PySem.W.Frag} {elts : List Expr} {kk : Nat} {tpos : Pos} (a e it : Addr) :
    Turn P w K (.Tuple elts kk tpos) (IteL K a) [e, it] e (fun i h => (∃ old, IsEnum h e it ((i : Nat) : Int) old) ∧ h.IsListIter it a i ∧ e ≠ it ∧ a ≠ it ∧ a ≠ e) where
  mem := by simp
  obj := fun i h st b hb => by
    obtain ⟨⟨old, he⟩, ⟨o, ho, hc, hd⟩, _⟩ := st
    rcases (show b = e ∨ b = it by simpa using hb) with z | z
    · rw [z]; exact ⟨_, he, fun v q => nomatch q⟩
    · rw [z]; exact ⟨o, ho, fun v q => by rw [hd] at q; cases q⟩
  keep := fun i h h' st k => let ⟨⟨old, he⟩, hi, hne⟩ := st; ⟨⟨old, k e (by simp) _ he⟩, hi.at fun o q => k it (by simp) o q, hne⟩
  item := by
    intro X hP hw hK hc i pins s σ H E I hf st hg
    subst hP hw hK
    obtain ⟨⟨old, he⟩, hit, hne, hai, hae⟩ := st
    obtain ⟨xs, x, hq, hx⟩ := hg
    obtain ⟨its, rv, p, hz⟩ := I.list hq
    obtain ⟨u, hu, ru⟩ := rv.get hx
    have hel : e < s.heap.objs.size := Heap.lt_size he
    have hil : it < s.heap.objs.size := by obtain ⟨_, q, _⟩ := hit; exact Heap.lt_size q
    have hlt : i < its.toArray.size := by
      have := (List.getElem?_eq_some_iff.mp hu).1
      simpa using this
    refine wpAny_pyNext_enum_itemD (Draws.list (show X.A.in1.handled = none from I.ok.hd hc) it a hai its.toArray) he ⟨hit, p.isList⟩ hlt hne (by simp [hne, Ne.symm hae]) fun y h' tk hPy ho hst hT hsz hk => ?_
    have ey : y = u := by
      have : its.toArray[i]? = some u := by simpa using hu
      rw [this] at hPy; exact (Option.some.inj hPy).symm
    subst ey
    refine ⟨_, rfl, wpAny_letOwnedTupleGo_enum (s := { s with heap := h', toks := tk + 1 }) ho fun h'' he' sb => ?_⟩
    have hT2 : h''.get? s.heap.objs.size = some { cls := .type "tuple", data := .seq #[.int i tk, y] } := (sb.2 _ (Nat.ne_of_gt hel)).trans hT
    have new : ObjOk X.prog X.w (upd H s.heap.objs.size (.frz { cls := .type "tuple", data := .seq #[.int i tk, y] } (.tup [.int (i : Nat), x]))) h'' s.heap.objs.size (.frz { cls := .type "tuple", data := .seq #[.int i tk, y] } (.tup [.int (i : Nat), x])) :=
      ⟨hT2, by show 2 ≤ sizeLine; decide, [.int i tk, y], .cons ⟨_, rfl⟩ (.cons ru .nil), ⟨_, hT2, rfl, _, rfl⟩⟩
    have I1 := I.turnedNew (t' := tk + 1) (ch := [e, it]) (fun b ob hb q => (sb.2 b (fun z => hb (by simp [z]))).trans (hk b ob (fun z => hb (by simp [z])) (fun z => hb (by simp [z])) q)) hf (Nat.le_refl _) new
    refine ⟨.ref s.heap.objs.size, _, I1, rfl, ⟨_, _, x, rfl, I.hok.fresh (Nat.le_refl _), rfl, rfl, fun ys hy => by rw [I.list_inj hy hq]; exact hx⟩, ⟨⟨y, ?_⟩, hst.1.at fun o q => (sb.2 it (Ne.symm hne)).trans q, hne, hai, hae⟩, fun b hb => ?_⟩
    · have e1 : ((i + 1 : Nat) : Int) = (i : Int) + 1 := by omega
      rw [e1]; exact he'
    · have hb' : b < s.heap.objs.size := by
        rcases (show b = e ∨ b = it by simpa using hb) with z | z
        · rw [z]; exact hel
        · rw [z]; exact hil
      rw [upd_ne (Nat.ne_of_lt hb')]
      exact (hf b hb).1
  done := by
    intro X hP hw hK hc i pins s σ H E I hf st hg
    subst hP hw hK
    obtain ⟨⟨old, he⟩, hit, hne, hai, hae⟩ := st
    obtain ⟨xs, hq, hx⟩ := hg
    obtain ⟨its, rv, p, hz⟩ := I.list hq
    obtain ⟨f0, f1, f2, f3, f4, f5⟩ := hf it (by simp)
    have hl := rv.length
    have hn : its.toArray.size = i := by simp only [List.size_toArray]; omega
    refine wpAny_pyNext_enum_endD (Draws.list (show X.A.in1.handled = none from I.ok.hd hc) it a hai its.toArray) he (by rw [hn]; exact ⟨hit, p.isList⟩) fun h' eb => ⟨rfl, I.turned (t' := s.toks) (fun b o hb q => eb b o hb q) f0 f1 f3 f4 f5⟩
  self := fun A i s Q E st h => let ⟨⟨_, he⟩, _⟩ := st; wpAny_pyIter_enum he h

/-! ### what is walked, by values -/
structure WalkOk (K : PySem.W.Frag) (w : World) (A : Addr → Prop) (J : It) (H1 : Hp) (items : List D) : Prop where
  stop : ∀ (H' : Hp) (A' : Addr → Prop), Goes1 A A' H1 H' → J.stop items.length H'
  go : ∀ (i : Nat) (H' : Hp) (A' : Addr → Prop), Goes1 A A' H1 H' → i < items.length → J.go i H'
  yld : ∀ (i : Nat) (H' : Hp) (A' : Addr → Prop) (x : V) (H'' : Hp), Goes1 A A' H1 H' → (∀ a, A' a → H' a ≠ none) → i < items.length → J.yld i H' x H'' → Same H' H'' ∧ ∃ d, items[i]? = some d ∧ Rep K w A' H'' x d
section
variable {K : PySem.W.Frag} {w : World} {A : Addr → Prop} {H1 : Hp}
theorem rep_lst_at {a : Addr} {ds : List D} (r : Rep K w A H1 (.ref a) (.list ds)) : ∃ xs, RepAll K w A H1 xs ds ∧ ∀ {A' : Addr → Prop} {H' : Hp}, Goes1 A A' H1 H' → SqL K H' a xs := by
  cases r with
  | lst h n q => exact ⟨_, q, fun g => .inl (g.rd h n).1⟩
  | lstK h q => exact ⟨_, q, fun _ => h.sq⟩
theorem rep_tup_at {a : Addr} {ds : List D} (r : Rep K w A H1 (.ref a) (.tuple ds)) : ∃ xs, RepAll K w A H1 xs ds ∧ ∀ {A' : Addr → Prop} {H' : Hp}, Goes1 A A' H1 H' → SqT K H' a xs := by
  cases r with
  | tup h n q => exact ⟨_, q, fun g => .inl (.inr ⟨_, (g _ _ h.1 n).1⟩)⟩
  | tupK h q => exact ⟨_, q, fun _ => sqT_any h.2⟩
theorem walk_list {a : Addr} {ds : List D} (r : Rep K w A H1 (.ref a) (.list ds)) : WalkOk K w A (Itl K a) H1 ds := by
  obtain ⟨xs, q, at_⟩ := rep_lst_at r
  refine ⟨fun H' A' g => ⟨xs, at_ g, by rw [q.length]; exact Nat.le_refl _⟩, fun i H' A' g hi => ?_, fun i H' A' x H'' g hA hi y => ?_⟩
  · obtain ⟨v, e, _⟩ := q.get (List.getElem?_eq_getElem hi)
    exact ⟨xs, v, at_ g, e⟩
  · obtain ⟨rfl, y⟩ := y
    obtain ⟨v, e, rv⟩ := q.get (List.getElem?_eq_getElem hi)
    have := y xs (at_ g)
    rw [e] at this; cases this
    exact ⟨Same.refl _, _, List.getElem?_eq_getElem hi, rv.go g⟩
theorem walk_tup {a : Addr} {ds : List D} (r : Rep K w A H1 (.ref a) (.tuple ds)) : WalkOk K w A (Itt K a) H1 ds := by
  obtain ⟨xs, q, at_⟩ := rep_tup_at r
  refine ⟨fun H' A' g => ⟨xs, at_ g, by rw [q.length]; exact Nat.le_refl _⟩, fun i H' A' g hi => ?_, fun i H' A' x H'' g hA hi y => ?_⟩
  · obtain ⟨v, e, _⟩ := q.get (List.getElem?_eq_getElem hi)
    exact ⟨xs, v, at_ g, e⟩
  · obtain ⟨rfl, y⟩ := y
    obtain ⟨v, e, rv⟩ := q.get (List.getElem?_eq_getElem hi)
    have := y xs (at_ g)
    rw [e] at this; cases this
    exact ⟨Same.refl _, _, List.getElem?_eq_getElem hi, rv.go g⟩
theorem walk_str {x : Str} (hx : PyData.strOk x = true) : WalkOk K w A (Its x) H1 (signsOf x) := by
  have hl : (signsOf x).length = x.cps.size := by simp [signsOf]
  refine ⟨fun H' A' g => by show x.cps.size ≤ _; omega, fun i H' A' g hi => by show i < x.cps.size; omega, fun i H' A' y H'' g hA hi z => ?_⟩
  obtain ⟨rfl, c, hc, rfl⟩ := z
  refine ⟨Same.refl _, .str ⟨#[c]⟩, ?_, .str _ (strOk_sub hx fun e he => ?_)⟩
  · simp only [signsOf, List.getElem?_map, Array.getElem?_toList, hc]; rfl
  · have : e = c := by simpa using he
    rw [this]
    exact Array.mem_of_getElem? hc
theorem walk_rng {lo : Int} {n : Nat} : WalkOk K w A (Itr lo n) H1 ((List.range n).map fun (i : Nat) => .int (lo + i)) := by
  refine ⟨fun H' A' g => by show n ≤ _; simp, fun i H' A' g hi => by show i < n; simpa using hi, fun i H' A' x H'' g hA hi z => ?_⟩
  obtain ⟨rfl, rfl⟩ := z
  have hi : i < n := by simpa using hi
  exact ⟨Same.refl _, .int (lo + i), by simp [hi], .int _⟩
theorem rep_pair {A' : Addr → Prop} {H' : Hp} {T : Addr} {o : Obj} {i : Nat} {x : V} {d : D} (hT : H' T = none) (hd : o.dict = none) (hA : ∀ a, A' a → H' a ≠ none) (r : Rep K w A' H' x d) : Rep K w A' (upd H' T (.frz o (.tup [.int (i : Nat), x]))) (.ref T) (.tuple [.int (i : Nat), d]) :=
  rep_newT hT hd hA (.cons (.int _) (.cons r .nil))
theorem zip_at {ds : List D} {i : Nat} {d : D} (h : ds[i]? = some d) : (ds.zipIdx.map fun p => (.tuple [.int p.2, p.1] : D))[i]? = some (.tuple [.int (i : Nat), d]) := by
  simp [List.getElem?_map, List.getElem?_zipIdx, h]
theorem walk_enumL {a : Addr} {ds : List D} (r : Rep K w A H1 (.ref a) (.list ds)) : WalkOk K w A (IteL K a) H1 (ds.zipIdx.map fun p => .tuple [.int p.2, p.1]) := by
  obtain ⟨xs, q, at_⟩ := rep_lst_at r
  have hl : (ds.zipIdx.map fun p => (.tuple [.int p.2, p.1] : D)).length = ds.length := by simp
  refine ⟨fun H' A' g => ⟨xs, at_ g, by rw [q.length, hl]⟩, fun i H' A' g hi => ?_, fun i H' A' x H'' g hA hi y => ?_⟩
  · rw [hl] at hi
    obtain ⟨v, e, _⟩ := q.get (List.getElem?_eq_getElem hi)
    exact ⟨xs, v, at_ g, e⟩
  · rw [hl] at hi
    obtain ⟨T, o, z, rfl, hT, hd, rfl, y⟩ := y
    obtain ⟨v, e, rv⟩ := q.get (List.getElem?_eq_getElem hi)
    have := y xs (at_ g)
    rw [e] at this; cases this
    exact ⟨upd_self hT, _, zip_at (List.getElem?_eq_getElem hi), rep_pair hT hd hA (rv.go g)⟩
theorem walk_enumT {a : Addr} {ds : List D} (r : Rep K w A H1 (.ref a) (.tuple ds)) : WalkOk K w A (IteT K a) H1 (ds.zipIdx.map fun p => .tuple [.int p.2, p.1]) := by
  obtain ⟨xs, q, at_⟩ := rep_tup_at r
  have hl : (ds.zipIdx.map fun p => (.tuple [.int p.2, p.1] : D)).length = ds.length := by simp
  refine ⟨fun H' A' g => ⟨xs, at_ g, by rw [q.length, hl]⟩, fun i H' A' g hi => ?_, fun i H' A' x H'' g hA hi y => ?_⟩
  · rw [hl] at hi
    obtain ⟨v, e, _⟩ := q.get (List.getElem?_eq_getElem hi)
    exact ⟨xs, v, at_ g, e⟩
  · rw [hl] at hi
    obtain ⟨T, o, z, rfl, hT, hd, rfl, y⟩ := y
    obtain ⟨v, e, rv⟩ := q.get (List.getElem?_eq_getElem hi)
    have := y xs (at_ g)
    rw [e] at this; cases this
    exact ⟨upd_self hT, _, zip_at (List.getElem?_eq_getElem hi), rep_pair hT hd hA (rv.go g)⟩
end
/-- the reading of what a for, a comprehension walks -/
def tI (C : Cb) (P : Px) (W : WX) (k : IK) (q : Bool) (xs : List Ex) : TI := fun σ H R => ∃ O B e, Sim C O B σ H e ∧ EvG C O B σ H W (fun ds e' => ∃ items, itemsK k ds = some items ∧
  ∀ J H1, Kp (Od O) H H1 → (q = true → Same H H1) → Sim C O B σ H1 e' → WalkOk C.K C.w (Av C O B) J H1 items → R J H1) (evs P xs e)
section
variable {X : Cx} {C : Cb} {P : Px} {W : WX} {q : Bool} {a b : Expr} {xa xb : Ex} {tg : Expr} {p pos : Pos}
theorem evs_one {x : Ex} {e : En} : evs P [x] e = (ev P x e).bind fun d e1 => .ok [d] e1 := by
  unfold evs
  cases ev P x e with
  | ok d e1 => simp [evs]
  | _ => rfl
theorem ei_seq (F : FitC C X) (ha : PE X a (tE C P W .plain q xa)) : PI X tg a (tI C P W .seq q [xa]) := by
  refine ⟨fun pins s σ H R I ⟨O, B, e, S, g⟩ => ?_⟩
  rw [evs_one] at g
  refine thn (ha.run pins s σ H (fun v H1 => (∃ a, v = .ref a ∧ ((∃ xs, SqL X.K H1 a xs) ∧ R (Itl X.K a) H1 ∨ (∃ xs, SqT X.K H1 a xs) ∧ R (Itt X.K a) H1)) ∨ ∃ x, v = .str x ∧ R (Its x) H1) I
    ⟨O, B, e, S, (EvG.part Kp.refl g).mono fun d e1 _ ⟨_, items, hi, k⟩ v H1 f1 => ?_⟩) fun v s1 ⟨x, H1, I1, r1, q1⟩ => ?_
  · have r := f1.val.2
    match d, hi, r with
    | .list ds, hi, r =>
      cases hi
      obtain ⟨a, xs, rfl, ha, _⟩ := RepR.lst (.inl r)
      rw [← F.hK]
      exact .inl ⟨a, rfl, .inl ⟨⟨xs, ha.sq⟩, k _ H1 f1.kp f1.same f1.sim (walk_list r)⟩⟩
    | .tuple ds, hi, r =>
      cases hi
      obtain ⟨a, xs, rfl, ha, _⟩ := RepR.tup (.inl r)
      rw [← F.hK]
      exact .inl ⟨a, rfl, .inr ⟨⟨xs, ha⟩, k _ H1 f1.kp f1.same f1.sim (walk_tup r)⟩⟩
    | .str z, hi, r =>
      cases hi
      obtain ⟨rfl, hz⟩ := RepR.str (.inl r)
      exact .inr ⟨z, rfl, k _ H1 f1.kp f1.same f1.sim (walk_str hz)⟩
  · rcases q1 with ⟨a, rfl, ⟨⟨xs, hq⟩, qq⟩ | ⟨⟨xs, hq⟩, qq⟩⟩ | ⟨z, rfl, qq⟩
    · cases r1
      obtain ⟨its, rv, pl, hz⟩ := I1.list hq
      exact wpAny_pyIter_list pl.isList (pi_one (tk := s1.toks) I1 _ (turn_list a _) ⟨_, Heap.get?_push_size _ rfl, rfl, rfl⟩ qq)
    · cases r1
      obtain ⟨its, rv, pl, hz⟩ := I1.tuple hq
      exact wpAny_pyIter_tuple (show s1.heap.IsTuple a its.toArray from pl) (pi_one (tk := s1.toks) I1 _ (turn_tuple a _) ⟨_, Heap.get?_push_size _ rfl, rfl, rfl⟩ qq)
    · obtain ⟨t, rfl⟩ := r1
      cases ha : z.cps.all (· < 128)
      · exact wpAny_pyIter_wide ha (pi_one (tk := s1.toks) I1 _ (turn_str _ z t "str_iterator" (.inr rfl)) ⟨_, Heap.get?_push_size _ rfl, rfl, rfl⟩ qq)
      · exact wpAny_pyIter_ascii ha (pi_one (tk := s1.toks) I1 _ (turn_str _ z t "str_ascii_iterator" (.inl rfl)) ⟨_, Heap.get?_push_size _ rfl, rfl, rfl⟩ qq)
theorem pi_imp {e : Expr} {t t' : TI} (h : PI X tg e t) (f : ∀ σ H Q, t' σ H Q → t σ H Q) : PI X tg e t' := ⟨fun pins s σ H Q I z => h.run pins s σ H Q I (f σ H Q z)⟩
theorem ei_rng1 {ms : List Md} (hg : Gl X "range") (hm : X.mg "range" = none) (ha : PA X [a] (tA C P W (ms.map Am.md) q [xa])) (hs : starEach [a] X.env = [(false, eval a X.env)]) : PI X tg (.Call (.Name "range" p) [a] [] pos) (tI C P W .rng q [xa]) :=
  pi_imp (pi_range1 hg hm ha hs) fun σ H R ⟨O, B, e, S, g⟩ => ⟨O, B, e, S, g.mono fun ds e1 _ ⟨items, hi, k⟩ vs H1 k1 s1 S1 r1 => by
    have r := args_rd r1
    obtain ⟨_, l2, l3⟩ := r1.len
    match ds, hi, r with
    | [.int n], hi, r =>
      obtain ⟨v, rfl, rv⟩ := paired1 r
      simp only [itemsK] at hi
      split at hi
      · rename_i hz
        have hz := of_decide_eq_true hz
        cases hi
        refine ⟨n, by rw [rv.int], hz.1, hz.2, k _ H1 k1 s1 S1 ?_⟩
        have := walk_rng (K := C.K) (w := C.w) (A := Av C O B) (H1 := H1) (lo := 0) (n := n.toNat)
        simpa using this
      · cases hi
    | [.int a, .int b], hi, r =>
      obtain ⟨v, v2, rfl, _⟩ := paired2 r
      have h1 := (Args.len r1).1
      simp at h1 l2
      omega⟩
theorem ei_rng2 {ms : List Md} (hg : Gl X "range") (hm : X.mg "range" = none) (ha : PA X [a, b] (tA C P W (ms.map Am.md) q [xa, xb])) (hs : starEach [a, b] X.env = [(false, eval a X.env), (false, eval b X.env)]) (hs2 : starEach [b] X.env = [(false, eval b X.env)]) : PI X tg (.Call (.Name "range" p) [a, b] [] pos) (tI C P W .rng q [xa, xb]) :=
  pi_imp (pi_range2 hg hm ha hs hs2) fun σ H R ⟨O, B, e, S, g⟩ => ⟨O, B, e, S, g.mono fun ds e1 _ ⟨items, hi, k⟩ vs H1 k1 s1 S1 r1 => by
    have r := args_rd r1
    obtain ⟨_, l2, l3⟩ := r1.len
    match ds, hi, r with
    | [.int a, .int b], hi, r =>
      obtain ⟨v, v2, rfl, rv, rv2⟩ := paired2 r
      simp only [itemsK] at hi
      split at hi
      · rename_i hz
        have hz := of_decide_eq_true hz
        cases hi
        refine ⟨a, b, by rw [rv.int, rv2.int], hz, k _ H1 k1 s1 S1 walk_rng⟩
      · cases hi
    | [.int a], hi, r =>
      obtain ⟨v, rfl, _⟩ := paired1 r
      have h1 := (Args.len r1).1
      simp at h1 l2
      omega⟩
theorem ei_enum {elts : List Expr} {kk : Nat} {tpos : Pos} (F : FitC C X) (hg : Gl X "enumerate") (hm : X.mg "enumerate" = none) (ha : PA X [a] (tA C P W [.md .plain] q [xa])) (hs : starEach [a] X.env = [(false, eval a X.env)]) :
    PI X (.Tuple elts kk tpos) (.Call (.Name "enumerate" p) [a] [] pos) (tI C P W .enum q [xa]) := by
  refine ⟨fun pins s σ H R I ⟨O, B, e, S, g⟩ => ?_⟩
  refine Call_ (ld_blt I hg hm boot_enumerate (PyProof.Rows.callWith_type1 (thn (ha.run pos pins s σ H (fun vs H1 => ∃ a, vs = [.ref a] ∧ ((∃ xs, SqL X.K H1 a xs) ∧ R (IteL X.K a) H1 ∨ (∃ xs, SqT X.K H1 a xs) ∧ R (IteT X.K a) H1)) I
    ⟨O, B, e, S, g.mono fun ds e1 _ ⟨items, hi, k⟩ vs H1 k1 s1 S1 r1 => ?_⟩) fun us s1 ⟨vs, H1, I1, r1, q1⟩ => ?_) hs rfl))
  · match vs, ds, r1, hi with
    | _, _, .cons (d := d) r .nil, hi =>
      match d, hi, r with
      | .list ds, hi, r =>
        have r : Rep C.K C.w (Av C O B) H1 _ (.list ds) := r
        cases hi
        obtain ⟨a, xs, rfl, ha, _⟩ := RepR.lst (.inl r)
        rw [← F.hK]
        exact ⟨a, rfl, .inl ⟨⟨xs, ha.sq⟩, k _ H1 k1 s1 S1 (walk_enumL r)⟩⟩
      | .tuple ds, hi, r =>
        have r : Rep C.K C.w (Av C O B) H1 _ (.tuple ds) := r
        cases hi
        obtain ⟨a, xs, rfl, ha, _⟩ := RepR.tup (.inl r)
        rw [← F.hK]
        exact ⟨a, rfl, .inr ⟨⟨xs, ha⟩, k _ H1 k1 s1 S1 (walk_enumT r)⟩⟩
  · obtain ⟨a, rfl, q1⟩ := q1
    obtain ⟨u, rfl, ru⟩ := vals_one r1
    have eu : u = Value.ref a := ru
    subst eu
    have apart : ∀ {o1 o2 : Obj} {h : Heap} {x y : Addr}, h.get? x = some o1 → h.get? y = some o2 → o1.cls ≠ o2.cls → x ≠ y := fun h1 h2 n z => by
      rw [z, h2] at h1; cases h1; exact n rfl
    have two : ∀ {b : Addr}, b ∈ [s1.heap.objs.size + 1, s1.heap.objs.size] → s1.heap.objs.size ≤ b := fun {b} hb => by
      rcases (show b = s1.heap.objs.size + 1 ∨ b = s1.heap.objs.size by simpa using hb) with z | z
      · rw [z]; exact Nat.le_succ _
      · rw [z]; exact Nat.le_refl _
    rcases q1 with ⟨⟨xs, hq⟩, qq⟩ | ⟨⟨xs, hq⟩, qq⟩
    · obtain ⟨its, rv, p', hz⟩ := I1.list hq
      refine call_enumerate_list p'.isList fun h' he hit hsz hk => wpAny_pyIter_enum he ?_
      obtain ⟨o, ho, hc, _⟩ := p'.isList
      obtain ⟨oi, hoi, hci, _⟩ := id hit
      refine ⟨s1.heap.objs.size + 1, [s1.heap.objs.size + 1, s1.heap.objs.size], _, _, H1, rfl, I1.kept (t' := s1.toks) hk, turn_enumL a (s1.heap.objs.size + 1) s1.heap.objs.size, ⟨⟨.none, he⟩, hit, Nat.succ_ne_self _, ?_, ?_⟩, fun b hb => I1.fpOk (two hb) (I1.hok.fresh (two hb)), qq⟩
      · exact apart (hk _ _ ho) hoi (by rw [hc, hci]; simp)
      · exact Nat.ne_of_lt (Nat.lt_succ_of_lt (Heap.lt_size ho))
    · obtain ⟨its, rv, p', hz⟩ := I1.tuple hq
      have p' : s1.heap.IsTuple a its.toArray := p'
      refine call_enumT p' fun h' he hit hk => wpAny_pyIter_enum he ?_
      obtain ⟨o, ho, hc, _⟩ := p'
      obtain ⟨oi, hoi, hci, _⟩ := id hit
      refine ⟨s1.heap.objs.size + 1, [s1.heap.objs.size + 1, s1.heap.objs.size], _, _, H1, rfl, I1.kept (t' := s1.toks) hk, turn_enumT a (s1.heap.objs.size + 1) s1.heap.objs.size, ⟨⟨.none, he⟩, hit, Nat.succ_ne_self _, ?_, ?_⟩, fun b hb => I1.fpOk (two hb) (I1.hok.fresh (two hb)), qq⟩
      · exact apart (hk _ _ ho) hoi (by rw [hc, hci]; simp)
      · exact Nat.ne_of_lt (Nat.lt_succ_of_lt (Heap.lt_size ho))
end
end Mp

namespace Mp
open PySem PySem.Spec PyProof.Rows L2

structure FinS (C : Cb) (O O' : Ow) (H H' : Hp) (σ' : L2.St) (e' : En) : Prop where
  sim : Sim C O' noA σ' H' e'
  go : Goes1 (Av C O noA) (Av C O' noA) H H'
  fz : ∀ a, C.fz a → H a = H' a
/-- the end of a def -/
structure RetS (C : Cb) (fr : Bool) (H' : Hp) (v : V) (d : D) (e' : En) : Prop where
  keep : ∀ a o, (∀ p ∈ C.io, p.2 ≠ a) → C.H0 a = some o → H' a = some o
  io : ∀ p ∈ C.io, ∀ d', e'[p.1]? = some (some d') → Root C.K C.w C.A0 H' p.2 d'
  val : Rep C.K C.w C.A0 H' v d
  new : fr = true → isMut d = true → ∃ p, v = .ref p ∧ C.H0 p = none ∧ Root C.K C.w (plus C.A0 p) H' p d ∧ ∀ q ∈ C.io, ∀ d', e'[q.1]? = some (some d') → Root C.K C.w (plus C.A0 p) H' q.2 d'
def EvS (C : Cb) (fr : Bool) (O : Ow) (H : Hp) (W : WX) (D : Ends) : Out Fl → Prop
  | .ok .nx e' => ∀ O' σ' H', FinS C O O' H H' σ' e' → D.nx σ' H'
  | .ok .brk e' => ∀ O' σ' H', FinS C O O' H H' σ' e' → D.bk σ' H'
  | .ok .cnt e' => ∀ O' σ' H', FinS C O O' H H' σ' e' → D.ct σ' H'
  | .ok (.ret d) e' => ∀ v H', RetS C fr H' v d e' → D.rt v H'
  | .ex c d e' => ∀ O' σ' cv od H', FinS C O O' H H' σ' e' → cv = .ref (C.xc c) → DatC C.K C.w (Av C O' noA) H' d od → W cv od σ' H'
  | .no => False
def tS (C : Cb) (W : WX) (fr : Bool) (f : En → Out Fl) : TS := fun D σ H => ∃ O e, Sim C O noA σ H e ∧ EvS C fr O H W D (f e)
section
variable {X : Cx} {C : Cb} {P : Px} {W : WX} {O O' : Ow} {σ σ' : L2.St} {H H1 H2 H' : Hp} {q fr : Bool} {v u : V} {d : D} {e e1 e2 : En} {D : Ends} {md ma : Md}
theorem Sim.fzKp {B : Addr → Prop} (S : Sim C O B σ H e) (k : Kp (Od O) H H1) : ∀ a, C.fz a → H a = H1 a := fun a f => by
  obtain ⟨h1, h2, _⟩ := S.ln.fz a f
  cases z : H a with
  | none => exact absurd z h1
  | some o => exact (k a o (fun q => h2 q.choose q.choose_spec) z).symm
theorem FinS.trans {O'' : Ow} {σ1 : L2.St} (a : FinS C O O' H H1 σ1 e1) (b : FinS C O' O'' H1 H' σ' e2) : FinS C O O'' H H' σ' e2 :=
  ⟨b.sim, fun x o h n => let ⟨h1, n1⟩ := a.go x o h n; b.go x o h1 n1, fun x f => (a.fz x f).trans (b.fz x f)⟩
theorem FinS.of (S : Sim C O noA σ H e) (k : Kp (Od O) H H1) (S1 : Sim C O noA σ' H1 e1) : FinS C O O H H1 σ' e1 := ⟨S1, k.av.go, S.fzKp k⟩
theorem Fin.s (S : Sim C O noA σ H e) (f : Fin C O noA σ md q H H1 v d e1) : FinS C O O H H1 σ e1 := .of S f.kp f.sim
/-- told behind a part, told ahead of it -/
theorem EvS.from {x : Out Fl} {σ1 : L2.St} (a : FinS C O O' H H1 σ1 e1) (h : EvS C fr O H W D x) : EvS C fr O' H1 W D x := by
  cases x with
  | ok f e' =>
    cases f with
    | nx => exact fun O' σ' H' z => h O' σ' H' (a.trans z)
    | brk => exact fun O' σ' H' z => h O' σ' H' (a.trans z)
    | cnt => exact fun O' σ' H' z => h O' σ' H' (a.trans z)
    | ret d => exact h
  | ex c d e' => exact fun O' σ' cv od H' z => h O' σ' cv od H' (a.trans z)
  | no => exact h
/-- an expression ahead -/
theorem EvS.ex {α : Type} {x : Out α} {k : α → En → Out Fl} (S : Sim C O noA σ H e) (h : EvS C fr O H W D (x.bind k)) : EvG C O noA σ H W (fun d e1 => EvS C fr O H W D (k d e1)) x := by
  cases x with
  | ok d e1 => exact h
  | ex c d e1 => exact fun cv od H' z => h O σ cv od H' (.of S z.kp z.sim) z.cls z.dat
  | no => exact h
/-- a test, an expression behind each other at one place: from H on -/
theorem EvS.seq {x : Out Fl} {k : En → Out Fl} {D' : Ends} (h : EvS C fr O H W D (x.bind fun f e1 => match f with | .nx => k e1 | f => .ok f e1))
    (hn : ∀ e1, x = .ok .nx e1 → EvS C fr O H W D (k e1) → ∀ O' σ' H', FinS C O O' H H' σ' e1 → D'.nx σ' H') (h1 : D'.rt = D.rt) (h2 : D'.bk = D.bk) (h3 : D'.ct = D.ct) : EvS C fr O H W D' x := by
  cases x with
  | ok f e1 =>
    cases f with
    | nx => exact hn e1 rfl h
    | brk => intro O' σ' H' z; rw [h2]; exact h O' σ' H' z
    | cnt => intro O' σ' H' z; rw [h3]; exact h O' σ' H' z
    | ret d => intro v H' z; rw [h1]; exact h v H' z
  | ex c d e1 => exact h
  | no => exact h
theorem es_nil : PSs X [] (tS C W fr (execs P [])) := pss_imp pss_nil fun D σ H ⟨O, e, S, g⟩ => by
  unfold execs at g
  exact g O σ H ⟨S, fun _ _ h n => ⟨h, n⟩, fun _ _ => rfl⟩
theorem es_cons {st : Stmt} {sts : List Stmt} {x : Mp.St} {xs : List Mp.St} (h1 : PS X st (tS C W fr (Mp.exec P x))) (h2 : PSs X sts (tS C W fr (execs P xs))) : PSs X (st :: sts) (tS C W fr (execs P (x :: xs))) :=
  pss_imp (pss_cons h1 h2) fun D σ H ⟨O, e, S, g⟩ => by
    unfold execs at g
    exact ⟨O, e, S, EvS.seq g (fun e1 _ g1 O' σ' H' z => ⟨O', e1, z.sim, g1.from z⟩) rfl rfl rfl⟩
variable {a b c : Expr} {xa xb xc : Ex} {pos : Pos}
theorem es_pass : PS X (.Pass pos) (tS C W fr (Mp.exec P .pass)) := ps_imp ps_pass fun D σ H ⟨O, e, S, g⟩ => by
  unfold Mp.exec at g
  exact g O σ H ⟨S, fun _ _ h n => ⟨h, n⟩, fun _ _ => rfl⟩
theorem es_brk : PS X (.Break pos) (tS C W fr (Mp.exec P .brk)) := ps_imp ps_break fun D σ H ⟨O, e, S, g⟩ => by
  unfold Mp.exec at g
  exact g O σ H ⟨S, fun _ _ h n => ⟨h, n⟩, fun _ _ => rfl⟩
theorem es_cnt : PS X (.Continue pos) (tS C W fr (Mp.exec P .cnt)) := ps_imp ps_continue fun D σ H ⟨O, e, S, g⟩ => by
  unfold Mp.exec at g
  exact g O σ H ⟨S, fun _ _ h n => ⟨h, n⟩, fun _ _ => rfl⟩
theorem es_doc {x j pos'} : PS X (.Expr (.Constant (.str x) j pos) pos') (tS C W fr (Mp.exec P .pass)) := ps_imp ps_doc fun D σ H ⟨O, e, S, g⟩ => by
  unfold Mp.exec at g
  exact g O σ H ⟨S, fun _ _ h n => ⟨h, n⟩, fun _ _ => rfl⟩
theorem es_drop (ha : PE X a (tE C P W ma q xa)) (hs : swapsWith a none pos.line X.env = pure false) : PS X (.Expr a pos) (tS C W fr (Mp.exec P (.drop xa))) :=
  ps_imp (ps_expr ha hs) fun D σ H ⟨O, e, S, g⟩ => by
    unfold Mp.exec at g
    exact ⟨O, noA, e, S, (EvS.ex S g).mono fun d e1 _ g1 v H1 f1 => g1 O σ H1 (f1.s S)⟩
theorem es_if {t f : List Stmt} {xt xf : List Mp.St} (hc : PT X c (tT C P W q (ev P xc))) (ht : PSs X t (tS C W fr (execs P xt))) (hf : PSs X f (tS C W fr (execs P xf))) : PS X (.If c t f pos) (tS C W fr (Mp.exec P (.ite xc xt xf))) :=
  ps_imp (ps_if hc ht hf) fun D σ H ⟨O, e, S, g⟩ => by
    unfold Mp.exec at g
    refine ⟨O, noA, e, S, (EvS.ex S g).mono fun d e1 _ g1 => ?_⟩
    cases d with
    | bool b =>
      refine ⟨b, rfl, fun H1 k1 s1 S1 => ?_⟩
      cases b with
      | true => simp only [if_true]; exact ⟨O, e1, S1, EvS.from (.of S k1 S1) g1⟩
      | false => simp only [Bool.false_eq_true, if_false]; exact ⟨O, e1, S1, EvS.from (.of S k1 S1) g1⟩
    | _ => exact g1.elim
/-! ### stores -/
/-- a name's store, by the mode -/
theorem store_new {B : Addr → Prop} {H0 : Hp} {i : Nat} (hi : i ∈ C.own) (hio : ∀ p ∈ C.io, p.1 ≠ i) (h0 : ∀ p, H p = none → C.H0 p = none ∧ ¬ B p ∧ (∀ j, O j ≠ some p) ∧ ¬ C.fz p) (hv : Val C O B σ .new H H1 v d e1) :
    ∃ O', Sim C O' B (σ.set i (some v)) H1 (setE e1 i d) ∧ (∀ j, j ≠ i → O' j = O j) ∧ ∀ a, O' i = some a → H a = none := by
  rcases hv with ⟨_, p, rfl, hp, S, r⟩ | ⟨hm, S, r⟩
  · obtain ⟨z1, z2, z3, z4⟩ := h0 p hp
    exact ⟨own1 O i (some p), S.storeNew hi hio z1 z2 z3 z4 r, fun j h => own1_ne h, fun a z => by rw [own1_same] at z; cases z; exact hp⟩
  · exact ⟨own1 O i none, S.storeOld hi hio hm r, fun j h => own1_ne h, fun a z => by rw [own1_same] at z; cases z⟩
theorem goes_own {i : Nat} (k : Kp (Od O) H H1) (h1 : ∀ j, j ≠ i → O' j = O j) (h2 : ∀ a, O' i = some a → H a = none) : Goes1 (Av C O noA) (Av C O' noA) H H1 := fun a o h n => ⟨k.av a o n h, fun z => by
  rcases z with z | ⟨j, z⟩ | z
  · exact n (.inl z)
  · by_cases hj : j = i
    · rw [hj] at z; rw [h2 a z] at h; cases h
    · rw [h1 j hj] at z; exact n (.inr (.inl ⟨j, z⟩))
  · exact z⟩
theorem Sim.fresh {B : Addr → Prop} (S : Sim C O B σ H e) : ∀ p, H p = none → C.H0 p = none ∧ ¬ B p ∧ (∀ j, O j ≠ some p) ∧ ¬ C.fz p := fun p h => ⟨S.h0 h, S.notB h, S.notO h, S.notF h⟩
theorem es_set {i : Nat} {x : Str} {px : Pos} (hN : X.N.Nodup) (hi : X.N[i]? = some x) (hx : Loc X.env.scope x) (ha : PE X a (tE C P W .plain q xa)) (hs : swapsWith a (some (.Name x px)) pos.line X.env = pure false) (hf : X.fn x = true ∨ X.env.scope.names.lookup x = some .local)
    (ho : i ∉ C.own) (hl : ∀ p ∈ C.lnt, p.1 ≠ i) : PS X (.Assign [.Name x px] a pos) (tS C W fr (Mp.exec P (.set i xa))) :=
  ps_imp (ps_set hN hi hx ha hs hf) fun D σ H ⟨O, e, S, g⟩ => by
    unfold Mp.exec at g
    exact ⟨O, noA, e, S, (EvS.ex S g).mono fun d e1 _ g1 v H1 f1 => g1 O _ H1 (.of S f1.kp (f1.sim.store ho hl f1.val.2))⟩
theorem es_setN {i : Nat} {x : Str} {px : Pos} (hN : X.N.Nodup) (hi : X.N[i]? = some x) (hx : Loc X.env.scope x) (ha : PE X a (tE C P W .new q xa)) (hs : swapsWith a (some (.Name x px)) pos.line X.env = pure false) (hf : X.fn x = true ∨ X.env.scope.names.lookup x = some .local)
    (ho : i ∈ C.own) (hio : ∀ p ∈ C.io, p.1 ≠ i) : PS X (.Assign [.Name x px] a pos) (tS C W fr (Mp.exec P (.set i xa))) :=
  ps_imp (ps_set hN hi hx ha hs hf) fun D σ H ⟨O, e, S, g⟩ => by
    unfold Mp.exec at g
    refine ⟨O, noA, e, S, (EvS.ex S g).mono fun d e1 _ g1 v H1 f1 => ?_⟩
    obtain ⟨O', S', h1, h2⟩ := store_new (H0 := H) ho hio S.fresh f1.val
    exact g1 O' _ H1 ⟨S', goes_own f1.kp h1 h2, S.fzKp f1.kp⟩
/-! several targets: a row of plain names -/
inductive GNm (X : Cx) (C : Cb) : List Expr → List Nat → Prop
  | nil : GNm X C [] []
  | cons {i : Nat} {is : List Nat} {x : Str} {px : Pos} {es : List Expr} : X.N[i]? = some x → Loc X.env.scope x → (X.fn x = true ∨ X.env.scope.names.lookup x = some .local) → i ∉ C.own → (∀ p ∈ C.lnt, p.1 ≠ i) →
    (assignEach (Expr.Name x px :: es) X.env).map (·.2) = PySem.assign (.Name x px) X.env :: (assignEach es X.env).map (·.2) → GNm X C es is → GNm X C (.Name x px :: es) (i :: is)
def setsV : List Nat → List V → L2.St → L2.St
  | i :: is, v :: vs, σ => setsV is vs (σ.set i (some v))
  | _, _, σ => σ
theorem GNm.pgs (hN : X.N.Nodup) : ∀ {es : List Expr} {is : List Nat}, GNm X C es is → PGs X es (fun vs σ H Q => vs.length = is.length ∧ Q (setsV is vs σ) H)
  | _, _, .nil => ⟨fun pins s σ H vs us Q I r h => pgs_nil.run pins s σ H vs us Q I r (by
      cases vs with
      | nil => exact ⟨rfl, h.2⟩
      | cons _ _ => exact absurd h.1 (by simp))⟩
  | _, _, .cons h1 h2 h3 _ _ h6 t => ⟨fun pins s σ H vs us Q I r h => (pgs_cons (pg_name hN h1 h2 h3) (t.pgs hN) h6).run pins s σ H vs us Q I r (by
      obtain ⟨hl, hq⟩ := h
      cases vs with
      | nil => simp at hl
      | cons v vs => exact ⟨v, vs, rfl, by simpa using hl, hq⟩)⟩
theorem GNm.store {B : Addr → Prop} : ∀ {es : List Expr} {is : List Nat} {vs : List V} {ds : List Mp.D} {σ : L2.St} {e e' : En}, GNm X C es is → Sim C O B σ H e → RepAll C.K C.w (Av C O B) H vs ds → assignAll is ds e = some e' → vs.length = is.length ∧ Sim C O B (setsV is vs σ) H e'
  | _, _, _, _, _, _, _, .nil, S, .nil, h => by cases h; exact ⟨rfl, S⟩
  | _, _, _, _, _, _, _, .nil, S, .cons _ _, h => by simp [assignAll] at h
  | _, _, _, _, _, _, _, .cons _ _ _ _ _ _ _, S, .nil, h => by simp [assignAll] at h
  | _, _, _, _, _, _, _, .cons _ _ _ h4 h5 _ t, S, .cons r rs, h => by
    obtain ⟨l, z⟩ := t.store (S.store h4 h5 r) rs h
    exact ⟨by simp [l], z⟩
theorem PG_imp {tg : Expr} {t t' : TG} (h : PG X tg t) (f : ∀ v σ H Q, t' v σ H Q → t v σ H Q) : PG X tg t' := ⟨fun pins s σ H v u Q I r z => h.run pins s σ H v u Q I r (f v σ H Q z)⟩
/-- a target's reading, by values -/
def tG (C : Cb) (tg : Tg) : TG := fun v σ H Q => ∃ O B e d e', Sim C O B σ H e ∧ Rep C.K C.w (Av C O B) H v d ∧ assign tg d e = some e' ∧ ∀ σ', Sim C O B σ' H e' → (∀ own : List Nat, (∀ i ∈ (match tg with | .nm i => [i] | .tp is => is), i ∈ own) → L2.wipe σ' own = L2.wipe σ own) → Q σ' H
theorem wipe_in {k : Nat} : ∀ {own : List Nat} {σ : L2.St}, k ∈ own → (L2.wipe σ own)[k]? = if k < σ.length then some none else none
  | [], _, h => by simp at h
  | j :: own, σ, h => by
    unfold L2.wipe
    by_cases hj : k = j
    · subst hj
      rw [List.getElem?_set_self']
      have hl := wipe_length σ own
      by_cases hk : k < σ.length
      · rw [if_pos hk, List.getElem?_eq_getElem (by rw [hl]; exact hk)]; rfl
      · rw [if_neg hk, List.getElem?_eq_none (by rw [hl]; omega)]; rfl
    · rw [List.getElem?_set_ne (Ne.symm hj)]
      exact wipe_in ((List.mem_cons.mp h).resolve_left hj)
theorem wipe_same {own : List Nat} {σ σ' : L2.St} (hl : σ'.length = σ.length) (h : ∀ k, k ∉ own → σ'[k]? = σ[k]?) : L2.wipe σ' own = L2.wipe σ own := by
  refine List.ext_getElem? fun k => ?_
  by_cases hk : k ∈ own
  · rw [wipe_in hk, wipe_in hk, hl]
  · rw [L2.wipe_out hk, L2.wipe_out hk, h k hk]
theorem wipe_set {i : Nat} {v : Option V} {own : List Nat} {σ : L2.St} (h : i ∈ own) : L2.wipe (σ.set i v) own = L2.wipe σ own :=
  wipe_same (by rw [List.length_set]) fun k hk => List.getElem?_set_ne fun (z : i = k) => hk (by rw [← z]; exact h)
theorem setsV_wipe : ∀ {is : List Nat} {vs : List V} {σ : L2.St} {own : List Nat}, (∀ i ∈ is, i ∈ own) → L2.wipe (setsV is vs σ) own = L2.wipe σ own
  | [], [], _, _, _ => rfl
  | [], _ :: _, _, _, _ => rfl
  | _ :: _, [], _, _, _ => rfl
  | i :: is, v :: vs, σ, own, h => by
    unfold setsV
    rw [setsV_wipe fun j hj => h j (List.mem_cons_of_mem _ hj), wipe_set (h i (List.mem_cons_self ..))]
theorem eg_name {i : Nat} {x : Str} {px : Pos} (hN : X.N.Nodup) (hi : X.N[i]? = some x) (hx : Loc X.env.scope x) (hf : X.fn x = true ∨ X.env.scope.names.lookup x = some .local) (ho : i ∉ C.own) (hl : ∀ p ∈ C.lnt, p.1 ≠ i) : PG X (.Name x px) (tG C (.nm i)) :=
  PG_imp (pg_name hN hi hx hf) fun v σ H Q ⟨O, B, e, d, e', S, r, ha, k⟩ => by
    cases ha
    exact k _ (S.store ho hl r) fun own h => wipe_set (h i (by simp))
theorem eg_tup {is : List Nat} {es : List Expr} {k : Nat} {pt : Pos} (F : FitC C X) (hN : X.N.Nodup) (h : GNm X C es is) (hn : (assignEach es X.env).length = is.length) (hst : (assignEach es X.env).findIdx? (·.1) = none) : PG X (.Tuple es k pt) (tG C (.tp is)) :=
  PG_imp (pg_tup F.calm (h.pgs hN) hn hst) fun v σ H Q ⟨O, B, e, d, e', S, r, ha, kk⟩ => by
    cases d with
    | tuple ds =>
      obtain ⟨a, xs, rfl, hq, rs⟩ := RepR.tup (.inl r)
      obtain ⟨l, z⟩ := h.store S rs ha
      rw [← F.hK]
      exact ⟨a, xs, rfl, hq, l, l, kk _ z fun own h => setsV_wipe h⟩
    | _ => cases ha
theorem es_setT {is : List Nat} {es : List Expr} {k : Nat} {pt : Pos} (F : FitC C X) (hN : X.N.Nodup) (h : GNm X C es is) (hn : (assignEach es X.env).length = is.length) (hst : (assignEach es X.env).findIdx? (·.1) = none) (ha : PE X a (tE C P W .plain q xa))
    (hs : swapsWithSole [.Tuple es k pt] a pos.line X.env = pure false) (hw : swappedStores [.Tuple es k pt] a X.env = pure none) (h1 : (assignEach [.Tuple es k pt] X.env).map (·.2) = [PySem.assign (.Tuple es k pt) X.env]) :
    PS X (.Assign [.Tuple es k pt] a pos) (tS C W fr (Mp.exec P (.setT is xa))) :=
  ps_imp (ps_asg ha (eg_tup F hN h hn hst) hs hw h1) fun D σ H ⟨O, e, S, g⟩ => by
    unfold Mp.exec at g
    refine ⟨O, noA, e, S, (EvS.ex S g).mono fun d e1 _ g1 v H1 f1 => ?_⟩
    cases d with
    | tuple ds =>
      cases hd : assignAll is ds e1 with
      | none => simp only [hd] at g1; exact g1.elim
      | some e2 =>
        simp only [hd] at g1
        exact ⟨O, noA, e1, .tuple ds, e2, f1.sim, f1.val.2, hd, fun σ' S' _ => g1 O σ' H1 (.of S f1.kp S')⟩
    | _ => exact g1.elim
end
end Mp

namespace Mp
open PySem PySem.Spec PyProof.Rows L2
section
variable {X : Cx} {C : Cb} {P : Px} {W : WX} {O O' : Ow} {σ σ' : L2.St} {H H1 H2 H' : Hp} {q fr : Bool} {v u : V} {d : D} {e e1 e2 : En} {D : Ends} {md ma : Md}
variable {a b c : Expr} {xa xb xc : Ex} {pos : Pos}
/-! ### return -/
theorem io_root {B : Addr → Prop} (S : Sim C O B σ H e) {p : Nat × Addr} (hp : p ∈ C.io) {d : Mp.D} (h : e[p.1]? = some (some d)) : Root C.K C.w (Av C O B) H p.2 d := by
  have hO := S.io p hp
  have nl : ∀ q ∈ C.lnt, q.1 ≠ p.1 := fun q hq z => by
    have := (S.ln.at_ q hq).2.2.1
    rw [z, hO] at this; cases this
  rcases S.slot p.1 d nl h with ⟨z, _⟩ | ⟨a, z, _, r⟩
  · rw [hO] at z; cases z
  · rw [hO] at z; cases z; exact r
theorem less0 {B : Addr → Prop} : Goes1 (Av C O B) C.A0 H H := go_less fun _ h => .inl h
theorem less1 {B : Addr → Prop} {p : Addr} : Goes1 (Av C O (plus B p)) (plus C.A0 p) H H := go_less fun a h => h.elim .inl fun z => .inr (.inr (.inr z))
theorem less2 {B : Addr → Prop} {p : Addr} : Goes1 (plus (Av C O B) p) (plus C.A0 p) H H := go_less fun a h => h.elim (fun z => .inl (.inl z)) .inr
theorem ret_plain (S : Sim C O noA σ H e) (f : Fin C O noA σ .plain q H H1 v d e1) : RetS C false H1 v d e1 :=
  ⟨f.sim.keep, fun p hp d h => (io_root f.sim hp h).go less0 rfl, f.val.2.go less0, fun z => by cases z⟩
theorem ret_new (S : Sim C O noA σ H e) (f : Fin C O noA σ .new q H H1 v d e1) : RetS C true H1 v d e1 := by
  have g := f.plain S
  refine ⟨f.sim.keep, fun p hp d h => (io_root f.sim hp h).go less0 rfl, g.val.2.go less0, fun _ hm => ?_⟩
  rcases f.val with ⟨_, p, rfl, hp, S1, r⟩ | ⟨z, _⟩
  · exact ⟨p, rfl, S.h0 hp, r.go less2 rfl, fun q hq d h => (io_root S1 hq h).go less1 rfl⟩
  · rw [hm] at z; cases z
theorem es_ret (hm : md = if fr then .new else .plain) (ha : PE X a (tE C P W md q xa)) : PS X (.Return (some a) pos) (tS C W fr (Mp.exec P (.ret xa))) :=
  ps_imp (ps_ret ha) fun D σ H ⟨O, e, S, g⟩ => by
    unfold Mp.exec at g
    refine ⟨O, noA, e, S, (EvS.ex S g).mono fun d e1 _ g1 v H1 f1 => g1 v H1 ?_⟩
    cases fr with
    | true => simp only [if_true] at hm; subst hm; exact ret_new S f1
    | false => simp only [Bool.false_eq_true, if_false] at hm; subst hm; exact ret_plain S f1
theorem es_retN : PS X (.Return none pos) (tS C W fr (Mp.exec P .retN)) :=
  ps_imp ps_retN fun D σ H ⟨O, e, S, g⟩ => by
    unfold Mp.exec at g
    exact g .non H ⟨S.keep, fun p hp d h => (io_root S hp h).go less0 rfl, .non, fun _ z => by cases z⟩
/-- an own name is handed back -/
theorem es_retV {i : Nat} {x : Str} {px : Pos} (hN : X.N[i]? = some x) (hv : Vis X.env.scope x) (hd : (x == ("__debug__" : Str)) = false) (hcd : (x == ("__classdict__" : Str)) = false) (hi : i ∈ C.own) (hio : ∀ p ∈ C.io, p.1 ≠ i) :
    PS X (.Return (some (.Name x px)) pos) (tS C W fr (Mp.exec P (.ret (.var i)))) :=
  ps_imp (ps_ret (pe_var hN hv hd hcd)) fun D σ H ⟨O, e, S, g⟩ => by
    unfold Mp.exec ev at g
    have nl : ∀ q ∈ C.lnt, q.1 ≠ i := fun q hq z => (S.ln.at_ q hq).2.2.2.1 (by rw [z]; exact hi)
    cases h : e[i]? with
    | none => rw [h] at g; exact g.elim
    | some o =>
      cases o with
      | none => rw [h] at g; exact g.elim
      | some d =>
        rw [h] at g
        have g : ∀ v H', RetS C fr H' v d e → D.rt v H' := g
        rcases S.slot i d nl h with ⟨h1, v, h2, h3⟩ | ⟨a, h1, h2, h3⟩
        · refine ⟨v, h2, g v H ⟨S.keep, fun p hp d h => (io_root S hp h).go less0 rfl, h3.go less0, fun _ hm => ?_⟩⟩
          obtain ⟨a, z⟩ := S.chg i hi d h hm
          rw [h1] at z; cases z
        · have f0 : C.H0 a = none := ((S.own i a h1).2).resolve_right fun z => hio _ z rfl
          have nA : ¬ C.A0 a := fun z => S.a0 a z f0
          have lessA : Goes1 (Av C O noA) (plus C.A0 a) H H := go_less fun b h => h.elim .inl fun z => .inr (.inl ⟨i, by rw [z]; exact h1⟩)
          exact ⟨.ref a, h2, g _ H ⟨S.keep, fun p hp d h => (io_root S hp h).go less0 rfl, (h3.go less0 rfl).rep nA, fun _ _ => ⟨a, rfl, f0, h3.go lessA rfl, fun q hq d h => (io_root S hq h).go lessA rfl⟩⟩⟩
/-- own names given up -/
def Cb.rel (C : Cb) : Cb := { C with own := C.own.filter fun i => (C.io.map (·.1)).contains i }
def relO (C : Cb) (O : Ow) : Ow := fun i => if i ∈ C.io.map (·.1) then O i else none
theorem relO_some {i : Nat} {a : Addr} (h : relO C O i = some a) : O i = some a ∧ i ∈ C.io.map (·.1) := by
  unfold relO at h
  split at h
  · exact ⟨h, ‹_›⟩
  · cases h
theorem relO_none {i : Nat} (h : O i = none) : relO C O i = none := by
  unfold relO
  split
  · exact h
  · rfl
theorem Sim.rel (S : Sim C O noA σ H e) : Sim C.rel (relO C O) noA σ H e := by
  have lessR : Goes1 (Av C O noA) (Av C.rel (relO C O) noA) H H := go_less fun a h => by
    rcases h with h | ⟨i, h⟩ | h
    · exact .inl h
    · exact .inr (.inl ⟨i, (relO_some h).1⟩)
    · exact .inr (.inr h)
  have mem : ∀ {i : Nat}, i ∈ C.rel.own ↔ i ∈ C.own ∧ i ∈ C.io.map (·.1) := fun {i} => by
    unfold Cb.rel
    simp only [List.mem_filter, List.contains_iff_mem]
  refine ⟨S.len, S.keep, fun i d nl h => ?_, fun i j a h1 h2 => S.inj i j a (relO_some h1).1 (relO_some h2).1, fun i a h => ?_, fun i hi d h hm => ?_, fun p hp => ?_, fun a h => ?_, fun i a h => S.BO i a (relO_some h).1, S.a0, ?_⟩
  · rcases S.slot i d nl h with ⟨h1, v, h2, h3⟩ | ⟨a, h1, h2, h3⟩
    · refine .inl ⟨?_, v, h2, h3.go lessR⟩
      unfold relO
      split
      · exact h1
      · rfl
    · by_cases hi : i ∈ C.io.map (·.1)
      · exact .inr ⟨a, by unfold relO; rw [if_pos hi]; exact h1, h2, h3.go lessR rfl⟩
      · refine .inl ⟨by unfold relO; rw [if_neg hi], .ref a, h2, (h3.go lessR rfl).rep fun z => ?_⟩
        have f0 : C.H0 a = none := ((S.own i a h1).2).resolve_right fun z => hi (List.mem_map.mpr ⟨_, z, rfl⟩)
        rcases z with z | ⟨j, z⟩ | z
        · exact S.a0 a z f0
        · obtain ⟨z1, z2⟩ := relO_some z
          have : j = i := S.inj j i a z1 h1
          exact hi (this ▸ z2)
        · exact z
  · obtain ⟨h1, h2⟩ := relO_some h
    exact ⟨mem.mpr ⟨(S.own i a h1).1, h2⟩, (S.own i a h1).2⟩
  · obtain ⟨h1, h2⟩ := mem.mp hi
    obtain ⟨a, h3⟩ := S.chg i h1 d h hm
    exact ⟨a, by unfold relO; rw [if_pos h2]; exact h3⟩
  · have hm : p.1 ∈ C.io.map (·.1) := List.mem_map.mpr ⟨p, hp, rfl⟩
    show relO C O p.1 = some p.2
    unfold relO
    rw [if_pos hm]
    exact S.io p hp
  · refine S.trk a ?_
    rcases h with h | ⟨i, h⟩ | h
    · exact .inl h
    · exact .inr (.inl ⟨i, (relO_some h).1⟩)
    · exact .inr (.inr h)
  · have L := S.ln.go (C := C) (O' := relO C O) (B' := noA) (σ' := σ) (e' := e) lessR (fun _ _ _ => rfl) (fun i _ h => relO_none h) (fun a _ h i z => h i (relO_some z).1) (fun _ _ _ => rfl) (fun _ _ _ => rfl)
    exact ⟨fun p hp => by
      obtain ⟨h1, h2, h3, h4, h5⟩ := L.at_ p hp
      exact ⟨h1, h2, h3, fun z => h4 (mem.mp z).1, h5⟩, L.fz⟩
theorem es_retR (ha : PE X a (tE C.rel P W .plain q xa)) : PS X (.Return (some a) pos) (tS C W false (Mp.exec P (.retR xa))) :=
  ps_imp (ps_ret ha) fun D σ H ⟨O, e, S, g⟩ => by
    unfold Mp.exec at g
    cases h : ev P xa e with
    | ok d e1 =>
      rw [h] at g
      have g : ∀ v H', RetS C false H' v d e1 → D.rt v H' := g
      refine ⟨relO C O, noA, e, S.rel, ?_⟩
      rw [h]
      exact fun v H1 f1 => g v H1 (let z := ret_plain S.rel f1; ⟨z.keep, z.io, z.val, z.new⟩)
    | ex c d e1 => rw [h] at g; exact g.elim
    | no => rw [h] at g; exact g.elim
end
end Mp

namespace Mp
open PySem PySem.Spec PyProof.Rows L2
section
variable {X : Cx} {C : Cb} {P : Px} {W : WX} {O O' : Ow} {σ σ' : L2.St} {H H1 H2 H' : Hp} {q fr : Bool} {v u : V} {d : D} {e e1 e2 : En} {D : Ends} {md ma : Md}
variable {a b c : Expr} {xa xb xc : Ex} {pos : Pos}
theorem FinS.refl (S : Sim C O noA σ H e) : FinS C O O H H σ e := ⟨S, fun _ _ h n => ⟨h, n⟩, fun _ _ => rfl⟩
/-! ### for -/
def EvS.imp {D D' : Ends} {x : Out Fl} (h : EvS C fr O H W D x) (h0 : D.nx = D'.nx) (h1 : D.rt = D'.rt) (h2 : D.bk = D'.bk) (h3 : D.ct = D'.ct) : EvS C fr O H W D' x := by
  cases D; cases D'; cases h0; cases h1; cases h2; cases h3; exact h
theorem es_for {tg : Expr} {g : Tg} {k : IK} {it : Expr} {xs : List Ex} {body : List Stmt} {xb : List Mp.St} (F : FitC C X) (hp : PassesOwn (model X.prog X.w) X.A X.env X.xe) (hi : PI X tg it (tI C P W k q xs)) (hg : PG X tg (tG C g))
    (hb : PSs X body (tS C W fr (execs P xb))) (hs : ∀ x, foldedSetIterable it X.env x = pure x) : PS X (.For tg it body [] pos) (tS C W fr (Mp.exec P (.for_ g k xs xb))) :=
  ps_imp (ps_for hp F.calm hi hg hb hs) fun D σ H ⟨O, e, S, g0⟩ => by
    unfold Mp.exec at g0
    refine ⟨O, noA, e, S, (EvS.ex S g0).mono fun ds e1 _ g1 => ?_⟩
    cases hk : itemsK k ds with
    | none => simp only [hk] at g1; exact g1.elim
    | some items =>
      simp only [hk] at g1
      refine ⟨items, rfl, fun J H1 k1 s1 S1 wk => ?_⟩
      have fin1 : FinS C O O H H1 σ e1 := .of S k1 S1
      refine ⟨fun i m σ' H' => m = items.length - i ∧ i ≤ items.length ∧ ∃ O' e', FinS C O O' H1 H' σ' e' ∧ EvS C fr O' H' W D (loopF g (fun e => execs P xb e) (items.drop i) e'), ⟨items.length, by simp, by simp, O, e1, FinS.refl S1, g1.from fin1⟩, ?_⟩
      rintro i m σ2 H2 ⟨rfl, hi, O2, e2, f2, g2⟩
      by_cases hlt : i < items.length
      · refine .inr ⟨wk.go i H2 _ f2.go hlt, fun σ' H' => ∃ O' e', FinS C O O' H1 H' σ' e' ∧ EvS C fr O' H' W D (loopF g (fun e => execs P xb e) (items.drop (i + 1)) e'), fun σ' H' ⟨O', e', f', g'⟩ => ⟨items.length - (i + 1), by omega, rfl, by omega, O', e', f', g'⟩, fun x H3 y => ?_⟩
        obtain ⟨sm, d, hd, rx⟩ := wk.yld i H2 _ x H3 f2.go f2.sim.trk hlt y
        have S3 := f2.sim.more sm
        have hdrop : items.drop i = d :: items.drop (i + 1) := by
          rw [List.drop_eq_getElem_cons hlt]
          rw [List.getElem?_eq_getElem hlt] at hd
          rw [Option.some.inj hd]
        rw [hdrop] at g2
        unfold loopF at g2
        cases ha : Mp.assign g d e2 with
        | none => simp only [ha] at g2; exact g2.elim
        | some e3 =>
          simp only [ha] at g2
          refine ⟨O2, noA, e2, d, e3, S3, rx, ha, fun σ3 S3' _ => ⟨O2, e3, S3', ?_⟩⟩
          have f3 : FinS C O2 O2 H2 H3 σ3 e3 := ⟨S3', (Kp.of_same sm).go, fun a f => Same.of_trk sm (f2.sim.ln.fz a f).1⟩
          have g3 := EvS.from f3 g2
          have f13 := f2.trans f3
          generalize hx : execs P xb e3 = x at g3
          cases x with
          | ok f e4 =>
            cases f with
            | nx => exact fun O' σ' H' z => ⟨O', e4, f13.trans z, EvS.from z g3⟩
            | cnt => exact fun O' σ' H' z => ⟨O', e4, f13.trans z, EvS.from z g3⟩
            | brk => exact fun O' σ' H' z => g3 O' σ' H' z
            | ret d => exact fun v H' z => g3 v H' z
          | ex c d e4 => exact g3
          | no => exact g3
      · have hz : i = items.length := by omega
        subst hz
        refine .inl ⟨wk.stop H2 _ f2.go, ?_⟩
        rw [List.drop_length] at g2
        unfold loopF at g2
        exact g2 O2 σ2 H2 (FinS.refl f2.sim)
/-! ### while -/
theorem es_while {body : List Stmt} {xb : List Mp.St} (hp : PassesOwn (model X.prog X.w) X.A X.env X.xe) (hc : PT X c (tT C P W q (ev P xc))) (hb : PSs X body (tS C W fr (execs P xb))) : PS X (.While c body [] pos) (tS C W fr (Mp.exec P (.while_ xc xb))) :=
  ps_imp (ps_while hp hc hb) fun D σ H ⟨O, e, S, g0⟩ => by
    unfold Mp.exec at g0
    refine ⟨fun m σ' H' => ∃ O' e', FinS C O O' H H' σ' e' ∧ EvS C fr O' H' W D (loopW (fun e => ev P xc e) (fun e => execs P xb e) m e'), ⟨P.wf, O, e, FinS.refl S, g0⟩, ?_⟩
    rintro m σ2 H2 ⟨O2, e2, f2, g2⟩
    cases m with
    | zero => unfold loopW at g2; exact g2.elim
    | succ m =>
      unfold loopW at g2
      refine ⟨O2, noA, e2, f2.sim, (EvS.ex f2.sim g2).mono fun d e3 _ g3 => ?_⟩
      match d, g3 with
      | .bool true, g3 =>
        refine ⟨true, rfl, fun H3 k3 s3 S3 => ?_⟩
        simp only [if_true]
        have f3 : FinS C O2 O2 H2 H3 σ2 e3 := .of f2.sim k3 S3
        have f13 := f2.trans f3
        have g3 := EvS.from f3 g3
        refine ⟨fun σ' H' => ∃ O' e', FinS C O O' H H' σ' e' ∧ EvS C fr O' H' W D (loopW (fun e => ev P xc e) (fun e => execs P xb e) m e'), fun σ' H' h => ⟨m, Nat.lt_succ_self m, h⟩, O2, e3, S3, ?_⟩
        generalize hx : execs P xb e3 = x at g3
        cases x with
        | ok f e4 =>
          cases f with
          | nx => exact fun O' σ' H' z => ⟨O', e4, f13.trans z, EvS.from z g3⟩
          | cnt => exact fun O' σ' H' z => ⟨O', e4, f13.trans z, EvS.from z g3⟩
          | brk => exact fun O' σ' H' z => g3 O' σ' H' z
          | ret d => exact fun v H' z => g3 v H' z
        | ex c d e4 => exact g3
        | no => exact g3
      | .bool false, g3 =>
        refine ⟨false, rfl, fun H3 k3 s3 S3 => ?_⟩
        simp only [Bool.false_eq_true, if_false]
        exact g3 O2 σ2 H3 (.of f2.sim k3 S3)
/-! ### what an own name holds is changed -/
theorem own_at {B : Addr → Prop} (S : Sim C O B σ H e) {i : Nat} (hi : i ∈ C.own) (h : e[i]? = some (some d)) (hm : isMut d = true) : ∃ a, O i = some a ∧ σ[i]? = some (some (.ref a)) ∧ Root C.K C.w (Av C O B) H a d := by
  obtain ⟨a, hO⟩ := S.chg i hi d h hm
  have nl : ∀ q ∈ C.lnt, q.1 ≠ i := fun q hq z => (S.ln.at_ q hq).2.2.2.1 (by rw [z]; exact hi)
  rcases S.slot i d nl h with ⟨z, _⟩ | ⟨b, z1, z2, z3⟩
  · rw [hO] at z; cases z
  · rw [hO] at z1; cases z1; exact ⟨a, hO, z2, z3⟩
theorem FinS.change (S0 : Sim C O noA σ H e) (k : Kp (Od O) H H1) (S : Sim C O noA σ H1 e1) {i : Nat} {a : Addr} (hO : O i = some a) {o : HO} {d d0 : Mp.D} (h0 : e1[i]? = some (some d0)) (r : Root C.K C.w (Av C O noA) (upd H1 a o) a d) :
    FinS C O O H (upd H1 a o) σ (setE e1 i d) :=
  .of S0 (k.trans fun b u n h => by rw [upd_ne fun z => n ⟨i, by rw [z]; exact hO⟩]; exact h) (S.change hO h0 r)
theorem atSlot_ok {i : Nat} {f : Mp.D → Option Mp.D} (h : EvS C fr O H W D (atSlot e i f)) : ∃ d d', e[i]? = some (some d) ∧ f d = some d' ∧ ∀ O' σ' H', FinS C O O' H H' σ' (setE e i d') → D.nx σ' H' := by
  unfold atSlot at h
  cases he : e[i]? with
  | none => rw [he] at h; exact h.elim
  | some o =>
    cases o with
    | none => rw [he] at h; exact h.elim
    | some d =>
      simp only [he, Option.getD_some] at h
      cases hf : f d with
      | none => simp only [hf] at h; exact h.elim
      | some d' => simp only [hf] at h; exact ⟨d, d', rfl, hf, h⟩
theorem root_lst {A : Addr → Prop} {K : PySem.W.Frag} {w : World} {p : Addr} {ds : List Mp.D} (r : Root K w A H p (.list ds)) : ∃ xs, H p = some (.lst xs) ∧ RepAll K w A H xs ds := by
  rcases r with ⟨xs, ds', e, h, q⟩ | ⟨_, _, e, _⟩ | ⟨_, _, e, _⟩
  · cases e; exact ⟨xs, h, q⟩
  · cases e
  · cases e
theorem root_setL {A : Addr → Prop} {K : PySem.W.Frag} {w : World} {p : Addr} {xs : List V} {ds : List Mp.D} (hA : A p) (r : RepAll K w A H xs ds) : Root K w A (upd H p (.lst xs)) p (.list ds) :=
  .inl ⟨xs, ds, rfl, upd_same, r.go fun x u q n => ⟨by rw [upd_ne (fun z => n (by rw [z]; exact hA))]; exact q, n⟩⟩
theorem listAt_ok {i : Nat} (h : listAt e i = true) : ∃ ds, e[i]? = some (some (.list ds)) := by
  unfold listAt at h
  cases z : e[i]? with
  | none => rw [z] at h; cases h
  | some o =>
    rw [z] at h
    match o, h with
    | some (.list ds), _ => exact ⟨ds, rfl⟩
theorem mutAt_ok {i : Nat} (h : mutAt e i = true) : ∃ d, e[i]? = some (some d) ∧ isMut d = true := by
  unfold mutAt at h
  cases z : e[i]? with
  | none => rw [z] at h; cases h
  | some o =>
    cases o with
    | none => rw [z] at h; cases h
    | some d => rw [z] at h; exact ⟨d, rfl, h⟩
theorem tyV_lst {p : Addr} {xs : List V} (h : H p = some (.lst xs)) : tyV X.K "list" (.ref p) H := .inl ⟨rfl, xs, .inl (.inl h)⟩
theorem appOp_ok {d d' z : Mp.D} (h : appOp z d = some d') : ∃ ds, d = .list ds ∧ d' = .list (ds ++ [z]) ∧ ds.length + 1 ≤ sizeLine := by
  cases d with
  | list ds =>
    simp only [appOp] at h
    split at h
    · cases h; exact ⟨ds, rfl, rfl, okLen_le ‹_›⟩
    · cases h
  | _ => cases h
theorem extOp_ok {d d' z : Mp.D} (h : extOp z d = some d') : ∃ ds ys, d = .list ds ∧ z = .list ys ∧ d' = .list (ds ++ ys) ∧ ds.length + ys.length ≤ sizeLine := by
  cases d with
  | list ds =>
    cases z with
    | list ys =>
      simp only [extOp] at h
      split at h
      · cases h; exact ⟨ds, ys, rfl, rfl, rfl, okLen_le ‹_›⟩
      · cases h
    | _ => cases h
  | _ => cases h
section
variable {i : Nat} {x : Str} {px ap sp : Pos}
theorem es_app (hN : X.N[i]? = some x) (hv : Vis X.env.scope x) (hd : (x == ("__debug__" : Str)) = false) (hcd : (x == ("__classdict__" : Str)) = false) (hi : i ∈ C.own) (ha : PE X a (tE C P W .plain q xa))
    (hbase : attributeBase (.Name x px) "append" X.env (eval (.Name x px) X.env) = eval (.Name x px) X.env)
    (hfew : ((backTo pos (starEach [a] X.env)).all (fun x => !x.1) && (backToKw pos (keywordEach [] X.env)).all (fun x => x.1.isSome) && decide ([a].length + ([] : List Keyword).length + (if ([] : List Keyword).isEmpty then 0 else 1) < 30)) = true)
    (hline : (ap.endLine == pos.line) = true) (hs : starEach [a] X.env = (false, eval a X.env) :: starEach [] X.env) (hplain : (backTo pos (starEach [] X.env)).any (·.1) = false) (hsw : swapsWith (.Call (.Attribute (.Name x px) "append" ap) [a] [] pos) none sp.line X.env = pure false) :
    PS X (.Expr (.Call (.Attribute (.Name x px) "append" ap) [a] [] pos) sp) (tS C W fr (Mp.exec P (.app i xa))) :=
  ps_imp (ps_expr (pe_bm PySem.F.plainAttrs_list PySem.F.slot_list_append PySem.F.type_list_append mt_append (pe_var hN hv hd hcd) (pa_cons ha pa_nil hs) hbase hfew hline hs hplain) hsw) fun D σ H ⟨O, e, S, g⟩ => by
    unfold Mp.exec at g
    split at g
    · rename_i hl
      obtain ⟨ds, he⟩ := listAt_ok hl
      obtain ⟨p, hO, hσ, r⟩ := own_at S hi he rfl
      obtain ⟨xs, hp, _⟩ := root_lst r
      refine ⟨.ref p, hσ, tyV_lst hp, O, noA, e, S, (EvS.ex S g).mono fun d e1 _ g1 v H1 f1 => ?_⟩
      obtain ⟨d0, d1, h1, h2, h3⟩ := atSlot_ok g1
      obtain ⟨ds1, rfl, rfl, hz⟩ := appOp_ok h2
      obtain ⟨p', hO', _, r1⟩ := own_at f1.sim hi h1 rfl
      rw [hO] at hO'; cases hO'
      obtain ⟨xs1, hp1, q1⟩ := root_lst r1
      refine ⟨p, xs1, v, rfl, rfl, hp1, by rw [q1.length]; omega, h3 O σ _ (FinS.change S f1.kp f1.sim hO h1 (root_setL (.inr (.inl ⟨i, hO⟩)) (q1.append (.cons f1.val.2 .nil))))⟩
    · exact g.elim
theorem es_ext (hN : X.N[i]? = some x) (hv : Vis X.env.scope x) (hd : (x == ("__debug__" : Str)) = false) (hcd : (x == ("__classdict__" : Str)) = false) (hi : i ∈ C.own) (ha : PE X a (tE C P W .new q xa))
    (hbase : attributeBase (.Name x px) "extend" X.env (eval (.Name x px) X.env) = eval (.Name x px) X.env)
    (hfew : ((backTo pos (starEach [a] X.env)).all (fun x => !x.1) && (backToKw pos (keywordEach [] X.env)).all (fun x => x.1.isSome) && decide ([a].length + ([] : List Keyword).length + (if ([] : List Keyword).isEmpty then 0 else 1) < 30)) = true)
    (hline : (ap.endLine == pos.line) = true) (hs : starEach [a] X.env = (false, eval a X.env) :: starEach [] X.env) (hplain : (backTo pos (starEach [] X.env)).any (·.1) = false) (hsw : swapsWith (.Call (.Attribute (.Name x px) "extend" ap) [a] [] pos) none sp.line X.env = pure false) :
    PS X (.Expr (.Call (.Attribute (.Name x px) "extend" ap) [a] [] pos) sp) (tS C W fr (Mp.exec P (.ext i xa))) :=
  ps_imp (ps_expr (pe_bm PySem.F.plainAttrs_list PySem.F.slot_list_extend PySem.F.type_list_extend mt_extend (pe_var hN hv hd hcd) (pa_cons ha pa_nil hs) hbase hfew hline hs hplain) hsw) fun D σ H ⟨O, e, S, g⟩ => by
    unfold Mp.exec at g
    split at g
    · rename_i hl
      obtain ⟨ds, he⟩ := listAt_ok hl
      obtain ⟨p, hO, hσ, r⟩ := own_at S hi he rfl
      obtain ⟨xs, hp, _⟩ := root_lst r
      refine ⟨.ref p, hσ, tyV_lst hp, O, noA, e, S, (EvS.ex S g).mono fun d e1 _ g1 v H1 f1 => ?_⟩
      obtain ⟨d0, d1, h1, h2, h3⟩ := atSlot_ok g1
      obtain ⟨ds1, ys, rfl, rfl, rfl, hz⟩ := extOp_ok h2
      obtain ⟨p', hO', _, r1⟩ := own_at f1.sim hi h1 rfl
      rw [hO] at hO'; cases hO'
      obtain ⟨xs1, hp1, q1⟩ := root_lst r1
      rcases f1.val with ⟨_, b, rfl, hb, S2, r2⟩ | ⟨z, _⟩
      · obtain ⟨ys1, hb1, q2⟩ := root_lst r2
        refine ⟨p, b, xs1, ys1, rfl, rfl, hp1, hb1, by rw [q1.length, q2.length]; omega, h3 O σ _ (FinS.change S f1.kp f1.sim hO h1 (root_setL (.inr (.inl ⟨i, hO⟩)) (q1.append (q2.go go_unplus))))⟩
      · cases z
    · exact g.elim
theorem repK_len {K : PySem.W.Frag} {w : World} {A : Addr → Prop} : ∀ {kvs : List (Key × V)} {ds : List (Mp.D × Mp.D)}, RepK K w A H kvs ds → kvs.length = ds.length
  | _, _, .nil => rfl
  | _, _, .cons _ _ t => congrArg Nat.succ (repK_len t)
theorem ixN_len {n m : Nat} {k : Int} {j : Nat} (h : ixN n k = some j) (e : n = m) : ixN m k = some j := e ▸ h
theorem es_put {b : Expr} {xk xv : Ex} {q2 : Bool} {po : Pos} (F : FitC C X) (hN : X.N[i]? = some x) (hv : Vis X.env.scope x) (hd : (x == ("__debug__" : Str)) = false) (hcd : (x == ("__classdict__" : Str)) = false) (hi : i ∈ C.own)
    (ha : PE X a (tE C P W .plain q xv)) (hb : PE X b (tE C P W .plain q2 xk)) (hu : X.A.units + 1 < cLine)
    (hasg : ∀ v, PySem.assign (.Subscript (.Name x px) b po) X.env v = (do
      let ov ← holding [v] (eval (.Name x px) X.env)
      let iv ← holding [v, ov] (eval b X.env)
      standAt po
      holding [v, ov, iv] (setItem ov iv v)
      release [v, ov, iv] []))
    (hs : swapsWithSole [.Subscript (.Name x px) b po] a pos.line X.env = pure false) (hw : swappedStores [.Subscript (.Name x px) b po] a X.env = pure none) (h1 : (assignEach [.Subscript (.Name x px) b po] X.env).map (·.2) = [PySem.assign (.Subscript (.Name x px) b po) X.env]) :
    PS X (.Assign [.Subscript (.Name x px) b po] a pos) (tS C W fr (Mp.exec P (.put i xk xv))) := by
  have hset : PSet X (fun o i v H Q => rSetL o i v H Q ∨ rSetD o i v H Q) := fun pins s σ H o i v ov iv u Q I r1 r2 r3 h => h.elim (set_list pins s σ H o i v ov iv u Q I r1 r2 r3) (set_dict hu pins s σ H o i v ov iv u Q I r1 r2 r3)
  refine ps_imp (ps_asg ha (pg_sub (pe_var hN hv hd hcd) hb hset hasg) hs hw h1) fun D σ H ⟨O, e, S, g⟩ => ?_
  unfold Mp.exec at g
  refine ⟨O, noA, e, S, (EvS.ex S g).mono fun dv e1 _ g1 v H1 f1 => ?_⟩
  split at g1
  · rename_i hl
    obtain ⟨d0, he, hm⟩ := mutAt_ok hl
    obtain ⟨p, hO, hσ, r⟩ := own_at f1.sim hi he hm
    have g1 := EvS.from (f1.s S) g1
    refine ⟨.ref p, hσ, O, noA, e1, f1.sim, (EvS.ex f1.sim g1).mono fun dk e2 _ g2 k H2 f2 => ?_⟩
    obtain ⟨d1, d2, h1, h2, h3⟩ := atSlot_ok g2
    have hm1 : isMut d1 = true := by cases d1 <;> first | rfl | cases h2
    obtain ⟨p', hO', _, r1⟩ := own_at f2.sim hi h1 hm1
    rw [hO] at hO'; cases hO'
    have rv : Rep C.K C.w (Av C O noA) H2 v dv := f1.val.2.go f2.kp.av.go
    have fin : ∀ {o : HO} {d : Mp.D}, Root C.K C.w (Av C O noA) (upd H2 p o) p d → FinS C O O H1 (upd H2 p o) σ (setE e2 i d) := fun r => FinS.change f1.sim f2.kp f2.sim hO h1 r
    have hA : Av C O noA p := .inr (.inl ⟨i, hO⟩)
    match d1, dk, h2, r1 with
    | .list ds, .int n, h2, r1 =>
      obtain ⟨xs, hp, q⟩ := root_lst r1
      obtain ⟨j, hj, rfl⟩ := Option.map_eq_some_iff.mp h2
      exact .inl ⟨p, xs, n, j, rfl, (f2.rd f1.sim).int, hp, ixN_len hj q.length.symm, h3 O σ _ (fin (root_setL hA (RepAll.set rv j q)))⟩
    | .dict ds, dk, h2, r1 =>
      simp only [putOp] at h2
      split at h2
      · rename_i hk
        cases h2
        simp only [Bool.and_eq_true] at hk
        obtain ⟨kk, rfl⟩ := keyOk_kD hk.1.1
        obtain ⟨ek, ok⟩ := rep_key (f2.rd f1.sim)
        rcases r1 with ⟨_, _, e, _⟩ | ⟨kvs, ds', e, hp, q⟩ | ⟨kvs, ds', e, hp, q, ne⟩
        · cases e
        · cases e
          refine .inr ⟨p, _, rfl, .inl ⟨kvs, kk, hp, ek, ?_, rfl⟩, h3 O σ _ (fin (.inr (.inl ⟨_, _, rfl, upd_same, (repK_put ok rv q).go fun x u q n => ⟨by rw [upd_ne (fun z => n (by rw [z]; exact hA))]; exact q, n⟩⟩)))⟩
          have := okLen_le hk.2
          rw [repK_len q]; omega
        · cases e
          exfalso
          cases q with
          | nil => exact ne rfl
          | cons _ _ _ => simp [keyOk] at hk
      · cases h2
  · exact g1.elim
end
end
end Mp

namespace Mp
open PySem PySem.Spec PyProof.Rows L2
theorem wipeE_len {own : List Nat} {e : En} : (wipeE e own).length = e.length := by
  unfold wipeE
  induction own generalizing e with
  | nil => rfl
  | cons i own ih => rw [List.foldl_cons, ih, List.length_set]
theorem wipeE_out {own : List Nat} {e : En} {k : Nat} (h : k ∉ own) : (wipeE e own)[k]? = e[k]? := by
  unfold wipeE
  induction own generalizing e with
  | nil => rfl
  | cons i own ih =>
    rw [List.mem_cons, not_or] at h
    rw [List.foldl_cons, ih h.2, List.getElem?_set_ne (Ne.symm h.1)]
theorem wipeE_in {own : List Nat} {e : En} {k : Nat} {d : D} (h : k ∈ own) : (wipeE e own)[k]? ≠ some (some d) := by
  unfold wipeE
  induction own generalizing e with
  | nil => simp at h
  | cons i own ih =>
    rw [List.foldl_cons]
    by_cases hk : k ∈ own
    · exact ih hk
    · have : k = i := (List.mem_cons.mp h).resolve_right hk
      subst this
      rw [show (List.foldl (fun e i => e.set i none) (e.set k none) own)[k]? = (e.set k none)[k]? from wipeE_out hk]
      intro z
      rw [List.getElem?_set_self'] at z
      cases q : e[k]? <;> simp [q] at z
theorem backE_len {own : List Nat} {e0 e : En} : (backE e0 own e).length = e.length := by
  unfold backE
  induction own generalizing e with
  | nil => rfl
  | cons i own ih => rw [List.foldl_cons, ih, List.length_set]
theorem backE_out {own : List Nat} {e0 e : En} {k : Nat} (h : k ∉ own) : (backE e0 own e)[k]? = e[k]? := by
  unfold backE
  induction own generalizing e with
  | nil => rfl
  | cons i own ih =>
    rw [List.mem_cons, not_or] at h
    rw [List.foldl_cons, ih h.2, List.getElem?_set_ne (Ne.symm h.1)]
theorem backE_in {own : List Nat} {e0 e : En} {k : Nat} {d : D} (h : k ∈ own) (z : (backE e0 own e)[k]? = some (some d)) : e0[k]? = some (some d) := by
  unfold backE at z
  induction own generalizing e with
  | nil => simp at h
  | cons i own ih =>
    rw [List.foldl_cons] at z
    by_cases hk : k ∈ own
    · exact ih hk z
    · have : k = i := (List.mem_cons.mp h).resolve_right hk
      subst this
      rw [show (List.foldl (fun e i => e.set i (e0[i]?.getD none)) (e.set k (e0[k]?.getD none)) own)[k]? = (e.set k (e0[k]?.getD none))[k]? from backE_out hk] at z
      rw [List.getElem?_set_self'] at z
      cases q : e[k]? with
      | none => simp [q] at z
      | some o =>
        rw [q] at z
        have z : some (e0[k]?.getD none) = some (some d) := z
        cases q2 : e0[k]? with
        | none => rw [q2] at z; cases z
        | some o2 => rw [q2] at z; exact z
section
variable {X : Cx} {C : Cb} {P : Px} {W : WX} {O O' : Ow} {B : Addr → Prop} {σ σ' : L2.St} {H H1 H2 H' : Hp} {q qe qt fr : Bool} {v u : V} {d : D} {e e1 e2 : En} {md ma : Md}
variable {a b c : Expr} {xa xb xc : Ex} {pos : Pos}
theorem Sim.wipe {own : List Nat} (S : Sim C O B σ H e) (h1 : ∀ i ∈ own, i ∉ C.own) (h2 : ∀ p ∈ C.lnt, p.1 ∉ own) : Sim C O B (L2.wipe σ own) H (wipeE e own) := by
  have nown : ∀ {i : Nat} {d : D}, (wipeE e own)[i]? = some (some d) → i ∉ own ∧ e[i]? = some (some d) := fun {i d} h => by
    by_cases hi : i ∈ own
    · exact absurd h (wipeE_in hi)
    · rw [wipeE_out hi] at h; exact ⟨hi, h⟩
  refine ⟨by rw [wipeE_len, wipe_length]; exact S.len, S.keep, fun i d nl h => ?_, S.inj, S.own, fun i hi d h hm => S.chg i hi d (nown h).2 hm, S.io, S.trk, S.BO, S.a0, ?_⟩
  · obtain ⟨hi, h⟩ := nown h
    rcases S.slot i d nl h with ⟨z1, v, z2, z3⟩ | ⟨a, z1, z2, z3⟩
    · exact .inl ⟨z1, v, by rw [L2.wipe_out hi]; exact z2, z3⟩
    · exact .inr ⟨a, z1, by rw [L2.wipe_out hi]; exact z2, z3⟩
  · exact S.ln.go (fun _ _ h n => ⟨h, n⟩) (fun _ _ _ => rfl) (fun _ _ h => h) (fun _ _ h => h) (fun p hp _ => L2.wipe_out (h2 p hp)) (fun p hp _ => wipeE_out (h2 p hp))
/-- what is kept apart is written -/
theorem Sim.updB {D : Addr} {o : HO} (S : Sim C O B σ H e) (hB : B D) (h0 : C.H0 D = none) (hf : ¬ C.fz D) : Sim C O B σ (upd H D o) e := by
  have hA : Av C O B D := .inr (.inr hB)
  have g : Goes1 (Av C O B) (Av C O B) H (upd H D o) := fun x u q n => ⟨by rw [upd_ne (fun z => n (by rw [z]; exact hA))]; exact q, n⟩
  have hO : ∀ i, O i ≠ some D := fun i z => S.BO i D z hB
  refine ⟨S.len, fun a u h1 h2 => ?_, fun i d nl h => ?_, S.inj, S.own, S.chg, S.io, fun a h => ?_, S.BO, S.a0, ?_⟩
  · rw [upd_ne (fun z => by rw [z, h0] at h2; cases h2)]; exact S.keep a u h1 h2
  · rcases S.slot i d nl h with ⟨z1, v, z2, z3⟩ | ⟨a, z1, z2, z3⟩
    · exact .inl ⟨z1, v, z2, z3.go g⟩
    · exact .inr ⟨a, z1, z2, z3.go g (upd_ne (fun (z : a = D) => hO i (by rw [← z]; exact z1))).symm⟩
  · by_cases z : a = D
    · rw [z, upd_same]; simp
    · rw [upd_ne z]; exact S.trk a h
  · exact S.ln.go g (fun a hfa _ => (upd_ne (fun z => hf (by rw [← z]; exact hfa))).symm) (fun _ _ h => h) (fun _ _ h => h) (fun _ _ _ => rfl) (fun _ _ _ => rfl)
/-- behind a block: the names as they stood -/
theorem Sim.back {B' : Addr → Prop} {own : List Nat} (S1 : Sim C O B σ H1 e1) (S : Sim C O B' (L2.wipe σ own) H' e) (g : Goes1 (Av C O B) (Av C O B') H1 H') (h1 : ∀ i ∈ own, i ∉ C.own) (h2 : ∀ p ∈ C.lnt, p.1 ∉ own) : Sim C O B' σ H' (backE e1 own e) := by
  have cases_ : ∀ {i : Nat} {d : D}, (backE e1 own e)[i]? = some (some d) → (i ∈ own ∧ e1[i]? = some (some d)) ∨ (i ∉ own ∧ e[i]? = some (some d)) := fun {i d} h => by
    by_cases hi : i ∈ own
    · exact .inl ⟨hi, backE_in hi h⟩
    · rw [backE_out hi] at h; exact .inr ⟨hi, h⟩
  refine ⟨by rw [backE_len, S.len, wipe_length], S.keep, fun i d nl h => ?_, S.inj, S.own, fun i hi d h hm => ?_, S.io, S.trk, S.BO, S.a0, ?_⟩
  · rcases cases_ h with ⟨hi, h⟩ | ⟨hi, h⟩
    · rcases S1.slot i d nl h with ⟨z1, v, z2, z3⟩ | ⟨a, z1, z2, z3⟩
      · exact .inl ⟨z1, v, z2, z3.go g⟩
      · exact absurd (S1.own i a z1).1 (h1 i hi)
    · rcases S.slot i d nl h with ⟨z1, v, z2, z3⟩ | ⟨a, z1, z2, z3⟩
      · exact .inl ⟨z1, v, by rw [← L2.wipe_out hi]; exact z2, z3⟩
      · exact .inr ⟨a, z1, by rw [← L2.wipe_out hi]; exact z2, z3⟩
  · rcases cases_ h with ⟨hi', h⟩ | ⟨_, h⟩
    · exact absurd hi (h1 i hi')
    · exact S.chg i hi d h hm
  · exact S.ln.go (fun _ _ h n => ⟨h, n⟩) (fun _ _ _ => rfl) (fun _ _ h => h) (fun _ _ h => h) (fun p hp _ => (L2.wipe_out (h2 p hp)).symm) (fun p hp _ => backE_out (h2 p hp))
theorem noEx_ok {α : Type} {x : Out α} {a : α} (h : Out.noEx x = .ok a e) : x = .ok a e := by cases x <;> simp_all [Out.noEx]
theorem bind_ok_inv {α β : Type} {x : Out α} {f : α → En → Out β} {b : β} (h : x.bind f = .ok b e) : ∃ a e1, x = .ok a e1 ∧ f a e1 = .ok b e := by
  cases x with
  | ok a e1 => exact ⟨a, e1, rfl, h⟩
  | ex _ _ _ => cases h
  | no => cases h
def tgs : Tg → List Nat
  | .nm i => [i]
  | .tp is => is
/-- a step of a comprehension -/
def stepC (P : Px) (tg : Tg) (ifs : List Ex) (elt : Ex) (own : List Nat) (d : D) (e : En) : Out (Option D) := match Mp.assign tg d e with
  | none => .no
  | some e2 => (evAnd P ifs e2).bind fun b e3 => onBool b ((ev P elt e3).bind fun v e4 => .ok (some v) (wipeE e4 own)) (.ok none (wipeE e3 own))
theorem stepC_ok {tg : Tg} {ifs : List Ex} {elt : Ex} {own : List Nat} {o : Option D} (h : stepC P tg ifs elt own d e = .ok o e1) : ∃ e2, Mp.assign tg d e = some e2 ∧
    ((∃ e3 v e4, evAnd P ifs e2 = .ok (.bool true) e3 ∧ ev P elt e3 = .ok v e4 ∧ o = some v ∧ e1 = wipeE e4 own) ∨ (∃ e3, evAnd P ifs e2 = .ok (.bool false) e3 ∧ o = none ∧ e1 = wipeE e3 own)) := by
  unfold stepC at h
  cases ha : Mp.assign tg d e with
  | none => rw [ha] at h; cases h
  | some e2 =>
    rw [ha] at h
    obtain ⟨b, e3, h1, h2⟩ := bind_ok_inv h
    refine ⟨e2, rfl, ?_⟩
    match b, h2 with
    | .bool true, h2 =>
      obtain ⟨v, e4, h3, h4⟩ := bind_ok_inv (show ((ev P elt e3).bind fun v e4 => .ok (some v) (wipeE e4 own)) = .ok o e1 from h2)
      cases h4
      exact .inl ⟨e3, v, e4, h1, h3, rfl, rfl⟩
    | .bool false, h2 => cases h2; exact .inr ⟨e3, h1, rfl, rfl⟩
theorem flt_len {o : Option D} {r : List D} : (flt o r).length ≤ r.length + 1 := by cases o <;> simp [flt]
/-- the block's state at turn i -/
structure BlkS (C : Cb) (O : Ow) (B : Addr → Prop) (σ : L2.St) (H1 H' : Hp) (L : Addr) (own : List Nat) (qe : Bool) (acc : List D) (e : En) : Prop where
  sim : Sim C O (plus B L) (L2.wipe σ own) H' e
  kp : Kp (Od O) H1 H'
  same : qe = true → Same H1 H'
  lst : ∃ xs, H' L = some (.lst xs) ∧ RepAll C.K C.w (Av C O (plus B L)) H' xs acc
theorem BlkS.goes {L : Addr} {own : List Nat} {acc : List D} (b : BlkS C O B σ H1 H' L own qe acc e) (hL : H1 L = none) : Goes1 (Av C O B) (Av C O (plus B L)) H1 H' := fun a o h n => ⟨b.kp.av a o n h, fun z => ((Av_plus a).mp z).elim n fun z => by rw [z, hL] at h; cases h⟩
theorem rd_lc {tg : Tg} {k : IK} {its xifs : List Ex} {xe : Ex} {own : List Nat} (h1 : ∀ i ∈ own, i ∉ C.own) (h2 : ∀ p ∈ C.lnt, p.1 ∉ own) (h3 : ∀ i ∈ tgs tg, i ∈ own) {q' : Bool} (hq : q' = true → q = true ∧ qt = true ∧ qe = true) :
    ∀ σ H Q, tE C P W md q' (.lc xe tg k its xifs own) σ H Q → tLc (tI C P W k q its) (tG C tg) (tT C P (fun _ _ _ _ => False) qt (evAnd P xifs)) (tE C P (fun _ _ _ _ => False) .plain qe xe) own σ H Q :=
  fun σ H Q ⟨O, B, e, S, g0⟩ => by
    unfold ev at g0
    refine ⟨O, B, e, S, (EvG.part Kp.refl g0).mono fun ds e1 _ ⟨_, g1⟩ => ?_⟩
    cases hk : itemsK k ds with
    | none => simp only [hk] at g1; exact g1.elim
    | some items =>
      simp only [hk] at g1
      refine ⟨items, rfl, fun J H1 k1 s1 S1 wk L hL => ?_⟩
      -- the turns end
      have fin : ∃ vs e5, loopC (stepC P tg xifs xe own) items (wipeE e1 own) = .ok vs e5 ∧ vs.length ≤ sizeLine ∧ ∀ v H', Fin C O B σ md q' H H' v (.list vs) (backE e1 own e5) → Q v H' := by
        have g2 : EvG C O B σ H W (fun d e' => ∀ v H', Fin C O B σ md q' H H' v d e' → Q v H') ((Out.noEx (loopC (stepC P tg xifs xe own) items (wipeE e1 own))).bind fun vs e5 => if okLen vs.length then .ok (.list vs) (backE e1 own e5) else .no) := g1
        cases hx : loopC (stepC P tg xifs xe own) items (wipeE e1 own) with
        | ok vs e5 =>
          rw [hx] at g2
          have g2 : EvG C O B σ H W (fun d e' => ∀ v H', Fin C O B σ md q' H H' v d e' → Q v H') (if okLen vs.length then .ok (.list vs) (backE e1 own e5) else .no) := g2
          by_cases hz : okLen vs.length = true
          · rw [if_pos hz] at g2; exact ⟨vs, e5, rfl, okLen_le hz, g2⟩
          · rw [if_neg hz] at g2; exact g2.elim
        | ex _ _ _ => rw [hx] at g2; exact g2.elim
        | no => rw [hx] at g2; exact g2.elim
      obtain ⟨vs, e5, hloop, hlen, hQ⟩ := fin
      have h0L := S1.h0 hL
      have hfL := S1.notF hL
      have S2 : Sim C O (plus B L) σ (upd H1 L (.lst [])) e1 := S1.new (upd_self hL) hL (by rw [upd_same]; simp)
      have b0 : BlkS C O B σ H1 (upd H1 L (.lst [])) L own (qt && qe) [] (wipeE e1 own) :=
        ⟨S2.wipe h1 h2, Kp.of_same (upd_self hL), fun _ => upd_self hL, [], upd_same, .nil⟩
      refine ⟨fun i m H' => m = items.length - i ∧ i ≤ items.length ∧ ∃ e' acc rest, BlkS C O B σ H1 H' L own (qt && qe) acc e' ∧ loopC (stepC P tg xifs xe own) (items.drop i) e' = .ok rest e5 ∧ vs = acc ++ rest, ⟨_, rfl, Nat.zero_le _, _, [], vs, b0, hloop, rfl⟩, ?_⟩
      rintro i m H3 ⟨rfl, hi, e3, acc, rest, b3, hl3, hv⟩
      by_cases hlt : i < items.length
      · have hdrop : items.drop i = items[i] :: items.drop (i + 1) := List.drop_eq_getElem_cons hlt
        rw [hdrop] at hl3
        unfold loopC at hl3
        obtain ⟨o, e4, hstep, hl4⟩ := bind_ok_inv hl3
        obtain ⟨r, e5', hl5, hl6⟩ := bind_ok_inv hl4
        cases hl6
        obtain ⟨e6, hasg, hst⟩ := stepC_ok hstep
        refine .inr ⟨wk.go i H3 _ (b3.goes hL) hlt, fun H' => ∃ e' acc rest, BlkS C O B σ H1 H' L own (qt && qe) acc e' ∧ loopC (stepC P tg xifs xe own) (items.drop (i + 1)) e' = .ok rest e5 ∧ vs = acc ++ rest, fun H' h => ⟨_, by omega, rfl, by omega, h⟩, fun x H4 y => ?_⟩
        obtain ⟨sm, d, hd, rx⟩ := wk.yld i H3 _ x H4 (b3.goes hL) b3.sim.trk hlt y
        rw [List.getElem?_eq_getElem hlt] at hd
        cases hd
        have S4 := b3.sim.more sm
        refine ⟨O, plus B L, e3, _, e6, S4, rx, hasg, fun σ7 S7 hw => ⟨?_, O, plus B L, e6, S7, ?_⟩⟩
        · rw [hw own h3]
          exact wipe_same (wipe_length _ _) fun k hk => L2.wipe_out hk
        · have wσ : L2.wipe σ7 own = L2.wipe σ own := by
            rw [hw own h3]
            exact wipe_same (wipe_length _ _) fun k hk => L2.wipe_out hk
          have keepL : ∀ {Ha Hb : Hp}, Kp (Od O) Ha Hb → Ha L ≠ none → Hb L = Ha L := fun {Ha Hb} k n => by
            cases z : Ha L with
            | none => exact absurd z n
            | some u => exact k L u (fun q => S1.notO hL q.choose q.choose_spec) z
          obtain ⟨xs3, hx3, rx3⟩ := b3.lst
          have k34 : Kp (Od O) H3 H4 := Kp.of_same sm
          have hL4 : H4 L = some (.lst xs3) := sm L _ hx3
          rcases hst with ⟨e7, v, e8, ht1, he1, rfl, rfl⟩ | ⟨e7, ht1, rfl, rfl⟩
          · rw [ht1]
            refine ⟨true, rfl, fun H5 k5 s5 S5 => ?_⟩
            simp only [if_true]
            refine ⟨O, plus B L, e7, S5, ?_⟩
            rw [he1]
            intro y' H6 f6
            have k46 : Kp (Od O) H4 H6 := k5.trans f6.kp
            have hL6 : H6 L = some (.lst xs3) := by rw [keepL k46 (by rw [hL4]; simp), hL4]
            have racc : RepAll C.K C.w (Av C O (plus B L)) H6 xs3 acc := rx3.go (k34.trans k46).av.go
            have hA : Av C O (plus B L) L := .inr (.inr (.inr rfl))
            have gU : Goes1 (Av C O (plus B L)) (Av C O (plus B L)) H6 (upd H6 L (.lst (xs3 ++ [y']))) := fun x u q n => ⟨by rw [upd_ne (fun z => n (by rw [z]; exact hA))]; exact q, n⟩
            have hle : xs3.length < sizeLine := by
              rw [racc.length]
              have : vs.length = acc.length + (flt (some v) r).length := by rw [hv, List.length_append]
              simp only [flt, List.length_cons] at this
              omega
            have kall : Kp (Od O) H1 H6 := b3.kp.trans (k34.trans k46)
            have Lne : ∀ {a : Addr} {o : HO}, H1 a = some o → a ≠ L := fun h z => by rw [z, hL] at h; cases h
            refine ⟨xs3, hL6, hle, wipeE e8 own, acc ++ [v], r, ⟨?_, fun a o n h => ?_, fun z a o h => ?_, xs3 ++ [y'], upd_same, (racc.append (.cons f6.val.2 .nil)).go gU⟩, hl5, ?_⟩
            · rw [← wσ]; exact (f6.sim.wipe h1 h2).updB (.inr rfl) h0L hfL
            · rw [upd_ne (Lne h)]; exact kall a o n h
            · rw [upd_ne (Lne h)]
              rw [Bool.and_eq_true] at z
              exact f6.same z.2 a o (s5 z.1 a o (sm a o (b3.same (by rw [z.1, z.2]; rfl) a o h)))
            · rw [hv]; simp [flt]
          · rw [ht1]
            refine ⟨false, rfl, fun H5 k5 s5 S5 => ?_⟩
            simp only [Bool.false_eq_true, if_false]
            have hL5 : H5 L = some (.lst xs3) := by rw [keepL k5 (by rw [hL4]; simp), hL4]
            refine ⟨wipeE e7 own, acc, r, ⟨by rw [← wσ]; exact S5.wipe h1 h2, b3.kp.trans (k34.trans k5), fun z a o h => ?_, xs3, hL5, rx3.go (k34.trans k5).av.go⟩, hl5, by rw [hv]; rfl⟩
            rw [Bool.and_eq_true] at z
            exact s5 z.1 a o (sm a o (b3.same (by rw [z.1, z.2]; rfl) a o h))
      · have hz : i = items.length := by omega
        subst hz
        refine .inl ⟨wk.stop H3 _ (b3.goes hL), ?_⟩
        rw [List.drop_length] at hl3
        unfold loopC at hl3
        cases hl3
        rw [List.append_nil] at hv
        subst hv
        obtain ⟨xs3, hx3, rx3⟩ := b3.lst
        have S5 : Sim C O (plus B L) σ H3 (backE e1 own e5) := S1.back b3.sim (b3.goes hL) h1 h2
        have root : Root C.K C.w (Av C O (plus B L)) H3 L (.list vs) := .inl ⟨xs3, vs, rfl, hx3, rx3⟩
        have root' : Root C.K C.w (plus (Av C O B) L) H3 L (.list vs) := root.go go_plus' rfl
        have kall := k1.trans b3.kp
        have hLH : H L = none := by
          cases z : H L with
          | none => rfl
          | some o =>
            have := k1 L o (fun q => S1.notO hL q.choose q.choose_spec) z
            rw [hL] at this; cases this
        refine hQ _ _ ⟨kall, fun z => (s1 (hq z).1).trans (b3.same (by rw [(hq z).2.1, (hq z).2.2]; rfl)), ?_⟩
        cases md with
        | plain => exact ⟨S5.unplus, (root.go go_unplus' rfl).rep (S1.notA hL)⟩
        | lent => exact ⟨S5.unplus, .inl ((root.go go_unplus' rfl).rep (S1.notA hL))⟩
        | new => exact .inl ⟨rfl, L, rfl, hLH, S5, root'⟩
theorem ev_lc {elt tgE iter : Expr} {ifs : List Expr} {scope : Scope} {ownP : List (Str × Nat)} {tg : Tg} {k : IK} {its xifs : List Ex} {xe : Ex} {own : List Nat} (F : FitC C X) (hN : X.N.Nodup) (hi : PI X tgE iter (tI C P W k q its)) (ok : BlkOk X.N X.env.scope scope ownP) (hown : ownP.map (·.2) = own)
    (hg : ∀ (s : Shared) (H : Hp) (L : Addr) (cl : List (Str × Addr)) (fp : List Addr), PG (X.blk s H scope (compEnvC scope cl L X.env) fp) tgE (tG C tg))
    (ht : ∀ (s : Shared) (H : Hp) (L : Addr) (cl : List (Str × Addr)) (fp : List Addr), PTs (X.blk s H scope (compEnvC scope cl L X.env) fp) ifs (tT C P (fun _ _ _ _ => False) qt (evAnd P xifs)))
    (he : ∀ (s : Shared) (H : Hp) (L : Addr) (cl : List (Str × Addr)) (fp : List Addr), PE (X.blk s H scope (compEnvC scope cl L X.env) fp) elt (tE C P (fun _ _ _ _ => False) .plain qe xe))
    (hs : ∀ x, foldedSetIterable iter X.env x = pure x) (h1 : ∀ i ∈ own, i ∉ C.own) (h2 : ∀ p ∈ C.lnt, p.1 ∉ own) (h3 : ∀ i ∈ tgs tg, i ∈ own) {q' : Bool} (hq : q' = true → q = true ∧ qt = true ∧ qe = true) :
    PE X (.ListComp elt [⟨tgE, iter, ifs, 0⟩] scope pos) (tE C P W md q' (.lc xe tg k its xifs own)) :=
  pe_imp (pe_lc F.calm hN hi ok hg ht he hs) fun σ H Q z => by rw [hown]; exact rd_lc h1 h2 h3 hq σ H Q z
end
end Mp

namespace Mp
open PySem PySem.Spec PyProof.Rows L2
def tyName : Ty → String
  | .int => "int" | .str => "str" | .bool => "bool" | .tuple => "tuple" | .list => "list" | .dict => "dict"
def kName : D → String
  | .none => "NoneType" | .bool _ => "bool" | .int _ => "int" | .str _ => "str" | .list _ => "list" | .tuple _ => "tuple" | .dict _ => "dict"
theorem kit_ty (K : PySem.W.Frag) (d : D) (t : Ty) : PySem.W.kitOne K (.type (kName d)) (.type (tyName t)) = some (isTy d t) := by
  cases t <;> cases d <;> rfl
section
variable {K : PySem.W.Frag} {w : World} {A : Addr → Prop} {H : Hp} {x : V} {d : D}
theorem ty_rep (r : Rep K w A H x d) : TyX K H x (.type (kName d)) := by
  cases r with
  | non => exact .base .non
  | bl b => exact .base (.bl b)
  | int i => exact .base (.int i)
  | str z _ => exact .base (.str z)
  | tup h _ _ => exact .fTuple h.1
  | tupK h _ =>
    rcases h.2 with h | ⟨o, its, n, ho, hc, _⟩
    · rcases h with h | ⟨_, h⟩ <;> cases h
    · exact .kTuple ho hc
  | lst h _ _ =>
    rcases h with h | ⟨o, h⟩
    · exact .base (.lst h)
    · exact .base (.frz h)
  | lstK h _ =>
    obtain ⟨its, n, e, _⟩ := h
    exact .kList e rfl
  | dK h _ _ =>
    rcases h with h | ⟨o, h⟩
    · exact .base (.dK h)
    · exact .fDict h
  | dT h _ _ => exact .base (.dT h)
  | dC h _ =>
    obtain ⟨_, _, es, n, hd, _⟩ := h
    exact .kDict hd.at_ rfl
theorem ty_rd (r : RepR K w A H x d) : TyX K H x (.type (kName d)) := ty_rep r.any
end
section
variable {X : Cx} {C : Cb} {P : Px} {W : WX} {O O' : Ow} {B : Addr → Prop} {σ σ' : L2.St} {H H1 H2 H' : Hp} {q qa qb fr : Bool} {v u : V} {d : D} {e e1 e2 : En} {md ma mb : Md} {D' : Ends}
variable {a b c : Expr} {xa xb xc : Ex} {pos : Pos} {rest : List Expr} {xs : List Ex}
/-! ### isinstance -/
theorem ev_isi {t : Ty} {p p2 : Pos} {tn : Str} (F : FitC C X) (ht : bootBuiltins tn = some (.type (tyName t))) (hg : Gl X "isinstance") (hm : X.mg "isinstance" = none) (hgt : Gl X tn) (hmt : X.mg tn = none) (hnn : tn ≠ "__name__") (hdd : (tn == ("__debug__" : Str)) = false)
    (ha : PE X a (tE C P W ma q xa)) (hs : starEach [a, .Name tn p2] X.env = (false, eval a X.env) :: starEach [.Name tn p2] X.env) (hs2 : starEach [.Name tn p2] X.env = (false, eval (.Name tn p2) X.env) :: starEach [] X.env) (hpl : (backTo pos (starEach [.Name tn p2] X.env)).any (·.1) = false) :
    PE X (.Call (.Name "isinstance" p) [a, .Name tn p2] [] pos) (tE C P W md q (.isi xa [t])) :=
  pe_imp (pe_callB call_isi hg hm boot_isinstance (pa_cons ha (pa_cons (pe_bltn (v := .ty (tyName t)) hgt hmt ht rfl hnn hdd) pa_nil hs2) hs) (he := hs) (hpl := hpl)) fun σ H Q ⟨O, B, e, S, g⟩ => by
    unfold ev at g
    refine ⟨O, B, e, S, (EvG.part Kp.refl g).mono fun d e1 _ ⟨_, g1⟩ v H1 f1 => ?_⟩
    have g1 : ∀ v H', Fin C O B σ md q H H' v (.bool ([t].any (isTy d))) e1 → Q v H' := g1
    refine ⟨v, .ty (tyName t), _, _, isTy d t, rfl, .ty _, ?_, kit_ty X.K d t, g1 _ H1 ?_⟩
    · rw [← F.hK]; exact ty_rd (f1.rd S)
    · have : [t].any (isTy d) = isTy d t := by simp
      rw [this]
      exact Fin.bl S f1.kp f1.same f1.sim
/-! ### methods -/
def mtName : Mt → Str
  | .get => "get" | .index => "index" | .count => "count" | .join => "join" | .split => "split" | .partition => "partition" | .items => "items"
theorem tuple_type {pins : List (Addr × Obj)} {s : Shared} {A : Addr → Prop} {v : Value} {x : V} {ds : List Mp.D} (I : Inv X pins σ H s) (rv : RelV x v) (r : RepR X.K X.w A H x (.tuple ds)) : s.TypeIs v "tuple" ∧ ∀ b, v = .ref b → ∃ ob, s.heap.get? b = some ob ∧ ob.dict = none := by
  have r := r.tupR
  cases r with
  | tup h _ _ =>
    have ev : v = Value.ref _ := rv
    subst ev
    obtain ⟨h1, h2⟩ := no_dict I h.1 h.2
    exact ⟨h1, fun b z => by cases z; exact h2⟩
  | tupK h _ =>
    have ev : v = Value.ref _ := rv
    subst ev
    obtain ⟨o1, ho1, hd⟩ := h.1
    rcases h.2 with h | ⟨o, its, n, ho, hc, _⟩
    · rcases h with h | ⟨_, h⟩ <;> cases h
    · rw [ho1] at ho; cases ho
      have e := I.kIn _ _ ho1
      exact ⟨⟨_, e, hc⟩, fun b z => by cases z; exact ⟨_, e, hd⟩⟩
theorem mt_on (F : FitC C X) {m : Mt} {dx : Mp.D} (h : (mtId m dx).isSome = true) {pins : List (Addr × Obj)} {s : Shared} {x : V} {v : Value} (I : Inv X pins σ H s) (rv : RelV x v) {A : Addr → Prop} (r : RepR X.K X.w A H x dx) :
    ∃ T id, mtId m dx = some id ∧ PlainAttrs T ∧ PySem.Slot T (mtName m) id ∧ typeOf (.builtin id) = pure (.type "method_descriptor") ∧ s.TypeIs v T ∧ (∀ a, v = .ref a → ∃ ob, s.heap.get? a = some ob ∧ ob.dict = none) := by
  match m, dx, h, r with
  | .get, .dict ds, h, r =>
    have fin : ∀ {b : Addr}, x = .ref b → (∃ ob : Obj, s.heap.get? b = some ob ∧ ob.cls = .type "dict" ∧ ob.dict = none) → s.TypeIs v "dict" ∧ (∀ a, v = .ref a → ∃ ob, s.heap.get? a = some ob ∧ ob.dict = none) := fun {b} e ⟨ob, h1, h2, h3⟩ => by
      subst e
      have ev : v = Value.ref b := rv
      subst ev
      exact ⟨⟨ob, h1, h2⟩, fun a z => by cases z; exact ⟨ob, h1, h3⟩⟩
    have ty : s.TypeIs v "dict" ∧ (∀ a, v = .ref a → ∃ ob, s.heap.get? a = some ob ∧ ob.dict = none) := by
      have rA := r.any
      cases rA with
      | dK h _ _ =>
        obtain ⟨_, _, vs, _, o, es, ep, ho, hc, _⟩ := dk_rd I.hok h
        exact fin rfl ⟨o, ho, hc.1, hc.2.1⟩
      | dT h _ _ =>
        obtain ⟨_, _, xs, _, o, es, ep, ho, hc, _⟩ := dt_rd I.hok (.inl h)
        exact fin rfl ⟨o, ho, hc.1, hc.2.1⟩
      | dC h _ =>
        obtain ⟨_, _, es, n, hd, _⟩ := h
        exact fin rfl ⟨_, I.kIn _ _ hd.at_, rfl, rfl⟩
    exact ⟨"dict", _, rfl, PySem.F.plainAttrs_dict, PySem.F.slot_dict_get, PySem.F.type_dict_get, ty.1, ty.2⟩
  | .index, .tuple ds, h, r =>
    obtain ⟨h1, h2⟩ := tuple_type I rv r
    exact ⟨"tuple", _, rfl, PySem.F.plainAttrs_tuple, PySem.F.slot_tuple_index, PySem.F.type_tuple_index, h1, h2⟩
  | .index, .list ds, h, r =>
    obtain ⟨a, us, rfl, ha, _⟩ := r.lst
    have ev : v = Value.ref a := rv
    subst ev
    obtain ⟨_, its, n, rits, hl, e⟩ := ha.ok I
    exact ⟨"list", _, rfl, PySem.F.plainAttrs_list, PySem.F.slot_list_index, PySem.F.type_list_index, ⟨_, e, rfl⟩, fun b z => by cases z; exact ⟨_, e, rfl⟩⟩
theorem mt_ok (F : FitC C X) : ∀ m : Mt, ∀ dx, (mtId m dx).isSome = true → Mt1 X m
  | .get, _, _ => mt_get F.deep
  | .index, _, _ => mt_index F.deep
theorem repOf {A : Addr → Prop} {K : PySem.W.Frag} {w : World} : ∀ {n : Nat} {vs : List V} {ds : List Mp.D} {j : Nat} {z : V} {d : Mp.D}, RepAll K w A H vs ds → vs[j]? = some z → ds[j]? = some d → Rep K w A H z d
  | _, _, _, j, z, d, r, h1, h2 => by
    obtain ⟨v, e, rv⟩ := r.get h2
    rw [h1] at e; cases e; exact rv
theorem ev_mth {m : Mt} {ap : Pos} {o : Expr} {n : Nat} (F : FitC C X) (hn : md = .plain ∨ md = .lent) (ho : PE X o (tE C P W ma qa xa)) (ha : PA X (b :: rest) (tA C P W (List.replicate n (.md .plain)) qb xs)) (hl : isLent (.md ma) = true → qb = true) (hq : q = true → qa = true ∧ qb = true)
    (hbase : attributeBase o (mtName m) X.env (eval o X.env) = eval o X.env)
    (hfew : ((backTo pos (starEach (b :: rest) X.env)).all (fun x => !x.1) && (backToKw pos (keywordEach [] X.env)).all (fun x => x.1.isSome) && decide ((b :: rest).length + ([] : List Keyword).length + (if ([] : List Keyword).isEmpty then 0 else 1) < 30)) = true)
    (hline : (ap.endLine == pos.line) = true) (hs : starEach (b :: rest) X.env = (false, eval b X.env) :: starEach rest X.env) (hplain : (backTo pos (starEach rest X.env)).any (·.1) = false) :
    PE X (.Call (.Attribute o (mtName m) ap) (b :: rest) [] pos) (tE C P W md q (.mth m xa xs)) := by
  refine ⟨fun pins s σ H Q I ⟨O, B, e, S, g⟩ => ?_⟩
  unfold ev at g
  refine wpAny_Call_method_late hbase hfew hline rfl (thn (ho.run pins s σ H (fun x H1 => ∃ dx e1, Sim C O B σ H1 e1 ∧ RepR C.K C.w (Av C O B) H1 x dx ∧ (mtId m dx).isSome = true ∧ tA C P W (List.replicate n (.md .plain)) qb xs σ H1 fun vs H2 =>
      ∃ ds d, (∀ a, Av C O B a → H2 a ≠ none) ∧ RepR C.K C.w (Av C O B) H2 x dx ∧ RepAll C.K C.w (Av C O B) H2 vs ds ∧ mt m dx ds = some d ∧ ∀ z H', Same H2 H' → Rep C.K C.w (Av C O B) H' z d → Q z H') I
    ⟨O, B, e, S, (EvG.part Kp.refl g).mono fun dx e1 _ ⟨_, g1⟩ x H1 f1 => ?_⟩) fun v s1 ⟨x, H1, I1, rv, dx, e1, S1, rx, hid, q1⟩ => ?_)
  · by_cases hid : (mtId m dx).isSome = true
    · rw [if_pos hid] at g1
      refine ⟨dx, e1, f1.sim, f1.rd S, hid, O, B, e1, f1.sim, (EvG.part f1.kp g1).mono fun ds e2 _ ⟨_, g2⟩ vs H2 k2 s2 S2 r2 => ?_⟩
      cases hm : mt m dx ds with
      | none => rw [hm] at g2; exact g2.elim
      | some d =>
        rw [hm] at g2
        have g2 : ∀ v H', Fin C O B σ md q H H' v d e2 → Q v H' := g2
        refine ⟨ds, d, S2.trk, (ArgIs.step k2 (fun z => s2 (hl z)) (f1.arg S .nil)).rd, args_plain r2, hm, fun z H' s r => g2 z H' ?_⟩
        refine Fin.from (q1 := qa && qb) (q2 := true) S2 (f1.kp.trans k2) (fun z => ?_) (fin_op (nw := false) S2 s r (fun z => by cases z) fun z => ?_) (fun z => ⟨by rw [(hq z).1, (hq z).2]; rfl, rfl⟩)
        · rw [Bool.and_eq_true] at z
          exact Same.trans (f1.same z.1) (s2 z.2)
        · subst z; rcases hn with z | z <;> cases z
    · rw [if_neg hid] at g1; exact g1.elim
  · rw [F.hK, F.hw] at rx
    obtain ⟨T, id, hid2, pa, slot, hty, hT, hnd⟩ := mt_on F hid I1 rv rx
    refine ⟨T, id, pa, slot, hty, hT, hnd, ?_⟩
    have hA := ha.run pos pins s1 σ H1 _ I1 q1
    rw [hs] at hA ⊢
    refine Calls.callWith_builtin (by show (false || (backTo pos (starEach rest X.env)).any (·.1)) = false; rw [hplain] <;> rfl) (Calls.evalArgs_plain ?_)
    refine thn hA fun us s2 ⟨vs, H2, I2, r2, ds, d, trk, rx2, ra, hm, k⟩ => ?_
    rw [F.hK, F.hw] at rx2
    have ra' : RepAll X.K X.w (Av C O B) H2 vs ds := by rw [← F.hK, ← F.hw]; exact ra
    have prs : ∀ {vs : List V} {ds : List Mp.D}, RepAll X.K X.w (Av C O B) H2 vs ds → Paired (RepR X.K X.w (Av C O B) H2) vs ds := fun {vs ds} r => by
      induction vs generalizing ds with
      | nil => cases r; exact .nil
      | cons v vs ih => cases r with | cons a t => exact .cons (.inl a) (ih t)
    obtain ⟨id', hid', w'⟩ := mt_ok F m dx hid (Av C O B) pins s2 σ H2 x v dx vs us ds d Q I2 rv r2 trk rx2 (prs ra') hm fun z H' s r => k z H' s (by
      rcases r with r | ⟨j, h1, h2, rfl⟩
      · rw [F.hK, F.hw]; exact r
      · exact repOf (n := 0) ra h1 h2)
    rw [hid2] at hid'
    cases hid'
    exact w'
end
end Mp

namespace Mp
open PySem PySem.Spec PyProof.Rows L2
section
variable {X : Cx} {C : Cb} {P : Px} {W : WX} {O O' : Ow} {B : Addr → Prop} {σ σ' : L2.St} {H H1 H2 H' : Hp} {q qa qb fr : Bool} {v u : V} {d : D} {e e1 e2 : En} {md ma mb : Md} {D' : Ends}
variable {a b c : Expr} {xa xb xc : Ex} {pos : Pos} {rest : List Expr} {xs : List Ex}
/-! ### a comprehension's tests -/
theorem ept_nil : PTs X [] (tT C P W q (evAnd P [])) := ⟨fun pins s σ H Q I ⟨O, B, e, S, g⟩ => pts_nil.run pins s σ H Q I (by
  unfold evAnd at g
  obtain ⟨b, hb, k⟩ := g
  cases hb
  exact k H Kp.refl (fun _ => Same.refl H) S)⟩
theorem ept_one (h : PT X c (tT C P W q (ev P xc))) : PTs X [c] (tT C P W q (evAnd P [xc])) := ⟨fun pins s σ H Q I ⟨O, B, e, S, g⟩ => (pts_one h).run pins s σ H Q I (by
  unfold evAnd at g
  refine ⟨O, B, e, S, (EvG.part Kp.refl g).mono fun d e1 _ ⟨_, g1⟩ => ?_⟩
  cases d with
  | bool b =>
    cases b with
    | true =>
      unfold onBool evAnd at g1
      obtain ⟨b', hb, k⟩ := g1
      cases hb
      exact ⟨true, rfl, k⟩
    | false =>
      obtain ⟨b', hb, k⟩ := g1
      cases hb
      exact ⟨false, rfl, k⟩
  | _ => exact g1.elim)⟩
theorem evs_cons {x : Ex} {xs : List Ex} : evs P (x :: xs) e = (ev P x e).bind fun z e1 => (evs P xs e1).bind fun zs e2 => .ok (z :: zs) e2 := by
  conv => lhs; unfold evs
/-! ### two names at once -/
theorem es_par {i j : Nat} {x y : Str} {px py pt : Pos} {kt k2 pt2} (hc : X.calm = true) (hN : X.N.Nodup) (hi : X.N[i]? = some x) (hj : X.N[j]? = some y) (hij : i ≠ j) (hx : X.env.scope.names.lookup x = some .local) (hy : X.env.scope.names.lookup y = some .local)
    (ha : PE X a (tE C P W .plain qa xa)) (hb : PE X b (tE C P W mb qb xb)) (hs0 : starEach [a, b] X.env = (false, eval a X.env) :: starEach [b] X.env) (hs1 : starEach [b] X.env = (false, eval b X.env) :: starEach [] X.env)
    (hw : swappedStores [.Tuple [.Name x px, .Name y py] kt pt] (.Tuple [a, b] k2 pt2) X.env = pure (some [x, y])) (hs : swapsWithSole [.Tuple [.Name x px, .Name y py] kt pt] (.Tuple [a, b] k2 pt2) pos.line X.env = pure false)
    (oi : i ∉ C.own) (li : ∀ p ∈ C.lnt, p.1 ≠ i) (hm : (mb = .plain ∧ j ∉ C.own ∧ ∀ p ∈ C.lnt, p.1 ≠ j) ∨ (mb = .new ∧ j ∈ C.own ∧ ∀ p ∈ C.io, p.1 ≠ j)) :
    PS X (.Assign [.Tuple [.Name x px, .Name y py] kt pt] (.Tuple [a, b] k2 pt2) pos) (tS C W fr (Mp.exec P (.par [i, j] [xa, xb]))) :=
  ps_imp (ps_par hc hN hi hj hij hx hy (pa_cons ha (pa_cons hb pa_nil hs1) hs0) hw hs) fun D σ H ⟨O, e, S, g⟩ => by
    unfold Mp.exec at g
    have ee : evs P [xa, xb] e = (ev P xa e).bind fun z1 e1 => (ev P xb e1).bind fun z2 e2 => .ok [z1, z2] e2 := by
      unfold evs
      cases ev P xa e with
      | ok z1 e1 =>
        show ((evs P [xb] e1).bind fun xs e2 => .ok (z1 :: xs) e2) = _
        rw [evs_one]
        cases hb : ev P xb e1 <;> simp [hb]
      | _ => rfl
    rw [ee] at g
    have g' : EvS C fr O H W D ((ev P xa e).bind fun z1 e1 => (ev P xb e1).bind fun z2 e2 => match assignAll [i, j] [z1, z2] e2 with | some e2 => .ok .nx e2 | none => .no) := by
      cases h1 : ev P xa e with
      | ok z1 e1 =>
        rw [h1] at g
        simp only [Out.bind_ok] at g ⊢
        cases h2 : ev P xb e1 with
        | ok z2 e2 => rw [h2] at g; exact g
        | ex _ _ _ => rw [h2] at g; exact g
        | no => rw [h2] at g; exact g
      | ex _ _ _ => rw [h1] at g; exact g
      | no => rw [h1] at g; exact g
    refine ⟨O, noA, e, S, (EvS.ex S g').mono fun z1 e1 _ g1 v1 H1 f1 => ?_⟩
    have g1 := EvS.from (f1.s S) g1
    refine ⟨O, noA, e1, f1.sim, (EvS.ex f1.sim g1).mono fun z2 e2 _ g2 v2 H2 f2 => ?_⟩
    have g2 : ∀ O' σ' H', FinS C O O' H1 H' σ' (setE (setE e2 i z1) j z2) → D.nx σ' H' := g2
    have r1 : Rep C.K C.w (Av C O noA) H2 v1 z1 := f1.val.2.go f2.kp.av.go
    refine ⟨v1, v2, rfl, ?_⟩
    rcases hm with ⟨rfl, oj, lj⟩ | ⟨rfl, oj, hio⟩
    · exact g2 O _ H2 (.of f1.sim f2.kp ((f2.sim.store oi li r1).store oj lj f2.val.2))
    · -- the second is new
      have st : ∃ O', Sim C O' noA ((σ.set i (some v1)).set j (some v2)) H2 (setE (setE e2 i z1) j z2) ∧ (∀ k, k ≠ j → O' k = O k) ∧ ∀ a, O' j = some a → H1 a = none := by
        refine store_new (H := H1) (H0 := H1) oj hio f1.sim.fresh ?_
        rcases f2.val with ⟨hm, p, rfl, hp, S2, r⟩ | ⟨hm, S2, r⟩
        · refine .inl ⟨hm, p, rfl, hp, S2.store oi li ?_, r⟩
          -- v1 stood ahead of p
          have nw : Goes1 (Av C O noA) (Av C O (plus noA p)) H1 H2 := fun x o h n => ⟨f2.kp.av x o n h, fun z => ((Av_plus x).mp z).elim n fun z => by rw [z, hp] at h; cases h⟩
          exact f1.val.2.go nw
        · exact .inr ⟨hm, S2.store oi li r1, r⟩
      obtain ⟨O', S', h1, h2⟩ := st
      exact g2 O' _ H2 ⟨S', goes_own f2.kp h1 h2, f1.sim.fzKp f2.kp⟩
/-! ### a display of a dict -/
inductive Prs (X : Cx) (C : Cb) (P : Px) (W : WX) : List (Option Expr) → List Expr → List Ex → List (TE × TE) → Prop
  | nil : Prs X C P W [] [] [] []
  | cons {k v : Expr} {ks : List (Option Expr)} {vs : List Expr} {xk xv : Ex} {xs : List Ex} {qk qv : Bool} {trs : List (TE × TE)} : PE X k (tE C P W .plain qk xk) → PE X v (tE C P W .plain qv xv) → Prs X C P W ks vs xs trs →
    Prs X C P W (some k :: ks) (v :: vs) (xk :: xv :: xs) ((tE C P W .plain qk xk, tE C P W .plain qv xv) :: trs)
theorem Prs.pps : ∀ {ks : List (Option Expr)} {vs : List Expr} {xs : List Ex} {trs : List (TE × TE)}, Prs X C P W ks vs xs trs → PPs X pos ks vs trs ∧ ks.all (·.isSome) = true ∧ ks.length = vs.length
  | _, _, _, _, .nil => ⟨pps_nil, rfl, rfl⟩
  | _, _, _, _, .cons h1 h2 t => by
    obtain ⟨z1, z2, z3⟩ := t.pps
    exact ⟨pps_cons h1 h2 z1, by simp [z2], by simp [z3]⟩
def flat (ps : List (V × V)) : List V := ps.flatMap fun p => [p.1, p.2]
theorem Prs.go : ∀ {ks : List (Option Expr)} {vs : List Expr} {xs : List Ex} {trs : List (TE × TE)} {H : Hp} {e : En} {Q : List (V × V) → Hp → Prop}, Prs X C P W ks vs xs trs → Sim C O B σ H e →
    EvG C O B σ H W (fun ds e' => ∀ ps H', Kp (Od O) H H' → Sim C O B σ H' e' → RepAll C.K C.w (Av C O B) H' (flat ps) ds → Q ps H') (evs P xs e) → tPairs trs σ H Q
  | _, _, _, _, H, e, Q, .nil, S, g => by unfold evs at g; exact g [] H Kp.refl S .nil
  | _, _, _, _, H, e, Q, .cons (xk := xk) (xv := xv) (xs := xs) h1 h2 t, S, g => by
    have ee : evs P (xk :: xv :: xs) e = (ev P xk e).bind fun z1 e1 => (ev P xv e1).bind fun z2 e2 => (evs P xs e2).bind fun zs e3 => .ok (z1 :: z2 :: zs) e3 := by
      rw [evs_cons]
      cases ev P xk e with
      | ok z1 e1 =>
        simp only [Out.bind_ok]
        rw [evs_cons]
        cases ev P xv e1 with
        | ok z2 e2 =>
          simp only [Out.bind_ok]
          cases evs P xs e2 <;> rfl
        | _ => rfl
      | _ => rfl
    rw [ee] at g
    refine ⟨O, B, e, S, (EvG.part Kp.refl g).mono fun z1 e1 _ ⟨_, g1⟩ v1 H1 f1 => ⟨O, B, e1, f1.sim, (EvG.part f1.kp g1).mono fun z2 e2 _ ⟨_, g2⟩ v2 H2 f2 => t.go f2.sim ((EvG.part (f1.kp.trans f2.kp) g2).mono fun zs e3 _ ⟨_, g3⟩ ps H3 k3 S3 r3 => ?_)⟩⟩
    exact g3 ((v1, v2) :: ps) H3 ((f1.kp.trans f2.kp).trans k3) S3 (.cons ((f1.val.2.go f2.kp.av.go).go k3.av.go) (.cons (f2.val.2.go k3.av.go) r3))
theorem pairUp_rep {K : PySem.W.Frag} {w : World} {A : Addr → Prop} : ∀ {ds : List D} {ms : List (D × D)} {ps : List (V × V)}, pairUp ds = some ms → RepAll K w A H (flat ps) ds → ∃ kvs : List (Key × V), ps = kvs.map (fun kv => (kV kv.1, kv.2)) ∧ RepK K w A H kvs ms ∧ kvs.length = ms.length
  | [], ms, [], h, r => by cases h; exact ⟨[], rfl, .nil, rfl⟩
  | [], ms, _ :: _, h, r => by cases r
  | [_], ms, ps, h, r => by simp [pairUp] at h
  | k :: v :: ds, ms, [], h, r => by cases r
  | k :: v :: ds, ms, (pk, pv) :: ps, h, r => by
    simp only [pairUp] at h
    split at h
    · rename_i hk
      obtain ⟨ms', hm, rfl⟩ := Option.map_eq_some_iff.mp h
      cases r with
      | cons r1 t =>
        cases t with
        | cons r2 t =>
          obtain ⟨kvs, rfl, rk, hl⟩ := pairUp_rep hm t
          obtain ⟨kk, rfl⟩ := keyOk_kD hk
          obtain ⟨e1, ok⟩ := rep_key (.inl r1)
          subst e1
          exact ⟨(kk, pv) :: kvs, rfl, .cons ok r2 rk, by simp [hl]⟩
    · cases h
theorem ev_dic {ks : List (Option Expr)} {vs : List Expr} {trs : List (TE × TE)} (h : Prs X C P W ks vs xs trs) (h0 : ks ≠ []) (h15 : ks.length ≤ 15) : PE X (.Dict ks vs pos) (tE C P W md false (.dic xs)) := by
  obtain ⟨z1, z2, z3⟩ := h.pps (pos := pos)
  refine pe_imp (pe_disp z1 z2 z3 h0 h15) fun σ H Q ⟨O, B, e, S, g⟩ p hp => ?_
  unfold ev at g
  have hp' : upd H p (.dK []) p ≠ none := by rw [upd_same]; simp
  have S1 : Sim C O (plus B p) σ (upd H p (.dK [])) e := S.new (upd_self hp) hp hp'
  have keepP : ∀ {H' : Hp}, Kp (Od O) (upd H p (.dK [])) H' → H' p = some (.dK []) := fun k => k p _ (fun z => S.notO hp z.choose z.choose_spec) upd_same
  refine h.go S1 ?_
  have kUp : Kp (Od O) H (upd H p (.dK [])) := Kp.of_same (upd_self hp)
  generalize hx : evs P xs e = x at g
  cases x with
  | no => exact g.elim
  | ex c d e1 =>
    have g : ∀ cv od H', XFin C O B σ H H' c d cv od e1 → W cv od σ H' := g
    exact fun cv od H' z => g cv od H' ⟨kUp.trans z.kp, z.sim.unplus, z.cls, by
      rcases z.dat with h | ⟨dx, v, h1, h2, h3⟩
      · exact .inl h
      · exact .inr ⟨dx, v, h1, h2, h3.go go_unplus'⟩⟩
  | ok ds e1 =>
    have g : EvG C O B σ H W (fun d e' => ∀ v H', Fin C O B σ md false H H' v d e' → Q v H') (lift (dispD ds) e1) := g
    intro ps H2 k2 S2 r2
    cases hd : dispD ds with
    | none => rw [hd] at g; exact g.elim
    | some d =>
      rw [hd] at g
      have g : ∀ v H', Fin C O B σ md false H H' v d e1 → Q v H' := g
      unfold dispD at hd
      obtain ⟨ms, hm, hd⟩ := Option.bind_eq_some_iff.mp hd
      split at hd
      · rename_i hlen
        cases hd
        obtain ⟨kvs, rfl, rk, hl⟩ := pairUp_rep hm r2
        refine ⟨keepP k2, kvs, rfl, by rw [hl]; exact of_decide_eq_true hlen, g _ _ ?_⟩
        have hA : Av C O (plus B p) p := .inr (.inr (.inr rfl))
        have gU : Goes1 (Av C O (plus B p)) (Av C O (plus B p)) H2 (upd H2 p (.dK (mergeK [] kvs))) := fun x u q n => ⟨by rw [upd_ne (fun z => n (by rw [z]; exact hA))]; exact q, n⟩
        have S3 := S2.updB (D := p) (o := .dK (mergeK [] kvs)) (.inr rfl) (S.h0 hp) (S.notF hp)
        have root : Root C.K C.w (Av C O (plus B p)) (upd H2 p (.dK (mergeK [] kvs))) p (.dict (ms.foldl (fun a kv => dput a kv.1 kv.2) [])) := .inr (.inl ⟨_, _, rfl, upd_same, (repK_merge rk .nil).go gU⟩)
        have hne : ∀ {a : Addr} {o : HO}, H a = some o → a ≠ p := fun h z => by rw [z, hp] at h; cases h
        refine ⟨fun a o n h => by rw [upd_ne (hne h)]; exact k2 a o n (by rw [upd_ne (hne h)]; exact h), fun z => (by cases z), ?_⟩
        cases md with
        | plain => exact ⟨S3.unplus, (root.go go_unplus' rfl).rep (S.notA hp)⟩
        | lent => exact ⟨S3.unplus, .inl ((root.go go_unplus' rfl).rep (S.notA hp))⟩
        | new => exact .inl ⟨rfl, p, rfl, hp, S3, root.go go_plus' rfl⟩
      · cases hd
theorem ev_dic0 : PE X (.Dict [] [] pos) (tE C P W md q (.dic [])) := pe_imp pe_dnewK fun σ H Q ⟨O, B, e, S, g⟩ p hp => by
  unfold ev evs at g
  have g : ∀ v H', Fin C O B σ md q H H' v (.dict []) e → Q v H' := g
  refine g _ _ (fin_op (nw := true) S (upd_self hp) (rep_newK hp S.trk .nil) (fun _ _ => ⟨p, rfl, hp, root_newK hp .nil⟩) fun _ => rfl)
end
end Mp

/-! The text is looked at: a check by computation, and what it gives. -/
namespace Mp
open PySem PySem.Spec PyProof.Rows L2

/-- what is known of a place in the text -/
structure Sx where
  N : List Str
  sc : Scope
  own : List Nat
  lnt : List Nat
  io : List Nat
  cons : List (Str × Nat)
  fns : List (Str × Nat)
  blt : List Str
  df : Nat → Option Df
  cel : Str → Bool
structure FnAt (X : Cx) (C : Cb) (P : Px) (x : Str) (f : Nat) (df : Df) : Prop where
  io : P.io f = df.io
  fn : ∃ (a : Addr) (fd : FuncData) (ps : List Str) (k : Nat), X.mg x = some (.ref a) ∧ Fn X.prog X.w X.K X.mg X.base k a fd ps (spD C.K C.w C.xc df (P.F f)) ∧ Room k X.A ∧ PySem.W.keepIn X.K (.ref a) = true ∧ Binds X.K fd ps []
structure Fx (Z : Sx) (C : Cb) (X : Cx) (P : Px) (W : WX) : Prop extends FitC C X where
  nm : X.N = Z.N
  nod : X.N.Nodup
  scp : X.env.scope = Z.sc
  own : ∀ i, i ∈ C.own ↔ i ∈ Z.own
  lnt : ∀ p ∈ C.lnt, p.1 ∈ Z.lnt
  io : ∀ p ∈ C.io, p.1 ∈ Z.io
  blt : ∀ x ∈ Z.blt, X.mg x = none
  cons : ∀ p ∈ Z.cons, ∃ v u, X.mg p.1 = some u ∧ RelV v u ∧ (∀ A H, Rep C.K C.w A H v (P.G p.2))
  fns : ∀ p ∈ Z.fns, ∀ df, Z.df p.2 = some df → FnAt X C P p.1 p.2 df
  tk : Takes X W
  cel : ∀ y, Z.cel y = true → X.fn y = true

/-! ### small checks -/
def ns : Expr → Bool
  | .Starred _ _ => false
  | _ => true
theorem star_ok {e : Expr} {es : List Expr} {env : Env} (h : ns e = true) : starEach (e :: es) env = (false, eval e env) :: starEach es env := by cases e <;> first | rfl | cases h
def nameOk (Z : Sx) (x : Str) (i : Nat) : Bool := Z.N[i]? == some x && (Z.sc.names.lookup x == some .local || Z.sc.names.lookup x == some .cell || Z.sc.names.lookup x == some .free) && !(x == "__debug__") && !(x == "__classdict__")
def glOk (Z : Sx) (x : Str) : Bool := Z.sc.names.lookup x == some .globalImplicit && !(x == "__debug__") && !(x == "__name__")
def bltOk (Z : Sx) (x : Str) : Bool := glOk Z x && Z.blt.contains x
/-- does nothing that stood change? -/
def nq (D : Nat → Option Df) : Nat → Ex → Bool
  | 0, _ => false
  | n + 1, x => match x with
    | .var _ | .lit _ | .glob _ | .nil => true
    | .tup es | .lst es | .and es | .or es | .blt _ es => es.all (nq D n)
    | .dic es => es.isEmpty
    | .bin _ a b | .cmp _ a b | .idx a b => nq D n a && nq D n b
    | .neg a | .not a | .isi a _ | .slc a _ _ => nq D n a
    | .chn _ _ a b c | .ite a b c => nq D n a && (nq D n b && nq D n c)
    | .call f es => (match D f with | some d => d.io.isEmpty | none => false) && es.all (nq D n)
    | .mth _ a es => nq D n a && es.all (nq D n)
    | .lc e _ _ its ifs _ => nq D n e && (its.all (nq D n) && ifs.all (nq D n))
    | .pop _ => false
abbrev FE := Md → Expr → Ex → Bool
abbrev FT := Expr → Ex → Bool
/-- an operand: plain, or lent where nothing changes behind it -/
def rd (f : FE) (e : Expr) (x : Ex) (r : Bool) : Bool := f .plain e x || (r && f .lent e x)
section
variable {X : Cx} {C : Cb} {P : Px} {W : WX} {Z : Sx} {f : FE} {t : FT} {g : Ex → Bool} {e : Expr} {x : Ex} {q : Bool} {md : Md}
/-- what f looks at is as the evaluator tells -/
def SoundE (X : Cx) (C : Cb) (P : Px) (W : WX) (f : FE) (g : Ex → Bool) : Prop := ∀ md e x, f md e x = true → PE X e (tE C P W md (g x) x)
def SoundT (X : Cx) (C : Cb) (P : Px) (W : WX) (t : FT) (g : Ex → Bool) : Prop := ∀ e x, t e x = true → PT X e (tT C P W (g x) (ev P x))
theorem vis_ok (F : Fx Z C X P W) {y : Str} {i : Nat} (h : nameOk Z y i = true) : X.N[i]? = some y ∧ Vis X.env.scope y ∧ (y == ("__debug__" : Str)) = false ∧ (y == ("__classdict__" : Str)) = false := by
  unfold nameOk at h
  simp only [Bool.and_eq_true, Bool.or_eq_true, beq_iff_eq, Bool.not_eq_true'] at h
  obtain ⟨⟨⟨h1, h2⟩, h3⟩, h4⟩ := h
  refine ⟨by rw [F.nm]; exact h1, ?_, h3, h4⟩
  unfold Vis
  rw [F.scp]
  rcases h2 with (h2 | h2) | h2
  · exact .inl h2
  · exact .inr (.inl h2)
  · exact .inr (.inr h2)
theorem gl_ok (F : Fx Z C X P W) {y : Str} (h : glOk Z y = true) : Gl X y ∧ (y == ("__debug__" : Str)) = false ∧ y ≠ "__name__" := by
  unfold glOk at h
  simp only [Bool.and_eq_true, beq_iff_eq, Bool.not_eq_true'] at h
  obtain ⟨⟨h1, h2⟩, h3⟩ := h
  refine ⟨?_, h2, fun z => by rw [z] at h3; exact absurd h3 (by decide)⟩
  show X.env.scope.names.lookup y = _
  rw [F.scp]; exact h1
theorem blt_ok (F : Fx Z C X P W) {y : Str} (h : bltOk Z y = true) : Gl X y ∧ (y == ("__debug__" : Str)) = false ∧ y ≠ "__name__" ∧ X.mg y = none := by
  unfold bltOk at h
  rw [Bool.and_eq_true, List.contains_iff_mem] at h
  obtain ⟨h1, h2, h3⟩ := gl_ok F h.1
  exact ⟨h1, h2, h3, F.blt y h.2⟩
theorem tE_w {q1 q2 : Bool} (h : PE X e (tE C P W md q1 x)) (hq : q2 = true → q1 = true) : PE X e (tE C P W md q2 x) :=
  pe_imp h fun σ H Q ⟨O, B, en, S, g⟩ => ⟨O, B, en, S, g.mono fun d e' _ k v H' z => k v H' ⟨z.kp, fun w => z.same (hq w), z.val⟩⟩
theorem tT_w {q1 q2 : Bool} {fe : En → Out D} (h : PT X e (tT C P W q1 fe)) (hq : q2 = true → q1 = true) : PT X e (tT C P W q2 fe) :=
  pt_imp h fun σ H Q ⟨O, B, en, S, g⟩ => ⟨O, B, en, S, g.mono fun d e' _ ⟨b, hb, k⟩ => ⟨b, hb, fun H' k1 s1 S1 => k H' k1 (fun w => s1 (hq w)) S1⟩⟩
theorem rd_ok (S : SoundE X C P W f g) {r : Bool} (h : rd f e x r = true) : ∃ m, PE X e (tE C P W m (g x) x) ∧ (isLent (.md m) = true → r = true) := by
  unfold rd at h
  rw [Bool.or_eq_true, Bool.and_eq_true] at h
  rcases h with h | ⟨h1, h2⟩
  · exact ⟨.plain, S _ _ _ h, fun z => by cases z⟩
  · exact ⟨.lent, S _ _ _ h2, fun _ => h1⟩
/-! names, constants -/
def cVar (Z : Sx) (i : Nat) : Md → Expr → Bool
  | .plain, .Name y _ => nameOk Z y i && !Z.own.contains i && !Z.lnt.contains i
  | .lent, .Name y _ => nameOk Z y i
  | _, _ => false
theorem cVar_ok (F : Fx Z C X P W) {i : Nat} (h : cVar Z i md e = true) : PE X e (tE C P W md q (.var i)) := by
  unfold cVar at h
  split at h
  · simp only [Bool.and_eq_true, Bool.not_eq_true', List.contains_eq_mem, decide_eq_false_iff_not] at h
    obtain ⟨h1, h2, h3, h4⟩ := vis_ok F h.1.1
    exact ev_var h1 h2 h3 h4 (.inr ⟨rfl, fun z => h.1.2 ((F.own i).mp z), fun p hp z => h.2 (by rw [← z]; exact F.lnt p hp)⟩)
  · obtain ⟨h1, h2, h3, h4⟩ := vis_ok F h
    exact ev_var h1 h2 h3 h4 (.inl rfl)
  · cases h
def cLit (d : D) : Expr → Bool
  | .Constant c _ _ => match c, d with
    | .none, .none => true
    | .bool b, .bool b' => b == b'
    | .int i, .int j => i == j
    | .str a, .str b => a == b && PyData.strOk a
    | _, _ => false
  | _ => false
theorem cLit_ok {d : D} (h : cLit d e = true) : PE X e (tE C P W md q (.lit d)) := by
  unfold cLit at h
  split at h
  · split at h
    · exact ev_c pe_non (.inl rfl) (fun _ _ => .non) fun _ => by simp only [ev]
    · rw [beq_iff_eq] at h; subst h
      exact ev_c pe_bl (.inl rfl) (fun _ _ => .bl _) fun _ => by simp only [ev]
    · rw [beq_iff_eq] at h; subst h
      exact ev_c pe_int (.inl rfl) (fun _ _ => .int _) fun _ => by simp only [ev]
    · rw [Bool.and_eq_true, beq_iff_eq] at h
      obtain ⟨rfl, h⟩ := h
      exact ev_c pe_str (.inl rfl) (fun _ _ => .str _ h) fun _ => by simp only [ev]
    · cases h
  · cases h
def cGlob (Z : Sx) (k : Nat) : Md → Expr → Bool
  | .new, _ => false
  | _, .Name y _ => glOk Z y && Z.cons.contains (y, k)
  | _, _ => false
theorem cGlob_ok (F : Fx Z C X P W) {k : Nat} (h : cGlob Z k md e = true) : PE X e (tE C P W md q (.glob k)) := by
  unfold cGlob at h
  split at h
  · cases h
  · rename_i hm
    rw [Bool.and_eq_true, List.contains_iff_mem] at h
    obtain ⟨h1, h2, h3⟩ := gl_ok F h.1
    obtain ⟨v, u, h4, h5, h6⟩ := F.cons _ h.2
    exact ev_c (pe_glob h1 h4 h5 h2) (by cases md <;> simp_all) h6 fun _ => by simp only [ev]
  · cases h
/-! operations -/
def cBin (f : FE) (g : Ex → Bool) (o : Bo) (xa xb : Ex) : Expr → Bool
  | .BinOp a op b _ => decide (op = opOf o) && rd f a xa (g xb) && rd f b xb true
  | _ => false
theorem cBin_ok (F : Fx Z C X P W) (S : SoundE X C P W f g) {o : Bo} {xa xb : Ex} (h : cBin f g o xa xb e = true) (hq : q = true → (g xa && g xb) = true) : PE X e (tE C P W md q (.bin o xa xb)) := by
  unfold cBin at h
  split at h
  · simp only [Bool.and_eq_true, decide_eq_true_eq] at h
    obtain ⟨⟨rfl, h1⟩, h2⟩ := h
    obtain ⟨ma, ha, la⟩ := rd_ok S h1
    obtain ⟨mb, hb, _⟩ := rd_ok S h2
    exact ev_bin F.toFitC o ha hb la fun z => by simpa using hq z
  · cases h
def cNeg (f : FE) (xa : Ex) : Expr → Bool
  | .UnaryOp .USub a _ => rd f a xa true
  | _ => false
theorem cNeg_ok (S : SoundE X C P W f g) {xa : Ex} (h : cNeg f xa e = true) (hq : q = true → g xa = true) : PE X e (tE C P W md q (.neg xa)) := by
  unfold cNeg at h
  split at h
  · obtain ⟨ma, ha, _⟩ := rd_ok S h
    exact ev_neg (tE_w ha hq)
  · cases h
def cNot (f : FE) (xa : Ex) : Expr → Bool
  | .UnaryOp .Not a _ => rd f a xa true
  | _ => false
theorem cNot_ok (S : SoundE X C P W f g) {xa : Ex} (h : cNot f xa e = true) (hq : q = true → g xa = true) : PE X e (tE C P W md q (.not xa)) := by
  unfold cNot at h
  split at h
  · obtain ⟨ma, ha, _⟩ := rd_ok S h
    exact ev_not (tE_w ha hq)
  · cases h
def cCmp (f : FE) (g : Ex → Bool) (o : Co) (xa xb : Ex) : Expr → Bool
  | .Compare a [op] [b] _ => decide (op = copOf o) && !behindInMarks op b && rd f a xa (g xb) && rd f b xb true
  | _ => false
theorem cCmp_ok (F : Fx Z C X P W) (S : SoundE X C P W f g) {o : Co} {xa xb : Ex} (h : cCmp f g o xa xb e = true) (hq : q = true → (g xa && g xb) = true) : PE X e (tE C P W md q (.cmp o xa xb)) ∧ PT X e (tT C P W q (ev P (.cmp o xa xb))) := by
  unfold cCmp at h
  split at h
  · simp only [Bool.and_eq_true, decide_eq_true_eq, Bool.not_eq_true'] at h
    obtain ⟨⟨⟨rfl, hm⟩, h1⟩, h2⟩ := h
    obtain ⟨ma, ha, la⟩ := rd_ok S h1
    obtain ⟨mb, hb, _⟩ := rd_ok S h2
    exact ⟨ev_cmp F.toFitC o ha hb la (fun z => by simpa using hq z) hm, evt_cmp F.toFitC o ha hb la (fun z => by simpa using hq z) hm⟩
  · cases h
def cChn (f : FE) (g : Ex → Bool) (o o' : Co) (xa xb xc : Ex) : Expr → Bool
  | .Compare a [op, op'] [b, c] _ => decide (op = copOf o) && decide (op' = copOf o') && !lastMarks [op, op'] [b, c] && rd f a xa (g xb) && rd f b xb (g xc) && rd f c xc true
  | _ => false
theorem cChn_ok (F : Fx Z C X P W) (S : SoundE X C P W f g) {o o' : Co} {xa xb xc : Ex} (h : cChn f g o o' xa xb xc e = true) (hq : q = true → (g xa && (g xb && g xc)) = true) : PE X e (tE C P W md q (.chn o o' xa xb xc)) ∧ PT X e (tT C P W q (ev P (.chn o o' xa xb xc))) := by
  unfold cChn at h
  split at h
  · simp only [Bool.and_eq_true, decide_eq_true_eq, Bool.not_eq_true'] at h
    obtain ⟨⟨⟨⟨⟨rfl, rfl⟩, hm⟩, h1⟩, h2⟩, h3⟩ := h
    obtain ⟨ma, ha, la⟩ := rd_ok S h1
    obtain ⟨mb, hb, lb⟩ := rd_ok S h2
    obtain ⟨mc, hc, _⟩ := rd_ok S h3
    exact ev_chn F.toFitC o o' ha hb hc la lb (fun z => by simpa using hq z) hm
  · cases h
/-! and, or -/
def cAnds (f : FE) : List Expr → List Ex → Bool
  | [e], [x] => rd f e x true
  | e :: es, x :: xs => rd f e x true && cAnds f es xs
  | _, _ => false
theorem cAnds_ok (S : SoundE X C P W f g) {pos : Pos} : ∀ {es : List Expr} {xs : List Ex} {md : Md} {q : Bool}, cAnds f es xs = true → (q = true → xs.all g = true) → PE X (.BoolOp .And es pos) (tV C W md q (evAnd P xs)) ∧ PE X (.BoolOp .Or es pos) (tV C W md q (evOr P xs))
  | [e], [x], md, q, h, hq => by
    obtain ⟨m, ha, _⟩ := rd_ok S h
    have ha := tE_w ha (q2 := q) fun z => by simpa using hq z
    exact ⟨ev_and1 ha, ev_or1 ha⟩
  | e :: e2 :: es, x :: xs, md, q, h, hq => by
    have h : (rd f e x true && cAnds f (e2 :: es) xs) = true := by
      cases xs <;> exact h
    rw [Bool.and_eq_true] at h
    obtain ⟨m, ha, _⟩ := rd_ok S h.1
    obtain ⟨h1, h2⟩ := cAnds_ok S (md := md) (q := xs.all g) h.2 fun z => z
    exact ⟨ev_and ha h1 fun z => by simpa using hq z, ev_or ha h2 fun z => by simpa using hq z⟩
  | [], _, _, _, h, _ => by cases h
  | [_], [], _, _, h, _ => by cases h
  | [_], x :: y :: xs, _, _, h, _ => by simp [cAnds] at h
  | _ :: _ :: _, [], _, _, h, _ => by cases h
def cTs (t : FT) : List Expr → List Ex → Bool
  | [e], [x] => t e x
  | e :: es, x :: xs => t e x && cTs t es xs
  | _, _ => false
theorem cTs_ok (S : SoundT X C P W t g) {pos : Pos} : ∀ {es : List Expr} {xs : List Ex} {q : Bool}, cTs t es xs = true → (q = true → xs.all g = true) → PW X (.BoolOp .And es pos) (tT C P W q (evAnd P xs)) ∧ PW X (.BoolOp .Or es pos) (tT C P W q (evOr P xs))
  | [e], [x], q, h, hq => by
    have ha := tT_w (S _ _ h) (q2 := q) fun z => by simpa using hq z
    exact ⟨evt_and1 ha, evt_or1 ha⟩
  | e :: e2 :: es, x :: xs, q, h, hq => by
    have h : (t e x && cTs t (e2 :: es) xs) = true := by
      cases xs <;> exact h
    rw [Bool.and_eq_true] at h
    obtain ⟨h1, h2⟩ := cTs_ok S (q := xs.all g) h.2 fun z => z
    exact ⟨evt_and (S _ _ h.1) h1 fun z => by simpa using hq z, evt_or (S _ _ h.1) h2 fun z => by simpa using hq z⟩
  | [], _, _, h, _ => by cases h
  | [_], [], _, h, _ => by cases h
  | [_], x :: y :: xs, _, h, _ => by simp [cTs] at h
  | _ :: _ :: _, [], _, h, _ => by cases h
/-! argument lists -/
def cPl (f : FE) : List Expr → List Ex → Bool
  | [], [] => true
  | e :: es, x :: xs => ns e && f .plain e x && cPl f es xs
  | _, _ => false
theorem cPl_ok (S : SoundE X C P W f g) : ∀ {es : List Expr} {xs : List Ex} {q : Bool}, cPl f es xs = true → (q = true → xs.all g = true) → PA X es (tA C P W (List.replicate xs.length (.md .plain)) q xs)
  | [], [], q, _, _ => ea_nil
  | e :: es, x :: xs, q, h, hq => by
    simp only [cPl, Bool.and_eq_true] at h
    exact ea_cons (S _ _ _ h.1.2) (cPl_ok S (q := xs.all g) h.2 fun z => z) (star_ok h.1.1) (fun z => by cases z) fun z => by simpa using hq z
  | [], _ :: _, _, h, _ => by cases h
  | _ :: _, [], _, h, _ => by cases h
def cRd (f : FE) (g : Ex → Bool) : List Expr → List Ex → Bool
  | [], [] => true
  | e :: es, x :: xs => ns e && rd f e x (xs.all g) && cRd f g es xs
  | _, _ => false
theorem cRd_ok (S : SoundE X C P W f g) : ∀ {es : List Expr} {xs : List Ex} {q : Bool}, cRd f g es xs = true → (q = true → xs.all g = true) → ∃ ms : List Md, PA X es (tA C P W (ms.map Am.md) q xs)
  | [], [], q, _, _ => ⟨[], ea_nil⟩
  | e :: es, x :: xs, q, h, hq => by
    simp only [cRd, Bool.and_eq_true] at h
    obtain ⟨m, ha, la⟩ := rd_ok S h.1.2
    obtain ⟨ms, hr⟩ := cRd_ok S (q := xs.all g) h.2 fun z => z
    exact ⟨m :: ms, ea_cons ha hr (star_ok h.1.1) la fun z => by simpa using hq z⟩
  | [], _ :: _, _, h, _ => by cases h
  | _ :: _, [], _, h, _ => by cases h
theorem starEach_ns : ∀ {es : List Expr} {env : Env}, es.all ns = true → (starEach es env).any (·.1) = false ∧ (starEach es env).all (fun x => !x.1) = true
  | [], _, _ => ⟨rfl, rfl⟩
  | e :: es, env, h => by
    rw [List.all_cons, Bool.and_eq_true] at h
    rw [star_ok h.1]
    obtain ⟨h1, h2⟩ := starEach_ns (es := es) (env := env) h.2
    exact ⟨by simpa using h1, by simpa using h2⟩
theorem plain_ok {es : List Expr} {pos : Pos} {env : Env} (h : es.all ns = true) : (backTo pos (starEach es env)).any (·.1) = false := by
  have := (starEach_ns (env := env) h).1
  unfold backTo
  rw [List.any_map]
  exact this
theorem few_ok {es : List Expr} {pos : Pos} {env : Env} (h : es.all ns = true) (h2 : es.length < 30) : ((backTo pos (starEach es env)).all (fun x => !x.1) && (backToKw pos (keywordEach [] env)).all (fun x => x.1.isSome) && decide (es.length + ([] : List Keyword).length + (if ([] : List Keyword).isEmpty then 0 else 1) < 30)) = true := by
  have h3 := (starEach_ns (env := env) h).2
  have e1 : (backTo pos (starEach es env)).all (fun x => !x.1) = true := by unfold backTo; rw [List.all_map]; exact h3
  rw [e1]
  have e2 : (backToKw pos (keywordEach [] env)).all (fun x => x.1.isSome) = true := rfl
  rw [e2]
  simp [h2]
theorem cPl_ns : ∀ {es : List Expr} {xs : List Ex}, cPl f es xs = true → es.all ns = true
  | [], [], _ => rfl
  | e :: es, x :: xs, h => by
    simp only [cPl, Bool.and_eq_true] at h
    rw [List.all_cons, h.1.1, cPl_ns h.2]; rfl
  | [], _ :: _, h => by cases h
  | _ :: _, [], h => by cases h
theorem cRd_ns : ∀ {es : List Expr} {xs : List Ex}, cRd f g es xs = true → es.all ns = true
  | [], [], _ => rfl
  | e :: es, x :: xs, h => by
    simp only [cRd, Bool.and_eq_true] at h
    rw [List.all_cons, h.1.1, cRd_ns h.2]; rfl
  | [], _ :: _, h => by cases h
  | _ :: _, [], h => by cases h
/-! displays -/
def cTup (f : FE) (xs : List Ex) : Expr → Bool
  | .Tuple es _ _ => cPl f es xs
  | _ => false
theorem cTup_ok (S : SoundE X C P W f g) {xs : List Ex} (h : cTup f xs e = true) (hq : q = true → xs.all g = true) : PE X e (tE C P W md q (.tup xs)) := by
  unfold cTup at h
  split at h
  · exact ev_tup (cPl_ok S h hq)
  · cases h
def cLst (f : FE) (xs : List Ex) : Expr → Bool
  | .List es _ => cPl f es xs
  | _ => false
theorem cLst_ok (S : SoundE X C P W f g) {xs : List Ex} (h : cLst f xs e = true) (hq : q = true → xs.all g = true) : PE X e (tE C P W md q (.lst xs)) := by
  unfold cLst at h
  split at h
  · exact ev_lst (cPl_ok S h hq)
  · cases h
def cPrs (f : FE) : List (Option Expr) → List Expr → List Ex → Bool
  | [], [], [] => true
  | some k :: ks, v :: vs, xk :: xv :: xs => f .plain k xk && f .plain v xv && cPrs f ks vs xs
  | _, _, _ => false
theorem cPrs_ok (S : SoundE X C P W f g) : ∀ {ks : List (Option Expr)} {vs : List Expr} {xs : List Ex}, cPrs f ks vs xs = true → ∃ trs, Prs X C P W ks vs xs trs
  | [], [], [], _ => ⟨[], .nil⟩
  | some k :: ks, v :: vs, xk :: xv :: xs, h => by
    simp only [cPrs, Bool.and_eq_true] at h
    obtain ⟨trs, t⟩ := cPrs_ok S h.2
    exact ⟨_, .cons (S _ _ _ h.1.1) (S _ _ _ h.1.2) t⟩
  | [], [], _ :: _, h => by cases h
  | [], _ :: _, _, h => by cases h
  | none :: _, _, _, h => by simp [cPrs] at h
  | some _ :: _, [], _, h => by cases h
  | some _ :: _, _ :: _, [], h => by cases h
  | some _ :: _, _ :: _, [_], h => by cases h
def cDic (f : FE) (xs : List Ex) : Expr → Bool
  | .Dict [] [] _ => xs.isEmpty
  | .Dict (k :: ks) vs _ => cPrs f (k :: ks) vs xs && decide ((k :: ks).length ≤ 15)
  | _ => false
theorem cDic_ok (S : SoundE X C P W f g) {xs : List Ex} (h : cDic f xs e = true) (hq : q = true → xs.isEmpty = true) : PE X e (tE C P W md q (.dic xs)) := by
  unfold cDic at h
  split at h
  · have : xs = [] := by simpa using h
    subst this
    exact ev_dic0
  · rw [Bool.and_eq_true, decide_eq_true_eq] at h
    obtain ⟨trs, t⟩ := cPrs_ok S h.1
    refine tE_w (ev_dic t (by simp) h.2) fun z => ?_
    have : xs = [] := by simpa using hq z
    subst this
    cases t
  · cases h
/-! subscripts -/
def noSl : Expr → Bool
  | .Slice _ _ _ _ => false
  | _ => true
theorem noSl_ok {b : Expr} (h : noSl b = true) : PlainIx b := fun o i => by cases b <;> first | rfl | cases h
def isNew : Md → Bool
  | .new => true
  | _ => false
def cIdx (f : FE) (g : Ex → Bool) (md : Md) (xa xb : Ex) : Expr → Bool
  | .Subscript a b _ => !isNew md && noSl b && rd f a xa (g xb) && rd f b xb true
  | _ => false
theorem cIdx_ok (F : Fx Z C X P W) (S : SoundE X C P W f g) {xa xb : Ex} (h : cIdx f g md xa xb e = true) (hq : q = true → (g xa && g xb) = true) : PE X e (tE C P W md q (.idx xa xb)) := by
  unfold cIdx at h
  split at h
  · simp only [Bool.and_eq_true, Bool.not_eq_true'] at h
    obtain ⟨⟨⟨hm, hs⟩, h1⟩, h2⟩ := h
    obtain ⟨ma, ha, la⟩ := rd_ok S h1
    obtain ⟨mb, hb, _⟩ := rd_ok S h2
    exact ev_idx F.toFitC ha hb la (fun z => by simpa using hq z) (noSl_ok hs) fun z => by subst z; cases hm
  · cases h
def cPart (f : FE) (g : Ex → Bool) : Option Expr → Ex → Bool
  | none, .nil => true
  | some e, x => rd f e x true && g x
  | _, _ => false
theorem cPart_ok (S : SoundE X C P W f g) {o : Option Expr} (h : cPart f g o x = true) : PO X o (tO C P W true x) := by
  unfold cPart at h
  split at h
  · exact eo_none
  · rw [Bool.and_eq_true] at h
    obtain ⟨m, ha, _⟩ := rd_ok S h.1
    exact eo_some (tE_w ha fun _ => h.2)
  · cases h
def cSlc (f : FE) (g : Ex → Bool) (xa xl xh : Ex) : Expr → Bool
  | .Subscript a (.Slice lo hi none _) _ => rd f a xa true && cPart f g lo xl && cPart f g hi xh
  | _ => false
theorem cSlc_ok (F : Fx Z C X P W) (S : SoundE X C P W f g) {xa xl xh : Ex} (h : cSlc f g xa xl xh e = true) (hq : q = true → g xa = true) : PE X e (tE C P W md q (.slc xa xl xh)) := by
  unfold cSlc at h
  split at h
  · simp only [Bool.and_eq_true] at h
    obtain ⟨ma, ha, _⟩ := rd_ok S h.1.1
    exact ev_slc F.toFitC ha (cPart_ok S h.1.2) (cPart_ok S h.2) hq
  · cases h
/-! calls -/
def bfName : Bf → Str
  | .len => "len" | .list => "list" | .tuple => "tuple" | .dict => "dict" | .int => "int" | .str => "str" | .repr => "repr" | .sorted => "sorted" | .min => "min" | .max => "max" | .sum => "sum" | .all => "all" | .any => "any" | .abs => "abs"
theorem bf_boot : ∀ b : Bf, bootBuiltins (bfName b) = some (bfVal b) := by
  intro b; cases b <;> first | rfl | decide +kernel
theorem bf_kind : ∀ b : Bf, (∃ id, bfVal b = .builtin id) ∨ ∃ T, bfVal b = .type T := by
  intro b; cases b <;> first | exact .inl ⟨_, rfl⟩ | exact .inr ⟨_, rfl⟩
def cBlt (f : FE) (g : Ex → Bool) (Z : Sx) (b : Bf) (xs : List Ex) : Expr → Bool
  | .Call (.Name y _) (a :: es) [] _ => y == bfName b && bltOk Z y && cRd f g (a :: es) xs
  | _ => false
theorem cBlt_ok (F : Fx Z C X P W) (S : SoundE X C P W f g) {b : Bf} {xs : List Ex} (h : cBlt f g Z b xs e = true) (hq : q = true → xs.all g = true) : PE X e (tE C P W md q (.blt b xs)) := by
  unfold cBlt at h
  split at h
  · simp only [Bool.and_eq_true, beq_iff_eq] at h
    obtain ⟨⟨rfl, h1⟩, h2⟩ := h
    obtain ⟨k1, k2, k3, k4⟩ := blt_ok F h1
    obtain ⟨ms, ha⟩ := cRd_ok S (q := q) h2 hq
    have hn := cRd_ns h2
    rw [List.all_cons, Bool.and_eq_true] at hn
    rcases bf_kind b with ⟨id, hb⟩ | ⟨T, hb⟩
    · exact ev_bltB F.toFitC hb k1 k4 (bf_boot b) ha k3 k2 (star_ok hn.1) (plain_ok hn.2)
    · exact ev_bltT F.toFitC hb k1 k4 (bf_boot b) ha k3 k2 (star_ok hn.1) (plain_ok hn.2)
  · cases h
def cIsi (f : FE) (Z : Sx) (xa : Ex) (ts : List Ty) : Expr → Bool
  | .Call (.Name y _) [a, .Name tn _] [] _ => y == "isinstance" && bltOk Z y && bltOk Z tn && ns a && rd f a xa true && (match ts with | [t] => tn == PySem.Str.ofString (tyName t) | _ => false)
  | _ => false
theorem ty_boot : ∀ t : Ty, bootBuiltins (PySem.Str.ofString (tyName t)) = some (.type (tyName t)) := by
  intro t; cases t <;> first | rfl | decide +kernel
theorem cIsi_ok (F : Fx Z C X P W) (S : SoundE X C P W f g) {xa : Ex} {ts : List Ty} (h : cIsi f Z xa ts e = true) (hq : q = true → g xa = true) : PE X e (tE C P W md q (.isi xa ts)) := by
  unfold cIsi at h
  split at h
  · simp only [Bool.and_eq_true, beq_iff_eq] at h
    obtain ⟨⟨⟨⟨⟨rfl, h1⟩, h2⟩, h3⟩, h4⟩, h5⟩ := h
    split at h5
    · rename_i t
      simp only [beq_iff_eq] at h5
      subst h5
      obtain ⟨k1, k2, k3, k4⟩ := blt_ok F h1
      obtain ⟨l1, l2, l3, l4⟩ := blt_ok F h2
      obtain ⟨ma, ha, _⟩ := rd_ok S h4
      exact ev_isi F.toFitC (ty_boot t) k1 k4 l1 l4 l3 l2 (tE_w ha hq) (star_ok h3) (star_ok rfl) (plain_ok rfl)
    · cases h5
  · cases h
def cMth (f : FE) (g : Ex → Bool) (md : Md) (m : Mt) (xa : Ex) (xs : List Ex) : Expr → Bool
  | .Call (.Attribute o nm ap) (b :: es) [] pos => nm == mtName m && !isNew md && rd f o xa (xs.all g) && cPl f (b :: es) xs && ap.endLine == pos.line && decide ((b :: es).length < 30) && noCall0 o
  | _ => false
where noCall0 : Expr → Bool
  | .Call (.Name _ _) [] [] _ => false
  | _ => true
theorem base_ok {o : Expr} {nm : Str} {env : Env} {w : Sem Value} (h : cMth.noCall0 o = true) : attributeBase o nm env w = w := by
  unfold cMth.noCall0 at h
  unfold attributeBase
  split at h
  · cases h
  · rename_i hne
    split
    · rename_i id p pos
      exact absurd rfl (hne id p pos)
    · rfl
theorem cMth_ok (F : Fx Z C X P W) (S : SoundE X C P W f g) {m : Mt} {xa : Ex} {xs : List Ex} (h : cMth f g md m xa xs e = true) (hq : q = true → (g xa && xs.all g) = true) : PE X e (tE C P W md q (.mth m xa xs)) := by
  unfold cMth at h
  split at h
  · simp only [Bool.and_eq_true, beq_iff_eq, Bool.not_eq_true', decide_eq_true_eq] at h
    obtain ⟨⟨⟨⟨⟨⟨rfl, hm⟩, h1⟩, h2⟩, h3⟩, h4⟩, h5⟩ := h
    obtain ⟨ma, ha, la⟩ := rd_ok S h1
    have hn := cPl_ns h2
    have hn' := hn
    rw [List.all_cons, Bool.and_eq_true] at hn'
    refine ev_mth F.toFitC (by cases md <;> simp_all [isNew]) ha (cPl_ok S (q := xs.all g) h2 fun z => z) la (fun z => by simpa using hq z) (base_ok h5) (few_ok hn h4) ?_ (star_ok hn'.1) (plain_ok hn'.2)
    simpa using h3
  · cases h
def cIte (f : FE) (t : FT) (md : Md) (xc xa xb : Ex) : Expr → Bool
  | .IfExp c a b _ => t c xc && f md a xa && f md b xb
  | _ => false
theorem cIte_ok (S : SoundE X C P W f g) (T : SoundT X C P W t g) {xc xa xb : Ex} (h : cIte f t md xc xa xb e = true) (hq : q = true → (g xc && (g xa && g xb)) = true) : PE X e (tE C P W md q (.ite xc xa xb)) := by
  unfold cIte at h
  split at h
  · simp only [Bool.and_eq_true] at h
    exact ev_ite (qa := g xa && g xb) (T _ _ h.1.1) (tE_w (S _ _ _ h.1.2) fun z => by simp at z; exact z.1) (tE_w (S _ _ _ h.2) fun z => by simp at z; exact z.2) fun z => by simpa using hq z
  · cases h
end
end Mp

namespace Mp
open PySem PySem.Spec PyProof.Rows L2
section
variable {X : Cx} {C : Cb} {P : Px} {W : WX} {Z : Sx} {f : FE} {t : FT} {g : Ex → Bool} {e : Expr} {x : Ex} {q : Bool} {md : Md}
/-! ### own defs called -/
def varOk (Z : Sx) : Expr → Ex → Bool
  | .Name y _, .var i => nameOk Z y i
  | _, _ => false
def ownOk (Z : Sx) : Expr → Ex → Bool
  | .Name y _, .var i => nameOk Z y i && Z.own.contains i
  | _, _ => false
def cArg (f : FE) (Z : Sx) (r : Bool) : Pm → Expr → Ex → Bool
  | .plain, e, x => f .plain e x
  | .lv, e, x => r && (f .plain e x || varOk Z e x)
  | .io, e, x => ownOk Z e x
def cArgs (f : FE) (g : Ex → Bool) (Z : Sx) : List Pm → List Expr → List Ex → Bool
  | [], [], [] => true
  | p :: ps, e :: es, x :: xs => ns e && cArg f Z (xs.all g) p e x && cArgs f g Z ps es xs
  | _, _, _ => false
theorem cArgs_ok (F : Fx Z C X P W) (S : SoundE X C P W f g) : ∀ {ps : List Pm} {es : List Expr} {xs : List Ex} {q : Bool}, cArgs f g Z ps es xs = true → (q = true → xs.all g = true) → PA X es (tA C P W (ps.map amOf) q xs) ∧ es.all ns = true
  | [], [], [], q, _, _ => ⟨ea_nil, rfl⟩
  | p :: ps, e :: es, x :: xs, q, h, hq => by
    simp only [cArgs, Bool.and_eq_true] at h
    obtain ⟨⟨h1, h2⟩, h3⟩ := h
    obtain ⟨hr, hn⟩ := cArgs_ok F S (q := xs.all g) h3 fun z => z
    have hq' : q = true → g x = true ∧ xs.all g = true := fun z => by simpa using hq z
    refine ⟨?_, by rw [List.all_cons, h1, hn]; rfl⟩
    cases p with
    | plain => exact ea_cons (S _ _ _ h2) hr (star_ok h1) (fun z => by cases z) hq'
    | lv =>
      simp only [cArg, Bool.and_eq_true, Bool.or_eq_true] at h2
      obtain ⟨hx, h2⟩ := h2
      rcases h2 with h2 | h2
      · exact ea_lvP (S _ _ _ h2) hr (star_ok h1) hx hq'
      · unfold varOk at h2
        split at h2
        · obtain ⟨k1, k2, k3, k4⟩ := vis_ok F h2
          exact ea_lv k1 k2 k3 k4 hr (star_ok h1) hx
        · cases h2
    | io =>
      simp only [cArg] at h2
      unfold ownOk at h2
      split at h2
      · rw [Bool.and_eq_true, List.contains_iff_mem] at h2
        obtain ⟨k1, k2, k3, k4⟩ := vis_ok F h2.1
        exact ea_io k1 k2 k3 k4 ((F.own _).mpr h2.2) (pa_imp hr fun σ H Q ⟨O, B, en, S', gg⟩ => ⟨O, B, en, S', gg.mono fun ds e' _ k vs H' k1 s1 S1 r1 => k vs H' k1 (fun z => s1 (hq' z).2) S1 r1⟩) (star_ok h1)
      · cases h2
  | [], [], _ :: _, _, h, _ => by cases h
  | [], _ :: _, _, _, h, _ => by cases h
  | _ :: _, [], _, _, h, _ => by cases h
  | _ :: _, _ :: _, [], _, h, _ => by cases h
def isPl : Pm → Bool
  | .plain => true
  | _ => false
def apart : Option Ex → Option Ex → Bool
  | some (.var i), some (.var j) => i != j
  | _, _ => true
def varIn (own : List Nat) : Option Ex → Bool
  | some (.var i) => own.contains i
  | _ => true
def cIo (own : List Nat) (df : Df) (xs : List Ex) : Bool := decide df.io.Nodup && df.io.all fun p => decide (p < df.ps) && varIn own xs[p]? && (List.range df.ps).all fun p' => p' == p || isPl (df.pm p') || apart xs[p]? xs[p']?
theorem cIo_ok (F : Fx Z C X P W) {df : Df} {xs : List Ex} (h : cIo Z.own df xs = true) : IoOk C.own df xs := by
  unfold cIo at h
  rw [Bool.and_eq_true, decide_eq_true_eq, List.all_eq_true] at h
  obtain ⟨h0, h⟩ := h
  refine ⟨h0, fun p hp => ?_, fun p hp p' hp' hne hpl i hi hi' => ?_⟩
  · have := h p hp
    simp only [Bool.and_eq_true, decide_eq_true_eq] at this
    refine ⟨this.1.1, fun i hi => ?_⟩
    have h2 := this.1.2
    rw [hi] at h2
    exact (F.own i).mpr (List.contains_iff_mem.mp h2)
  · have := h p hp
    simp only [Bool.and_eq_true, List.all_eq_true] at this
    have h2 := this.2 p' (List.mem_range.mpr hp')
    rw [hi, hi'] at h2
    simp only [Bool.or_eq_true, beq_iff_eq] at h2
    rcases h2 with (h2 | h2) | h2
    · exact hne h2
    · apply hpl
      cases hpm : df.pm p' with
      | plain => rfl
      | lv => rw [hpm] at h2; cases h2
      | io => rw [hpm] at h2; cases h2
    · simp [apart] at h2
def cCall (f : FE) (g : Ex → Bool) (Z : Sx) (md : Md) (k : Nat) (xs : List Ex) : Expr → Bool
  | .Call (.Name y _) (a :: es) [] _ => glOk Z y && Z.fns.contains (y, k) && (match Z.df k with
    | some df => cArgs f g Z ((List.range df.ps).map df.pm) (a :: es) xs && cIo Z.own df xs && (!isNew md || df.fr)
    | none => false)
  | _ => false
theorem cCall_ok (F : Fx Z C X P W) (S : SoundE X C P W f g) {k : Nat} {xs : List Ex} (h : cCall f g Z md k xs e = true) (hq : q = true → ((match Z.df k with | some d => d.io.isEmpty | none => false) && xs.all g) = true) : PE X e (tE C P W md q (.call k xs)) := by
  unfold cCall at h
  split at h
  · simp only [Bool.and_eq_true, List.contains_iff_mem] at h
    obtain ⟨⟨h1, h2⟩, h3⟩ := h
    split at h3
    · rename_i df hdf
      simp only [Bool.and_eq_true] at h3
      obtain ⟨⟨h4, h5⟩, h6⟩ := h3
      obtain ⟨k1, k2, k3⟩ := gl_ok F h1
      obtain ⟨hio, a, fd, ps, kk, z1, z2, z3, z4, z5⟩ := F.fns _ h2 df hdf
      obtain ⟨ha, hn⟩ := cArgs_ok F S (q := xs.all g) h4 fun z => z
      rw [List.all_cons, Bool.and_eq_true] at hn
      rw [List.map_map] at ha
      refine pe_imp (pe_fn z2 z3 F.gds k1 z1 z4 z5 F.tk ha k2 (star_ok hn.1) (plain_ok hn.2)) (rd_call (qa := xs.all g) hio (cIo_ok F h5) (fun z => ?_) fun z => ?_)
      · have := hq z
        rw [hdf] at this
        simp only [Bool.and_eq_true, List.isEmpty_iff] at this
        exact ⟨this.2, this.1⟩
      · subst z; simpa [isNew] using h6
    · cases h3
  · cases h
/-! ### targets -/
/-- a name that can be stored -/
def stoOk (Z : Sx) (y : Str) : Bool := Z.sc.names.lookup y == some .local || (Z.sc.names.lookup y == some .cell && Z.cel y)
theorem sto_ok (F : Fx Z C X P W) {y : Str} (h : stoOk Z y = true) : Loc X.env.scope y ∧ (X.fn y = true ∨ X.env.scope.names.lookup y = some .local) := by
  unfold stoOk at h
  simp only [Bool.or_eq_true, Bool.and_eq_true, beq_iff_eq] at h
  unfold L2.Loc
  rw [F.scp]
  rcases h with h | ⟨h1, h2⟩
  · exact ⟨.inl h, .inr h⟩
  · exact ⟨.inr h1, .inl (F.cel y h2)⟩
def locOk (Z : Sx) (y : Str) (i : Nat) : Bool := Z.N[i]? == some y && stoOk Z y && !Z.own.contains i && !Z.lnt.contains i
theorem loc_ok (F : Fx Z C X P W) {y : Str} {i : Nat} (h : locOk Z y i = true) : X.N[i]? = some y ∧ (Loc X.env.scope y ∧ (X.fn y = true ∨ X.env.scope.names.lookup y = some .local)) ∧ i ∉ C.own ∧ ∀ p ∈ C.lnt, p.1 ≠ i := by
  unfold locOk at h
  simp only [Bool.and_eq_true, beq_iff_eq, Bool.not_eq_true', List.contains_eq_mem, decide_eq_false_iff_not] at h
  obtain ⟨⟨⟨h1, h2⟩, h3⟩, h4⟩ := h
  exact ⟨by rw [F.nm]; exact h1, sto_ok F h2, fun z => h3 ((F.own i).mp z), fun p hp z => h4 (by rw [← z]; exact F.lnt p hp)⟩
def cNms (Z : Sx) : List Expr → List Nat → Bool
  | [], [] => true
  | .Name y _ :: es, i :: is => locOk Z y i && cNms Z es is
  | _, _ => false
theorem cNms_ok (F : Fx Z C X P W) : ∀ {es : List Expr} {is : List Nat}, cNms Z es is = true → GNm X C es is ∧ (assignEach es X.env).length = is.length ∧ (assignEach es X.env).findIdx? (·.1) = none
  | [], [], _ => ⟨.nil, rfl, rfl⟩
  | .Name y p :: es, i :: is, h => by
    simp only [cNms, Bool.and_eq_true] at h
    obtain ⟨h1, h2, h3, h4⟩ := loc_ok F h.1
    obtain ⟨k1, k2, k3⟩ := cNms_ok F h.2
    refine ⟨.cons h1 h2.1 h2.2 h3 h4 rfl k1, by simp [assignEach, k2], ?_⟩
    show List.findIdx? (·.1) ((false, PySem.assign (.Name y p) X.env) :: assignEach es X.env) = none
    rw [List.findIdx?_cons, k3]; rfl
  | [], _ :: _, h => by cases h
  | e :: _, [], h => by cases e <;> cases h
  | .BoolOp .. :: _, _ :: _, h | .NamedExpr .. :: _, _ :: _, h | .BinOp .. :: _, _ :: _, h | .UnaryOp .. :: _, _ :: _, h | .Lambda .. :: _, _ :: _, h | .IfExp .. :: _, _ :: _, h | .Dict .. :: _, _ :: _, h | .Set .. :: _, _ :: _, h
  | .ListComp .. :: _, _ :: _, h | .SetComp .. :: _, _ :: _, h | .DictComp .. :: _, _ :: _, h | .GeneratorExp .. :: _, _ :: _, h | .Await .. :: _, _ :: _, h | .Yield .. :: _, _ :: _, h | .YieldFrom .. :: _, _ :: _, h | .Compare .. :: _, _ :: _, h
  | .Call .. :: _, _ :: _, h | .FormattedValue .. :: _, _ :: _, h | .JoinedStr .. :: _, _ :: _, h | .Constant .. :: _, _ :: _, h | .Attribute .. :: _, _ :: _, h | .Subscript .. :: _, _ :: _, h | .Starred .. :: _, _ :: _, h | .List .. :: _, _ :: _, h
  | .Tuple .. :: _, _ :: _, h | .Slice .. :: _, _ :: _, h => by simp [cNms] at h
def cTg (Z : Sx) : Expr → Tg → Bool
  | .Name y _, .nm i => locOk Z y i
  | .Tuple es _ _, .tp is => cNms Z es is
  | _, _ => false
theorem cTg_ok (F : Fx Z C X P W) {tg : Tg} (h : cTg Z e tg = true) : PG X e (tG C tg) := by
  unfold cTg at h
  split at h
  · obtain ⟨h1, h2, h3, h4⟩ := loc_ok F h
    exact eg_name F.nod h1 h2.1 h2.2 h3 h4
  · obtain ⟨k1, k2, k3⟩ := cNms_ok F h
    exact eg_tup F.toFitC F.nod k1 k2 k3
  · cases h
/-! ### what is walked -/
def isTupE : Expr → Bool
  | .Tuple _ _ _ => true
  | _ => false
def cIt (f : FE) (g : Ex → Bool) (Z : Sx) (tg : Expr) (it : Expr) : IK → List Ex → Bool
  | .seq, [x] => f .plain it x
  | .rng, [x] => match it with
    | .Call (.Name y _) [a] [] _ => y == "range" && bltOk Z y && cRd f g [a] [x]
    | _ => false
  | .rng, [x, y] => match it with
    | .Call (.Name n _) [a, b] [] _ => n == "range" && bltOk Z n && cRd f g [a, b] [x, y]
    | _ => false
  | .enum, [x] => match it with
    | .Call (.Name y _) [a] [] _ => y == "enumerate" && bltOk Z y && isTupE tg && cPl f [a] [x]
    | _ => false
  | _, _ => false
theorem cIt_ok (F : Fx Z C X P W) (S : SoundE X C P W f g) {tg it : Expr} {k : IK} {xs : List Ex} (h : cIt f g Z tg it k xs = true) (hq : q = true → xs.all g = true) : PI X tg it (tI C P W k q xs) := by
  unfold cIt at h
  split at h
  · exact ei_seq F.toFitC (tE_w (S _ _ _ h) fun z => by simpa using hq z)
  · split at h
    · simp only [Bool.and_eq_true, beq_iff_eq] at h
      obtain ⟨⟨rfl, h1⟩, h2⟩ := h
      obtain ⟨k1, k2, k3, k4⟩ := blt_ok F h1
      obtain ⟨ms, ha⟩ := cRd_ok S (q := q) h2 hq
      have hn := cRd_ns h2
      simp only [List.all_cons, Bool.and_eq_true] at hn
      exact ei_rng1 k1 k4 ha (star_ok hn.1)
    · cases h
  · split at h
    · simp only [Bool.and_eq_true, beq_iff_eq] at h
      obtain ⟨⟨rfl, h1⟩, h2⟩ := h
      obtain ⟨k1, k2, k3, k4⟩ := blt_ok F h1
      obtain ⟨ms, ha⟩ := cRd_ok S (q := q) h2 hq
      have hn := cRd_ns h2
      simp only [List.all_cons, Bool.and_eq_true] at hn
      exact ei_rng2 k1 k4 ha (by rw [star_ok hn.1, star_ok hn.2.1]; rfl) (star_ok hn.2.1)
    · cases h
  · split at h
    · simp only [Bool.and_eq_true, beq_iff_eq] at h
      obtain ⟨⟨⟨rfl, h1⟩, h3⟩, h2⟩ := h
      obtain ⟨k1, k2, k3, k4⟩ := blt_ok F h1
      have ha := cPl_ok S (q := q) h2 hq
      have hn := cPl_ns h2
      simp only [List.all_cons, Bool.and_eq_true] at hn
      unfold isTupE at h3
      split at h3
      · exact ei_enum F.toFitC k1 k4 ha (star_ok hn.1)
      · cases h3
    · cases h
  · cases h
def noSet : Expr → Bool
  | .Set _ _ _ => false
  | _ => true
theorem noSet_ok {it : Expr} {env : Env} (h : noSet it = true) : ∀ x, foldedSetIterable it env x = pure x := fun x => by cases it <;> first | rfl | cases h
/-! ### comprehensions -/
def relab (scope sc : Scope) : Scope := { scope with names := scope.names.map fun (n, k) => if (k == .free && sc.kind == .function && sc.names.lookup n == some .cell) then (n, .cell) else (n, k) }
def Sx.blk (Z : Sx) (scope : Scope) : Sx := { Z with sc := relab scope Z.sc, cel := fun x => scope.names.lookup x == some .cell }
theorem noneTaken {X : Cx} : Takes X (fun _ _ _ _ => False) := by
  intro u s' h
  obtain ⟨_, _, _, _, _, _, _, _, _, _, _, _, _, _, _, _, w⟩ := h
  exact w.elim
theorem Fx.blk (F : Fx Z C X P W) (scope : Scope) (s : Shared) (H : Hp) (L : Addr) (cl : List (Str × Addr)) (fp : List Addr) : Fx (Z.blk scope) C (X.blk s H scope (compEnvC scope cl L X.env) fp) P (fun _ _ _ _ => False) where
  calm := F.calm
  deep := F.deep
  gds := F.gds
  hK := F.hK
  hw := F.hw
  nm := F.nm
  nod := F.nod
  scp := by
    show relabel scope X.env = relab scope Z.sc
    unfold relabel relab Env.kindOf
    rw [F.scp]
  own := F.own
  lnt := F.lnt
  io := F.io
  blt := F.blt
  cons := F.cons
  fns := fun p hp df hdf => let ⟨h1, h2⟩ := F.fns p hp df hdf; ⟨h1, h2⟩
  tk := noneTaken
  cel := fun y h => h
def ownP (Z : Sx) (own : List Nat) : List (Str × Nat) := own.map fun i => ((Z.N[i]?).getD "", i)
def cIfs (t : FT) : List Expr → List Ex → Bool
  | [], [] => true
  | [e], [x] => t e x
  | _, _ => false
theorem cIfs_ok (T : SoundT X C P W t g) {ifs : List Expr} {xs : List Ex} (h : cIfs t ifs xs = true) (hq : q = true → xs.all g = true) : PTs X ifs (tT C P W q (evAnd P xs)) := by
  unfold cIfs at h
  split at h
  · exact ept_nil
  · exact ept_one (tT_w (T _ _ h) fun z => by simpa using hq z)
  · cases h
def cLc (f : Sx → FE) (t : Sx → FT) (g : Ex → Bool) (Z : Sx) (xe : Ex) (tg : Tg) (k : IK) (its xifs : List Ex) (own : List Nat) : Expr → Bool
  | .ListComp elt [⟨tgE, iter, ifs, 0⟩] scope _ => cIt (f Z) g Z tgE iter k its && noSet iter && blkC Z.N Z.sc scope (ownP Z own) && cTg (Z.blk scope) tgE tg && cIfs (t (Z.blk scope)) ifs xifs && f (Z.blk scope) .plain elt xe &&
      own.all (fun i => !Z.own.contains i && !Z.lnt.contains i) && (tgs tg).all fun i => own.contains i
  | _ => false
/-- a comprehension's parts -/
theorem cLc_parts {ff : Sx → FE} {tt : Sx → FT} (F : Fx Z C X P W) (S0 : SoundE X C P W (ff Z) g) (SB : ∀ {scope X' W'}, Fx (Z.blk scope) C X' P W' → SoundE X' C P W' (ff (Z.blk scope)) g ∧ SoundT X' C P W' (tt (Z.blk scope)) g) {xe : Ex} {tg : Tg} {k : IK} {its xifs : List Ex} {own : List Nat}
    {elt tgE iter : Expr} {ifs : List Expr} {scope : Scope} {pos : Pos} (h : cLc ff tt g Z xe tg k its xifs own (.ListComp elt [⟨tgE, iter, ifs, 0⟩] scope pos) = true) :
    PI X tgE iter (tI C P W k (its.all g) its) ∧ BlkOk X.N X.env.scope scope (ownP Z own) ∧ (ownP Z own).map (·.2) = own ∧
    (∀ (s : Shared) (H : Hp) (L : Addr) (cl : List (Str × Addr)) (fp : List Addr), PG (X.blk s H scope (compEnvC scope cl L X.env) fp) tgE (tG C tg)) ∧
    (∀ (s : Shared) (H : Hp) (L : Addr) (cl : List (Str × Addr)) (fp : List Addr), PTs (X.blk s H scope (compEnvC scope cl L X.env) fp) ifs (tT C P (fun _ _ _ _ => False) (xifs.all g) (evAnd P xifs))) ∧
    (∀ (s : Shared) (H : Hp) (L : Addr) (cl : List (Str × Addr)) (fp : List Addr), PE (X.blk s H scope (compEnvC scope cl L X.env) fp) elt (tE C P (fun _ _ _ _ => False) .plain (g xe) xe)) ∧
    (∀ x, foldedSetIterable iter X.env x = pure x) ∧ (∀ i ∈ own, i ∉ C.own) ∧ (∀ p ∈ C.lnt, p.1 ∉ own) ∧ ∀ i ∈ tgs tg, i ∈ own := by
  unfold cLc at h
  simp only [Bool.and_eq_true, List.all_eq_true, Bool.not_eq_true', List.contains_eq_mem, decide_eq_false_iff_not, decide_eq_true_eq] at h
  obtain ⟨⟨⟨⟨⟨⟨⟨h1, h2⟩, h3⟩, h4⟩, h5⟩, h6⟩, h7⟩, h8⟩ := h
  exact ⟨cIt_ok F S0 h1 fun z => z, by rw [F.nm, F.scp]; exact blkOk_by h3, by unfold ownP; rw [List.map_map]; exact List.map_id' own, fun s H L cl fp => cTg_ok (F.blk scope s H L cl fp) h4,
    fun s H L cl fp => cIfs_ok (SB (F.blk scope s H L cl fp)).2 h5 fun z => z, fun s H L cl fp => (SB (F.blk scope s H L cl fp)).1 _ _ _ h6, noSet_ok h2, fun i hi z => (h7 i hi).1 ((F.own i).mp z), fun p hp z => (h7 _ z).2 (F.lnt p hp), h8⟩
theorem cLc_ok {ff : Sx → FE} {tt : Sx → FT} (F : Fx Z C X P W) (S0 : SoundE X C P W (ff Z) g) (SB : ∀ {scope X' W'}, Fx (Z.blk scope) C X' P W' → SoundE X' C P W' (ff (Z.blk scope)) g ∧ SoundT X' C P W' (tt (Z.blk scope)) g) {xe : Ex} {tg : Tg} {k : IK} {its xifs : List Ex} {own : List Nat} (h : cLc ff tt g Z xe tg k its xifs own e = true)
    (hq : q = true → (g xe && (its.all g && xifs.all g)) = true) : PE X e (tE C P W md q (.lc xe tg k its xifs own)) := by
  have h' := h
  unfold cLc at h'
  split at h'
  · obtain ⟨p1, p2, p3, p4, p5, p6, p7, p8, p9, p10⟩ := cLc_parts F S0 SB h
    refine ev_lc (q := its.all g) (qt := xifs.all g) (qe := g xe) F.toFitC F.nod p1 p2 p3 p4 p5 p6 p7 p8 p9 p10 fun z => ?_
    have := hq z
    simp only [Bool.and_eq_true] at this
    exact ⟨this.2.1, this.2.2, this.1⟩
  · cases h'
end
/-! ### the whole check -/
def okT : Expr → Bool
  | .Name _ _ | .Call _ _ _ _ | .Subscript _ _ _ | .Constant _ _ _ => true
  | _ => false
theorem okT_ok {e : Expr} {env : Env} (h : okT e = true) : ∀ whole, isTrue e env whole = (do let v ← whole; standAt e.pos; holding [v] (truthy v)) := fun w => by
  cases e <;> first | rfl | cases h
def mE : Nat → Sx → Option Md → Expr → Ex → Bool
  | 0, _, _, _, _ => false
  | n + 1, Z, some md, e, x =>
    let f : FE := fun md e x => mE n Z (some md) e x
    let t : FT := fun e x => mE n Z none e x
    let g := nq Z.df n
    match x with
    | .var i => cVar Z i md e
    | .lit d => cLit d e
    | .glob k => cGlob Z k md e
    | .tup xs => cTup f xs e
    | .lst xs => cLst f xs e
    | .dic xs => cDic f xs e
    | .bin o a b => cBin f g o a b e
    | .neg a => cNeg f a e
    | .cmp o a b => cCmp f g o a b e
    | .chn o o' a b c => cChn f g o o' a b c e
    | .and xs => match e with
      | .BoolOp .And es _ => cAnds f es xs
      | _ => false
    | .or xs => match e with
      | .BoolOp .Or es _ => cAnds f es xs
      | _ => false
    | .not a => cNot f a e
    | .ite c a b => cIte f t md c a b e
    | .idx a b => cIdx f g md a b e
    | .slc a l h => cSlc f g a l h e
    | .nil => false
    | .call k xs => cCall f g Z md k xs e
    | .blt b xs => cBlt f g Z b xs e
    | .mth m a xs => cMth f g md m a xs e
    | .isi a ts => cIsi f Z a ts e
    | .lc xe tg k its ifs own => cLc (fun Z md e x => mE n Z (some md) e x) (fun Z e x => mE n Z none e x) g Z xe tg k its ifs own e
    | .pop _ => false
  | n + 1, Z, none, e, x =>
    let f : FE := fun md e x => mE n Z (some md) e x
    let t : FT := fun e x => mE n Z none e x
    let g := nq Z.df n
    match x with
    | .cmp o a b => cCmp f g o a b e
    | .chn o o' a b c => cChn f g o o' a b c e
    | .and xs => match e with
      | .BoolOp .And es _ => cTs t es xs
      | _ => false
    | .or xs => match e with
      | .BoolOp .Or es _ => cTs t es xs
      | _ => false
    | .not a => match e with
      | .UnaryOp .Not b _ => t b a
      | _ => false
    | x => okT e && f .plain e x && (!nq Z.df (n + 1) x || nq Z.df n x)
theorem mE_ok : ∀ (n : Nat) {Z : Sx} {C : Cb} {X : Cx} {P : Px} {W : WX}, Fx Z C X P W → SoundE X C P W (fun md e x => mE n Z (some md) e x) (nq Z.df n) ∧ SoundT X C P W (fun e x => mE n Z none e x) (nq Z.df n)
  | 0, Z, C, X, P, W, F => ⟨fun md e x h => by simp [mE] at h, fun e x h => by simp [mE] at h⟩
  | n + 1, Z, C, X, P, W, F => by
    obtain ⟨S, T⟩ := mE_ok n F
    have SB : ∀ {scope X' W'}, Fx (Z.blk scope) C X' P W' → SoundE X' C P W' (fun md e x => mE n (Z.blk scope) (some md) e x) (nq Z.df n) ∧ SoundT X' C P W' (fun e x => mE n (Z.blk scope) none e x) (nq Z.df n) := fun F' => mE_ok n F'
    have SE : SoundE X C P W (fun md e x => mE (n + 1) Z (some md) e x) (nq Z.df (n + 1)) := fun md e x h => by
      simp only [mE] at h
      cases x with
      | var i => exact cVar_ok F h
      | lit d => exact cLit_ok h
      | glob k => exact cGlob_ok F h
      | tup xs => exact cTup_ok S h fun z => z
      | lst xs => exact cLst_ok S h fun z => z
      | dic xs => exact cDic_ok S h fun z => z
      | bin o a b => exact cBin_ok F S h fun z => z
      | neg a => exact cNeg_ok S h fun z => z
      | cmp o a b => exact (cCmp_ok F S h fun z => z).1
      | chn o o' a b c => exact (cChn_ok F S h fun z => z).1
      | and xs =>
        simp only at h
        split at h
        · exact pe_imp (cAnds_ok S (md := md) (q := nq Z.df (n + 1) (.and xs)) h fun z => z).1 fun σ H Q z => by simpa only [tE, tV, ev] using z
        · cases h
      | or xs =>
        simp only at h
        split at h
        · exact pe_imp (cAnds_ok S (md := md) (q := nq Z.df (n + 1) (.or xs)) h fun z => z).2 fun σ H Q z => by simpa only [tE, tV, ev] using z
        · cases h
      | not a => exact cNot_ok S h fun z => z
      | ite c a b => exact cIte_ok S T h fun z => z
      | idx a b => exact cIdx_ok F S h fun z => z
      | slc a l hh => exact cSlc_ok F S h fun z => z
      | nil => cases h
      | call k xs => exact cCall_ok F S h fun z => z
      | blt b xs => exact cBlt_ok F S h fun z => z
      | mth m a xs => exact cMth_ok F S h fun z => z
      | isi a ts => exact cIsi_ok F S h fun z => z
      | lc xe tg k its ifs own => exact cLc_ok F S SB h fun z => z
      | pop i => cases h
    refine ⟨SE, fun e x h => ?_⟩
    have plain : ∀ {e : Expr} {x : Ex}, (okT e && mE n Z (some .plain) e x && (!nq Z.df (n + 1) x || nq Z.df n x)) = true → PT X e (tT C P W (nq Z.df (n + 1) x) (ev P x)) := fun {e x} h => by
      simp only [Bool.and_eq_true, Bool.or_eq_true, Bool.not_eq_true'] at h
      refine tT_w (pt_of (S _ _ _ h.1.2) (okT_ok h.1.1)) fun z => ?_
      rcases h.2 with w | w
      · rw [w] at z; cases z
      · exact w
    simp only [mE] at h
    cases x with
    | cmp o a b => exact (cCmp_ok (md := .plain) F S h fun z => z).2
    | chn o o' a b c => exact (cChn_ok (md := .plain) F S h fun z => z).2
    | and xs =>
      simp only at h
      split at h
      · refine pt_imp (cTs_ok T (q := nq Z.df (n + 1) (.and xs)) h fun z => z).1.pt fun σ H Q z => by simpa only [tT, ev] using z
      · cases h
    | or xs =>
      simp only at h
      split at h
      · refine pt_imp (cTs_ok T (q := nq Z.df (n + 1) (.or xs)) h fun z => z).2.pt fun σ H Q z => by simpa only [tT, ev] using z
      · cases h
    | not a =>
      simp only at h
      split at h
      · exact evt_not (T _ _ h)
      · cases h
    | var i => exact plain h
    | lit d => exact plain h
    | glob k => exact plain h
    | tup xs => exact plain h
    | lst xs => exact plain h
    | dic xs => exact plain h
    | bin o a b => exact plain h
    | neg a => exact plain h
    | ite c a b => exact plain h
    | idx a b => exact plain h
    | slc a l hh => exact plain h
    | nil => exact plain h
    | call k xs => exact plain h
    | blt b xs => exact plain h
    | mth m a xs => exact plain h
    | isi a ts => exact plain h
    | lc xe tg k its ifs own => exact plain h
    | pop i => exact plain h
end Mp

namespace Mp
open PySem PySem.Spec PyProof.Rows L2
structure FxS (Z : Sx) (C : Cb) (X : Cx) (P : Px) (W : WX) : Prop extends Fx Z C X P W where
  pas : PassesOwn (model X.prog X.w) X.A X.env X.xe
  io2 : ∀ i ∈ Z.io, i ∈ C.io.map (·.1)
  knd : X.env.scope.kind = .function
def Sx.rel (Z : Sx) : Sx := { Z with own := Z.own.filter fun i => Z.io.contains i }
section
variable {X : Cx} {C : Cb} {P : Px} {W : WX} {Z : Sx} {f : FE} {t : FT} {g : Ex → Bool} {e : Expr} {x : Ex} {q fr : Bool} {md : Md} {s : Stmt}
theorem FxS.rel (F : FxS Z C X P W) : Fx Z.rel C.rel X P W where
  calm := F.calm
  deep := F.deep
  gds := F.gds
  hK := F.hK
  hw := F.hw
  nm := F.nm
  nod := F.nod
  scp := F.scp
  own := fun i => by
    have h1 := F.own i
    have h2 : (C.io.map (·.1)).contains i = true ↔ Z.io.contains i = true := by
      rw [List.contains_iff_mem, List.contains_iff_mem]
      exact ⟨fun z => by obtain ⟨p, hp, e⟩ := List.mem_map.mp z; rw [← e]; exact F.io p hp, F.io2 i⟩
    show i ∈ C.own.filter _ ↔ i ∈ Z.own.filter _
    rw [List.mem_filter, List.mem_filter, h1]
    exact and_congr_right fun _ => h2
  lnt := F.lnt
  io := F.io
  blt := F.blt
  cons := F.cons
  fns := fun p hp df hdf => let ⟨h1, h2⟩ := F.fns p hp df hdf; ⟨h1, h2⟩
  tk := F.tk
  cel := F.cel
def SoundS (X : Cx) (C : Cb) (P : Px) (W : WX) (fr : Bool) (m : Stmt → St → Bool) : Prop := ∀ s x, m s x = true → PS X s (tS C W fr (Mp.exec P x))
def cSs (m : Stmt → St → Bool) : List Stmt → List St → Bool
  | [], [] => true
  | s :: ss, x :: xs => m s x && cSs m ss xs
  | _, _ => false
theorem cSs_ok {m : Stmt → St → Bool} (S : SoundS X C P W fr m) : ∀ {ss : List Stmt} {xs : List St}, cSs m ss xs = true → PSs X ss (tS C W fr (execs P xs))
  | [], [], _ => es_nil
  | s :: ss, x :: xs, h => by
    simp only [cSs, Bool.and_eq_true] at h
    exact es_cons (S _ _ h.1) (cSs_ok S h.2)
  | [], _ :: _, h => by cases h
  | _ :: _, [], h => by cases h
/-! ### stores -/
def noComp : Expr → Bool
  | .ListComp _ _ _ _ | .SetComp _ _ _ _ | .DictComp _ _ _ _ _ => false
  | _ => true
theorem sw_ok {e : Expr} {tg : Option Expr} {l : Nat} {env : Env} (h : noComp e = true) : swapsWith e tg l env = pure false := by cases e <;> first | rfl | cases h
def noTupE : Expr → Bool
  | .Tuple _ _ _ => false
  | _ => true
theorem sws_ok {tg e : Expr} {l : Nat} {env : Env} (h : noComp e = true) : swapsWithSole [tg] e l env = pure false := by
  unfold swapsWithSole
  exact sw_ok h
theorem st_ok {tg e : Expr} {env : Env} (h : noTupE e = true) : swappedStores [tg] e env = pure none := by
  unfold swappedStores
  cases e <;> first | (cases tg <;> rfl) | cases h
theorem st_ok2 {tg e : Expr} {env : Env} (h : ∀ es k p, tg ≠ .Tuple es k p) (h2 : ∀ es p, tg ≠ .List es p) : swappedStores [tg] e env = pure none := by
  unfold swappedStores
  cases tg <;> first | rfl | exact absurd rfl (h _ _ _) | exact absurd rfl (h2 _ _)
def ownSt (Z : Sx) (y : Str) (i : Nat) : Bool := Z.N[i]? == some y && stoOk Z y && Z.own.contains i && !Z.io.contains i
theorem own_ok (F : Fx Z C X P W) {y : Str} {i : Nat} (h : ownSt Z y i = true) : X.N[i]? = some y ∧ (Loc X.env.scope y ∧ (X.fn y = true ∨ X.env.scope.names.lookup y = some .local)) ∧ i ∈ C.own ∧ ∀ p ∈ C.io, p.1 ≠ i := by
  unfold ownSt at h
  simp only [Bool.and_eq_true, beq_iff_eq, Bool.not_eq_true', List.contains_eq_mem, decide_eq_false_iff_not, decide_eq_true_eq] at h
  obtain ⟨⟨⟨h1, h2⟩, h3⟩, h4⟩ := h
  exact ⟨by rw [F.nm]; exact h1, sto_ok F h2, (F.own i).mpr h3, fun p hp z => h4 (by rw [← z]; exact F.io p hp)⟩
/-- no plain local: nothing is put at its place beside -/
def notLoc (Z : Sx) (y : Str) : Bool := !(Z.sc.names.lookup y == some .local)
theorem sw_cell (F : Fx Z C X P W) {y : Str} {py : Pos} {l : Nat} (h : notLoc Z y = true) : swapsWith e (some (.Name y py)) l X.env = pure false := by
  have h : (X.env.kindOf y == some .local) = false := by
    unfold notLoc at h
    show (X.env.scope.names.lookup y == some .local) = false
    rw [F.scp]
    simpa using h
  cases e <;> first | rfl | (unfold swapsWith; simp only [h, Bool.and_false, Bool.false_and]; try rfl)
def cSet (f : FE) (Z : Sx) (i : Nat) (xa : Ex) : Stmt → Bool
  | .Assign [.Name y _] a _ => (noComp a || notLoc Z y) && ((locOk Z y i && f .plain a xa) || (ownSt Z y i && f .new a xa))
  | _ => false
theorem cSet_ok (F : Fx Z C X P W) (S : SoundE X C P W f g) {i : Nat} {xa : Ex} (h : cSet f Z i xa s = true) : PS X s (tS C W fr (Mp.exec P (.set i xa))) := by
  unfold cSet at h
  split at h
  · simp only [Bool.and_eq_true, Bool.or_eq_true] at h
    obtain ⟨h0, h⟩ := h
    have sw : ∀ {py : Pos} {l : Nat}, swapsWith _ (some (.Name _ py)) l X.env = pure false := fun {py l} => h0.elim sw_ok (sw_cell F)
    rcases h with ⟨h1, h2⟩ | ⟨h1, h2⟩
    · obtain ⟨k1, k2, k3, k4⟩ := loc_ok F h1
      exact es_set F.nod k1 k2.1 (S _ _ _ h2) sw k2.2 k3 k4
    · obtain ⟨k1, k2, k3, k4⟩ := own_ok F h1
      exact es_setN F.nod k1 k2.1 (S _ _ _ h2) sw k2.2 k3 k4
  · cases h
/-- name = [..] -/
def cSetL (ff : Sx → FE) (tt : Sx → FT) (g : Ex → Bool) (Z : Sx) (i : Nat) (xa : Ex) : Stmt → Bool
  | .Assign [.Name y py] (.ListComp elt [⟨tgE, iter, ifs, 0⟩] scope pos) _ => (py.line == pos.line) && !(scope.names.any fun (n, k) => n == y && (k == .local || k == .cell)) && (locOk Z y i || ownSt Z y i) && (Z.sc.names.lookup y == some .local) && (match xa with
    | .lc xe tg k its xifs own => cLc ff tt g Z xe tg k its xifs own (.ListComp elt [⟨tgE, iter, ifs, 0⟩] scope pos)
    | _ => false)
  | _ => false
theorem cSetL_ok {ff : Sx → FE} {tt : Sx → FT} (F : FxS Z C X P W) (S0 : SoundE X C P W (ff Z) g) (SB : ∀ {scope X' W'}, Fx (Z.blk scope) C X' P W' → SoundE X' C P W' (ff (Z.blk scope)) g ∧ SoundT X' C P W' (tt (Z.blk scope)) g) {i : Nat} {xa : Ex} (h : cSetL ff tt g Z i xa s = true) : PS X s (tS C W fr (Mp.exec P (.set i xa))) := by
  unfold cSetL at h
  split at h
  · rename_i y py elt tgE iter ifs scope pos sp
    simp only [Bool.and_eq_true, Bool.or_eq_true, Bool.not_eq_true', beq_iff_eq (b := some NameKind.local)] at h
    obtain ⟨⟨⟨⟨h1, h2⟩, h3⟩, hlo⟩, h4⟩ := h
    have k2 : X.env.scope.names.lookup y = some .local := by rw [F.scp]; exact hlo
    split at h4
    · rename_i xe tg k its xifs own
      obtain ⟨p1, p2, p3, p4, p5, p6, p7, p8, p9, p10⟩ := cLc_parts F.toFx S0 SB h4
      have rdm : ∀ {md : Md} σ H Q, tE C P W md ((its.all g) && ((xifs.all g) && (g xe))) (.lc xe tg k its xifs own) σ H Q → tLc (tI C P W k (its.all g) its) (tG C tg) (tT C P (fun _ _ _ _ => False) (xifs.all g) (evAnd P xifs)) (tE C P (fun _ _ _ _ => False) .plain (g xe) xe) own σ H Q :=
        fun {md} σ H Q z => rd_lc p8 p9 p10 (fun z => by simpa using z) σ H Q z
      rcases h3 with h3 | h3
      · obtain ⟨k1, _, k3, k4⟩ := loc_ok F.toFx h3
        have base := ps_setLc (spos := sp) (py := py) F.calm F.nod k1 k2 (sw_true F.knd k2 h1 h2) p1 p2 p4 p5 p6 p7
        rw [p3] at base
        refine ps_imp base fun D σ H ⟨O, en, S', gg⟩ => rdm (md := .plain) σ H _ ?_
        unfold Mp.exec at gg
        exact ⟨O, noA, en, S', (EvS.ex S' gg).mono fun d e1 _ g1 v H1 f1 => g1 O _ H1 (.of S' f1.kp (f1.sim.store k3 k4 f1.val.2))⟩
      · obtain ⟨k1, _, k3, k4⟩ := own_ok F.toFx h3
        have base := ps_setLc (spos := sp) (py := py) F.calm F.nod k1 k2 (sw_true F.knd k2 h1 h2) p1 p2 p4 p5 p6 p7
        rw [p3] at base
        refine ps_imp base fun D σ H ⟨O, en, S', gg⟩ => rdm (md := .new) σ H _ ?_
        unfold Mp.exec at gg
        refine ⟨O, noA, en, S', (EvS.ex S' gg).mono fun d e1 _ g1 v H1 f1 => ?_⟩
        obtain ⟨O', S2, z1, z2⟩ := store_new (H0 := H) (H := H) k3 k4 S'.fresh f1.val
        exact g1 O' _ H1 ⟨S2, goes_own f1.kp z1 z2, S'.fzKp f1.kp⟩
    · cases h4
  · cases h
def anyCell (Z : Sx) (es : List Expr) : Bool := es.any fun
  | .Name y _ => notLoc Z y
  | _ => false
theorem filterMap_lt {α β : Type} {m : α → Option β} : ∀ {l : List α}, (∃ x ∈ l, m x = none) → (l.filterMap m).length < l.length
  | [], ⟨x, hx, _⟩ => by simp at hx
  | y :: l, ⟨x, hx, e⟩ => by
    have le : (l.filterMap m).length ≤ l.length := List.length_filterMap_le m l
    cases q : m y with
    | none => rw [List.filterMap_cons_none q, List.length_cons]; omega
    | some b =>
      rw [List.filterMap_cons_some q, List.length_cons, List.length_cons]
      have : x ∈ l := by
        rcases List.mem_cons.mp hx with rfl | hx
        · rw [e] at q; cases q
        · exact hx
      have := filterMap_lt ⟨x, this, e⟩
      omega
theorem st_cell (F : Fx Z C X P W) {es : List Expr} {k : Nat} {pt : Pos} (h : anyCell Z es = true) : swappedStores [.Tuple es k pt] e X.env = pure none := by
  unfold anyCell at h
  obtain ⟨x, hx, hn⟩ := List.any_eq_true.mp h
  split at hn
  · rename_i y p
    have hk : (X.env.kindOf y == some .local) = false := by
      unfold notLoc at hn
      show (X.env.scope.names.lookup y == some .local) = false
      rw [F.scp]
      simpa using hn
    cases e with
    | Tuple vs k2 p2 =>
      unfold swappedStores
      dsimp only
      split
      · rfl
      · split
        · rfl
        · refine if_pos ?_
          rw [Bool.or_eq_true, bne_iff_ne]
          refine .inl (Nat.ne_of_lt (filterMap_lt ⟨_, hx, ?_⟩))
          simp only [hk, Bool.false_and]
          rfl
    | _ => rfl
  · cases hn
def cSetT (f : FE) (Z : Sx) (is : List Nat) (xa : Ex) : Stmt → Bool
  | .Assign [.Tuple es _ _] a _ => noComp a && (noTupE a || anyCell Z es) && cNms Z es is && f .plain a xa
  | _ => false
theorem cSetT_ok (F : Fx Z C X P W) (S : SoundE X C P W f g) {is : List Nat} {xa : Ex} (h : cSetT f Z is xa s = true) : PS X s (tS C W fr (Mp.exec P (.setT is xa))) := by
  unfold cSetT at h
  split at h
  · simp only [Bool.and_eq_true] at h
    obtain ⟨⟨⟨h0, h1⟩, h2⟩, h3⟩ := h
    obtain ⟨k1, k2, k3⟩ := cNms_ok F h2
    exact es_setT F.toFitC F.nod k1 k2 k3 (S _ _ _ h3) (sws_ok h0) ((Bool.or_eq_true _ _ ▸ h1).elim st_ok (st_cell F)) rfl
  · cases h
def cPar (f : FE) (Z : Sx) (is : List Nat) (xs : List Ex) : Stmt → Bool
  | .Assign [.Tuple [.Name x px, .Name y py] _ _] (.Tuple [a, b] _ _) _ => match is, xs with
    | [i, j], [xa, xb] => (Z.sc.names.lookup x == some .local) && (Z.sc.names.lookup y == some .local) && i != j && x != y && (px.line == py.line) && ns a && ns b && !([a, b].all (foldedForSure 8)) && !([a, b].all (constantsAlone 8)) && locOk Z x i && f .plain a xa && ((locOk Z y j && f .plain b xb) || (ownSt Z y j && f .new b xb))
    | _, _ => false
  | _ => false
theorem swp_ok {x y : Str} {px py pt : Pos} {kt k2 : Nat} {pt2 : Pos} {a b : Expr} {env : Env} (hk : env.scope.kind = .function) (hx : env.scope.names.lookup x = some .local) (hy : env.scope.names.lookup y = some .local) (hxy : (x != y) = true) (hl : (px.line == py.line) = true) (ha : ns a = true) (hb : ns b = true)
    (h1 : ([a, b].all (foldedForSure 8)) = false) (h2 : ([a, b].all (constantsAlone 8)) = false) : swappedStores [.Tuple [.Name x px, .Name y py] kt pt] (.Tuple [a, b] k2 pt2) env = pure (some [x, y]) := by
  have kx : env.kindOf x = some .local := hx
  have ky : env.kindOf y = some .local := hy
  have hbk : env.blockKind = .function := by unfold Env.blockKind; rw [hk]; rfl
  have hl' : py.line = px.line := (beq_iff_eq.mp hl).symm
  have hdd : ([x, y].eraseDups).length = 2 := by
    have : (y == x) = false := by
      have hne : x ≠ y := by simpa using hxy
      exact beq_eq_false_iff_ne.mpr (Ne.symm hne)
    simp [List.eraseDups_cons, this]
  unfold swappedStores
  dsimp only
  refine (if_neg ?_).trans ((if_neg ?_).trans ?_)
  · simp [hbk]
  · intro hc
    rw [List.any_cons, List.any_cons, List.any_nil, Bool.or_false, Bool.or_eq_true] at hc
    rcases hc with hc | hc
    · cases a <;> first | exact Bool.noConfusion hc | exact Bool.noConfusion ha
    · cases b <;> first | exact Bool.noConfusion hc | exact Bool.noConfusion hb
  · simp only [List.head?_cons, Option.map_some, Option.getD_some, List.filterMap_cons, List.filterMap_nil, kx, ky, Expr.pos, hl', beq_self_eq_true, Bool.and_self, if_true, hdd, h1, h2, List.length_cons, List.length_nil]
    rfl
theorem cPar_ok (F : FxS Z C X P W) (S : SoundE X C P W f g) {is : List Nat} {xs : List Ex} (h : cPar f Z is xs s = true) : PS X s (tS C W fr (Mp.exec P (.par is xs))) := by
  unfold cPar at h
  split at h
  · split at h
    · simp only [Bool.and_eq_true, Bool.or_eq_true, Bool.not_eq_true'] at h
      obtain ⟨⟨⟨⟨⟨⟨⟨⟨⟨⟨⟨hlx, hly⟩, h1⟩, h2⟩, h3⟩, h4⟩, h5⟩, h6⟩, h7⟩, h8⟩, h9⟩, h10⟩ := h
      have toL : ∀ {n : Str}, (Z.sc.names.lookup n == some .local) = true → X.env.scope.names.lookup n = some .local := fun h => by rw [F.scp]; exact beq_iff_eq.mp h
      have k2 := toL hlx
      have l2 := toL hly
      obtain ⟨k1, _, k3, k4⟩ := loc_ok F.toFx h8
      have hij := by simpa using h1
      rcases h10 with ⟨h10, h11⟩ | ⟨h10, h11⟩
      · obtain ⟨l1, _, l3, l4⟩ := loc_ok F.toFx h10
        exact es_par F.calm F.nod k1 l1 hij k2 l2 (S _ _ _ h9) (S _ _ _ h11) (star_ok h4) (star_ok h5) (swp_ok F.knd k2 l2 h2 h3 h4 h5 h6 h7) rfl k3 k4 (.inl ⟨rfl, l3, l4⟩)
      · obtain ⟨l1, _, l3, l4⟩ := own_ok F.toFx h10
        exact es_par F.calm F.nod k1 l1 hij k2 l2 (S _ _ _ h9) (S _ _ _ h11) (star_ok h4) (star_ok h5) (swp_ok F.knd k2 l2 h2 h3 h4 h5 h6 h7) rfl k3 k4 (.inr ⟨rfl, l3, l4⟩)
    · cases h
  · cases h
def nameOwn (Z : Sx) (y : Str) (i : Nat) : Bool := nameOk Z y i && Z.own.contains i
def cPut (f : FE) (Z : Sx) (i : Nat) (xk xv : Ex) : Stmt → Bool
  | .Assign [.Subscript (.Name y _) b _] a _ => noComp a && noSl b && nameOwn Z y i && f .plain b xk && f .plain a xv
  | _ => false
theorem asg_ok {o b : Expr} {po : Pos} {env : Env} (h : noSl b = true) : ∀ v, PySem.assign (.Subscript o b po) env v = (do
      let ov ← holding [v] (eval o env)
      let iv ← holding [v, ov] (eval b env)
      standAt po
      holding [v, ov, iv] (setItem ov iv v)
      release [v, ov, iv] []) := fun v => by cases b <;> first | rfl | cases h
theorem cPut_ok (F : Fx Z C X P W) (S : SoundE X C P W f g) {i : Nat} {xk xv : Ex} (h : cPut f Z i xk xv s = true) : PS X s (tS C W fr (Mp.exec P (.put i xk xv))) := by
  unfold cPut at h
  split at h
  · simp only [Bool.and_eq_true] at h
    obtain ⟨⟨⟨⟨h0, h1⟩, h2⟩, h3⟩, h4⟩ := h
    unfold nameOwn at h2
    rw [Bool.and_eq_true, List.contains_iff_mem] at h2
    obtain ⟨k1, k2, k3, k4⟩ := vis_ok F h2.1
    exact es_put F.toFitC k1 k2 k3 k4 ((F.own i).mpr h2.2) (S _ _ _ h4) (S _ _ _ h3) (room1 F.deep) (asg_ok h1) (sws_ok h0) (st_ok2 (fun _ _ _ z => by cases z) fun _ _ z => by cases z) rfl
  · cases h
def cApp (f : FE) (Z : Sx) (nm : Str) (md : Md) (i : Nat) (xa : Ex) : Stmt → Bool
  | .Expr (.Call (.Attribute (.Name y _) m ap) [a] [] pos) _ => m == nm && nameOwn Z y i && ns a && (ap.endLine == pos.line) && f md a xa
  | _ => false
theorem few1 {a : Expr} {pos : Pos} {env : Env} (h : ns a = true) : ((backTo pos (starEach [a] env)).all (fun x => !x.1) && (backToKw pos (keywordEach [] env)).all (fun x => x.1.isSome) && decide ([a].length + ([] : List Keyword).length + (if ([] : List Keyword).isEmpty then 0 else 1) < 30)) = true :=
  few_ok (es := [a]) (by simp [h]) (by simp)
theorem cApp_ok (F : Fx Z C X P W) (S : SoundE X C P W f g) {i : Nat} {xa : Ex} (h : cApp f Z "append" .plain i xa s = true) : PS X s (tS C W fr (Mp.exec P (.app i xa))) := by
  unfold cApp at h
  split at h
  · simp only [Bool.and_eq_true, beq_iff_eq] at h
    obtain ⟨⟨⟨⟨rfl, h1⟩, h2⟩, h3⟩, h4⟩ := h
    unfold nameOwn at h1
    rw [Bool.and_eq_true, List.contains_iff_mem] at h1
    obtain ⟨k1, k2, k3, k4⟩ := vis_ok F h1.1
    exact es_app k1 k2 k3 k4 ((F.own i).mpr h1.2) (S _ _ _ h4) (base_ok rfl) (few1 h2) (by simpa using h3) (star_ok h2) (plain_ok rfl) (sw_ok rfl)
  · cases h
theorem cExt_ok (F : Fx Z C X P W) (S : SoundE X C P W f g) {i : Nat} {xa : Ex} (h : cApp f Z "extend" .new i xa s = true) : PS X s (tS C W fr (Mp.exec P (.ext i xa))) := by
  unfold cApp at h
  split at h
  · simp only [Bool.and_eq_true, beq_iff_eq] at h
    obtain ⟨⟨⟨⟨rfl, h1⟩, h2⟩, h3⟩, h4⟩ := h
    unfold nameOwn at h1
    rw [Bool.and_eq_true, List.contains_iff_mem] at h1
    obtain ⟨k1, k2, k3, k4⟩ := vis_ok F h1.1
    exact es_ext k1 k2 k3 k4 ((F.own i).mpr h1.2) (S _ _ _ h4) (base_ok rfl) (few1 h2) (by simpa using h3) (star_ok h2) (plain_ok rfl) (sw_ok rfl)
  · cases h
end
end Mp

namespace Mp
open PySem PySem.Spec PyProof.Rows L2
/-- a statement is looked at -/
def mS : Nat → Sx → Bool → Stmt → Mp.St → Bool
  | 0, _, _, _, _ => false
  | n + 1, Z, fr, s, x =>
    let f : FE := fun md e x => mE n Z (some md) e x
    let t : FT := fun e x => mE n Z none e x
    let g := nq Z.df n
    match x with
    | .set i a => cSet f Z i a s || cSetL (fun Z md e x => mE n Z (some md) e x) (fun Z e x => mE n Z none e x) g Z i a s
    | .setT is a => cSetT f Z is a s
    | .par is as => cPar f Z is as s
    | .aug _ _ _ => false
    | .put i k v => cPut f Z i k v s
    | .app i a => cApp f Z "append" .plain i a s
    | .ext i a => cApp f Z "extend" .new i a s
    | .drop a => match s with
      | .Expr e _ => noComp e && rd f e a true
      | _ => false
    | .ite c xt xf => match s with
      | .If e ss ts _ => t e c && cSs (mS n Z fr) ss xt && cSs (mS n Z fr) ts xf
      | _ => false
    | .for_ tg k its xb => match s with
      | .For tgE it ss [] _ => cIt f g Z tgE it k its && noSet it && cTg Z tgE tg && cSs (mS n Z fr) ss xb
      | _ => false
    | .while_ c xb => match s with
      | .While e ss [] _ => t e c && cSs (mS n Z fr) ss xb
      | _ => false
    | .ret a => match s with
      | .Return (some e) _ => f (if fr then .new else .plain) e a || (match e, a with
        | .Name y _, .var i => nameOk Z y i && Z.own.contains i && !Z.io.contains i
        | _, _ => false)
      | _ => false
    | .retR a => match s with
      | .Return (some e) _ => !fr && mE n Z.rel (some .plain) e a
      | _ => false
    | .retN => match s with
      | .Return none _ => true
      | _ => false
    | .brk => match s with
      | .Break _ => true
      | _ => false
    | .cnt => match s with
      | .Continue _ => true
      | _ => false
    | .pass => match s with
      | .Pass _ => true
      | .Expr (.Constant (.str _) _ _) _ => true
      | _ => false
theorem mS_ok : ∀ (n : Nat) {Z : Sx} {C : Cb} {X : Cx} {P : Px} {W : WX} {fr : Bool}, FxS Z C X P W → SoundS X C P W fr (mS n Z fr)
  | 0, Z, C, X, P, W, fr, F => fun s x h => by simp [mS] at h
  | n + 1, Z, C, X, P, W, fr, F => fun s x h => by
    obtain ⟨S, T⟩ := mE_ok n F.toFx
    have SB : ∀ {scope X' W'}, Fx (Z.blk scope) C X' P W' → SoundE X' C P W' (fun md e x => mE n (Z.blk scope) (some md) e x) (nq Z.df n) ∧ SoundT X' C P W' (fun e x => mE n (Z.blk scope) none e x) (nq Z.df n) := fun F' => mE_ok n F'
    have R : SoundS X C P W fr (mS n Z fr) := mS_ok n F
    simp only [mS] at h
    cases x with
    | set i a =>
      rw [Bool.or_eq_true] at h
      rcases h with h | h
      · exact cSet_ok F.toFx S h
      · exact cSetL_ok F S SB h
    | setT is a => exact cSetT_ok F.toFx S h
    | par is as => exact cPar_ok F S h
    | aug _ _ _ => cases h
    | put i k v => exact cPut_ok F.toFx S h
    | app i a => exact cApp_ok F.toFx S h
    | ext i a => exact cExt_ok F.toFx S h
    | drop a =>
      simp only at h
      split at h
      · rw [Bool.and_eq_true] at h
        obtain ⟨m, ha, _⟩ := rd_ok S h.2
        exact es_drop ha (sw_ok h.1)
      · cases h
    | ite c xt xf =>
      simp only at h
      split at h
      · simp only [Bool.and_eq_true] at h
        exact es_if (T _ _ h.1.1) (cSs_ok R h.1.2) (cSs_ok R h.2)
      · cases h
    | for_ tg k its xb =>
      simp only at h
      split at h
      · simp only [Bool.and_eq_true] at h
        exact es_for F.toFitC F.pas (cIt_ok F.toFx S (q := its.all (nq Z.df n)) h.1.1.1 fun z => z) (cTg_ok F.toFx h.1.2) (cSs_ok R h.2) (noSet_ok h.1.1.2)
      · cases h
    | while_ c xb =>
      simp only at h
      split at h
      · simp only [Bool.and_eq_true] at h
        exact es_while F.pas (T _ _ h.1) (cSs_ok R h.2)
      · cases h
    | ret a =>
      simp only at h
      split at h
      · rw [Bool.or_eq_true] at h
        rcases h with h | h
        · exact es_ret rfl (S _ _ _ h)
        · split at h
          · simp only [Bool.and_eq_true, Bool.not_eq_true', List.contains_eq_mem, decide_eq_false_iff_not, decide_eq_true_eq] at h
            obtain ⟨k1, k2, k3, k4⟩ := vis_ok F.toFx h.1.1
            exact es_retV k1 k2 k3 k4 ((F.own _).mpr h.1.2) fun p hp z => h.2 (by rw [← z]; exact F.io p hp)
          · cases h
      · cases h
    | retR a =>
      simp only at h
      split at h
      · rw [Bool.and_eq_true, Bool.not_eq_true'] at h
        obtain ⟨hf, h⟩ := h
        subst hf
        exact es_retR ((mE_ok n F.rel).1 _ _ _ h)
      · cases h
    | retN =>
      simp only at h
      split at h
      · exact es_retN
      · cases h
    | brk =>
      simp only at h
      split at h
      · exact es_brk
      · cases h
    | cnt =>
      simp only at h
      split at h
      · exact es_cnt
      · cases h
    | pass =>
      simp only at h
      split at h
      · exact es_pass
      · exact es_doc
      · cases h
end Mp

namespace Mp
open PySem PySem.Spec PyProof.Rows L2
/-- a name no more kept apart -/
def Cb.dem (C : Cb) (i : Nat) : Cb := { C with own := C.own.filter fun j => j != i }
def Sx.dem (Z : Sx) (i : Nat) : Sx := { Z with own := Z.own.filter fun j => j != i }
/-- the end of a def, as it is wanted -/
structure XRet (C : Cb) (H' : Hp) (d : D) (od : Option Addr) (e' : En) : Prop where
  keep : ∀ a o, (∀ p ∈ C.io, p.2 ≠ a) → C.H0 a = some o → H' a = some o
  io : ∀ p ∈ C.io, ∀ d', e'[p.1]? = some (some d') → Root C.K C.w C.A0 H' p.2 d'
  dat : DatC C.K C.w C.A0 H' d od
def EvT (C : Cb) (fr : Bool) (W : WX) (D : Ends) : Out Fl → Prop
  | .ok .nx e' => ∀ σ' H', RetS C fr H' .non .none e' → D.nx σ' H'
  | .ok (.ret d) e' => ∀ v H', RetS C fr H' v d e' → D.rt v H'
  | .ok _ _ => False
  | .ex c d e' => ∀ σ' od H', XRet C H' d od e' → W (.ref (C.xc c)) od σ' H'
  | .no => False
def tT0 (C : Cb) (W : WX) (fr : Bool) (f : En → Out Fl) : TS := fun D σ H => ∃ O e, Sim C O noA σ H e ∧ EvT C fr W D (f e)
section
variable {X : Cx} {C : Cb} {P : Px} {W : WX} {Z : Sx} {O : Ow} {σ : L2.St} {H H1 : Hp} {e e1 : En} {q fr : Bool} {v : V} {d : Mp.D} {D : Ends}
theorem ret_non (S : Sim C O noA σ H e) : RetS C fr H .non .none e := ⟨S.keep, fun p hp d h => (io_root S hp h).go less0 rfl, .non, fun _ z => by cases z⟩
theorem EvT.toS {x : Out Fl} (h : EvT C fr W D x) : EvS C fr O H W D x := by
  cases x with
  | ok f e' =>
    cases f with
    | nx => exact fun O' σ' H' z => h σ' H' (ret_non z.sim)
    | brk => exact h.elim
    | cnt => exact h.elim
    | ret d => exact h
  | ex c d e' =>
    intro O' σ' cv od H' z hc hd
    subst hc
    refine h σ' od H' ⟨z.sim.keep, fun p hp d h => (io_root z.sim hp h).go less0 rfl, ?_⟩
    rcases hd with hd | ⟨dx, v, h1, h2, h3⟩
    · exact .inl hd
    · exact .inr ⟨dx, v, h1, h2, h3.go less0⟩
  | no => exact h
theorem et_of {ss : List Stmt} {xs : List Mp.St} (h : PSs X ss (tS C W fr (execs P xs))) : PSs X ss (tT0 C W fr (execs P xs)) := pss_imp h fun D σ H ⟨O, e, S, g⟩ => ⟨O, e, S, g.toS⟩
theorem et_cons {s : Stmt} {ss : List Stmt} {x : Mp.St} {xs : List Mp.St} (h1 : PS X s (tS C W fr (Mp.exec P x))) (h2 : PSs X ss (tT0 C W fr (execs P xs))) : PSs X (s :: ss) (tT0 C W fr (execs P (x :: xs))) :=
  pss_imp (pss_cons h1 h2) fun D σ H ⟨O, e, S, g⟩ => by
    unfold execs at g
    refine ⟨O, e, S, ?_⟩
    generalize Mp.exec P x e = y at g
    cases y with
    | ok f e1 =>
      cases f with
      | nx => exact fun O' σ' H' z => ⟨O', e1, z.sim, g⟩
      | brk => exact g.elim
      | cnt => exact g.elim
      | ret d => exact g
    | ex c d e1 => exact EvT.toS (x := .ex c d e1) g
    | no => exact g
theorem Sim.demote (S : Sim C O noA σ H e) {i : Nat} (hi : i ∈ C.own) (hio : ∀ p ∈ C.io, p.1 ≠ i) (r : Rep C.K C.w (Av C O noA) H v d) : Sim (C.dem i) (own1 O i none) noA (σ.set i (some v)) H (setE e i d) := by
  have g : Goes1 (Av C O noA) (Av (C.dem i) (own1 O i none) noA) H H := go_less fun a h => by
    rcases h with h | ⟨j, h⟩ | h
    · exact .inl h
    · rcases own1_some h with ⟨_, h⟩ | ⟨_, h⟩
      · cases h
      · exact .inr (.inl ⟨j, h⟩)
    · exact .inr (.inr h)
  have mem : ∀ {j : Nat}, j ∈ (C.dem i).own ↔ j ∈ C.own ∧ j ≠ i := fun {j} => by
    show j ∈ C.own.filter _ ↔ _
    rw [List.mem_filter, bne_iff_ne]
  refine ⟨by unfold setE; rw [List.length_set, List.length_set]; exact S.len, S.keep, fun j x nl h => ?_, fun j k a h1 h2 => ?_, fun j a h => ?_, fun j hj x h hm' => ?_, fun q hq => ?_, fun a h => ?_, fun j a h z => z.elim, S.a0, ?_⟩
  · rcases setE_get h with ⟨rfl, rfl⟩ | ⟨hj, h'⟩
    · have hl := setE_lt h
      exact .inl ⟨own1_same, v, set_at (by rw [← S.len]; exact hl), r.go g⟩
    · rcases S.slot j x nl h' with ⟨h1, u, h2, h3⟩ | ⟨a, h1, h2, h3⟩
      · exact .inl ⟨by rw [own1_ne hj]; exact h1, u, by rw [List.getElem?_set_ne (Ne.symm hj)]; exact h2, h3.go g⟩
      · exact .inr ⟨a, by rw [own1_ne hj]; exact h1, by rw [List.getElem?_set_ne (Ne.symm hj)]; exact h2, h3.go g rfl⟩
  · rcases own1_some h1 with ⟨_, q1⟩ | ⟨_, q1⟩
    · cases q1
    · rcases own1_some h2 with ⟨_, q2⟩ | ⟨_, q2⟩
      · cases q2
      · exact S.inj j k a q1 q2
  · rcases own1_some h with ⟨_, q1⟩ | ⟨nj, q1⟩
    · cases q1
    · exact ⟨mem.mpr ⟨(S.own j a q1).1, nj⟩, (S.own j a q1).2⟩
  · obtain ⟨hj, nj⟩ := mem.mp hj
    rcases setE_get h with ⟨z, _⟩ | ⟨_, h'⟩
    · exact absurd z nj
    · obtain ⟨a, ha⟩ := S.chg j hj x h' hm'
      exact ⟨a, by rw [own1_ne nj]; exact ha⟩
  · show own1 O i none q.1 = some q.2
    rw [own1_ne (hio q hq)]; exact S.io q hq
  · rcases h with h | ⟨j, h⟩ | h
    · exact S.trk a (.inl h)
    · rcases own1_some h with ⟨_, q1⟩ | ⟨_, q1⟩
      · cases q1
      · exact S.trk a (.inr (.inl ⟨j, q1⟩))
    · exact h.elim
  · have nl : ∀ p ∈ C.lnt, p.1 ≠ i := fun p hp z => (S.ln.at_ p hp).2.2.2.1 (by rw [z]; exact hi)
    refine ⟨fun p hp => ?_, fun a ha => ?_⟩
    · obtain ⟨h1, h2, h3, h4, h5⟩ := S.ln.at_ p hp
      refine ⟨?_, ?_, by rw [own1_ne (nl p hp)]; exact h3, fun z => h4 (mem.mp z).1, ?_⟩
      · unfold setE; rw [List.getElem?_set_ne (Ne.symm (nl p hp))]; exact h1
      · rw [List.getElem?_set_ne (Ne.symm (nl p hp))]; exact h2
      · rcases h5 with r | ⟨a, ea, r, f⟩
        · exact .inl (r.go g)
        · exact .inr ⟨a, ea, r.go g rfl, f⟩
    · obtain ⟨h1, h2, h3⟩ := S.ln.fz a ha
      exact ⟨h1, fun j z => (own1_some z).elim (fun w => by cases w.2) fun w => h2 j w.2, h3⟩
theorem et_dem {i : Nat} {y : Str} {py : Pos} {a : Expr} {xa : Ex} {pos : Pos} {ss : List Stmt} {xs : List Mp.St} (hN : X.N.Nodup) (hi : X.N[i]? = some y) (hx : Loc X.env.scope y) (hf : X.fn y = true ∨ X.env.scope.names.lookup y = some .local) (ha : PE X a (tE C P W .plain q xa)) (hs : swapsWith a (some (.Name y py)) pos.line X.env = pure false)
    (ho : i ∈ C.own) (hio : ∀ p ∈ C.io, p.1 ≠ i) (h2 : PSs X ss (tT0 (C.dem i) W fr (execs P xs))) : PSs X (.Assign [.Name y py] a pos :: ss) (tT0 C W fr (execs P (.set i xa :: xs))) :=
  pss_imp (pss_cons (ps_set hN hi hx ha hs hf) h2) fun D σ H ⟨O, e, S, g⟩ => by
    unfold execs Mp.exec at g
    have g' : EvT C fr W D ((ev P xa e).bind fun x e1 => execs P xs (setE e1 i x)) := by
      cases h : ev P xa e with
      | ok x e1 => rw [h] at g; exact g
      | ex c d e1 => rw [h] at g; exact g
      | no => rw [h] at g; exact g
    have g2 : EvG C O noA σ H W (fun x e1 => EvT C fr W D (execs P xs (setE e1 i x))) (ev P xa e) := by
      cases h : ev P xa e with
      | ok x e1 => rw [h] at g'; exact g'
      | ex c d e1 =>
        rw [h] at g'
        have g' : ∀ σ' od H', XRet C H' d od e1 → W (.ref (C.xc c)) od σ' H' := g'
        intro cv od H' z
        rw [z.cls]
        refine g' σ od H' ⟨z.sim.keep, fun p hp d h => (io_root z.sim hp h).go less0 rfl, ?_⟩
        rcases z.dat with hd | ⟨dx, v, h1, h2, h3⟩
        · exact .inl hd
        · exact .inr ⟨dx, v, h1, h2, h3.go less0⟩
      | no => rw [h] at g'; exact g'
    refine ⟨O, noA, e, S, g2.mono fun x e1 _ g3 v H1 f1 => ⟨own1 O i none, setE e1 i x, f1.sim.demote ho hio f1.val.2, ?_⟩⟩
    generalize execs P xs (setE e1 i x) = y at g3
    cases y with
    | ok f e' =>
      cases f with
      | nx => exact fun σ' H' z => g3 σ' H' ⟨z.keep, z.io, z.val, z.new⟩
      | brk => exact g3
      | cnt => exact g3
      | ret d => exact fun v H' z => g3 v H' ⟨z.keep, z.io, z.val, z.new⟩
    | ex c d e' => exact fun σ' od H' z => g3 σ' od H' ⟨z.keep, z.io, z.dat⟩
    | no => exact g3
theorem FxS.dem (F : FxS Z C X P W) (i : Nat) : FxS (Z.dem i) (C.dem i) X P W where
  calm := F.calm
  deep := F.deep
  gds := F.gds
  hK := F.hK
  hw := F.hw
  nm := F.nm
  nod := F.nod
  scp := F.scp
  own := fun j => by
    show j ∈ C.own.filter _ ↔ j ∈ Z.own.filter _
    rw [List.mem_filter, List.mem_filter, F.own j]
  lnt := F.lnt
  io := F.io
  blt := F.blt
  cons := F.cons
  fns := fun p hp df hdf => let ⟨h1, h2⟩ := F.fns p hp df hdf; ⟨h1, h2⟩
  tk := F.tk
  cel := F.cel
  pas := F.pas
  io2 := F.io2
  knd := F.knd
/-- a def's body is looked at -/
def mTop (n : Nat) : Sx → Bool → List Stmt → List Mp.St → Bool
  | _, _, [], [] => true
  | Z, fr, s :: ss, x :: xs => (mS n Z fr s x && mTop n Z fr ss xs) || (match s, x with
    | .Assign [.Name y _] a _, .set i xa => noComp a && ownSt Z y i && mE n Z (some .plain) a xa && mTop n (Z.dem i) fr ss xs
    | _, _ => false)
  | _, _, _, _ => false
theorem mTop_ok (n : Nat) : ∀ {ss : List Stmt} {xs : List Mp.St} {Z : Sx} {C : Cb}, FxS Z C X P W → mTop n Z fr ss xs = true → PSs X ss (tT0 C W fr (execs P xs))
  | [], [], Z, C, F, h => et_of es_nil
  | s :: ss, x :: xs, Z, C, F, h => by
    simp only [mTop] at h
    rw [Bool.or_eq_true, Bool.and_eq_true] at h
    rcases h with h | h
    · exact et_cons (mS_ok n F _ _ h.1) (mTop_ok n F h.2)
    · split at h
      · simp only [Bool.and_eq_true] at h
        obtain ⟨⟨⟨h1, h2⟩, h3⟩, h4⟩ := h
        obtain ⟨k1, k2, k3, k4⟩ := own_ok F.toFx h2
        exact et_dem F.nod k1 k2.1 k2.2 ((mE_ok n F.toFx).1 _ _ _ h3) (sw_ok h1) k3 k4 (mTop_ok n (F.dem _) h4)
      · cases h
  | [], _ :: _, _, _, _, h => by simp [mTop] at h
  | _ :: _, [], _, _, _, h => by simp [mTop] at h
end
end Mp

namespace Mp
open PySem PySem.Spec PyProof.Rows L2
/-- a def by its body, nothing guarded around -/
theorem fn_mk {P : Program} {w : World} {K : PySem.W.Frag} {mg : Str → Option Value} {base : Heap} {k : Nat} {f : Addr} {name qual : Str} {params : Arguments} {body : List Stmt} {scope : Scope} {dV kV doc pm cdv ct oc : Value} {an od : Option Addr}
    {osl : Array (Option Value)} {N ps : List Str} {sp : Sp} (lk : K.lookup f = some ⟨oc, od, .func (PySem.W.fnOf name qual params body scope dV kV doc pm an cdv ct), osl⟩) (hcd : PySem.W.codeIn K cdv qual = true) (S : FnScope N ps scope) (len : ∀ vs H Q E, sp vs H Q E → vs.length = ps.length)
    (hbody : ∀ (A : Around) (outer : List Env) (s : Shared) (H : Hp) (vs : List V) (Q : VK) (E : XK), Room k (A.deeper (envOfC qual scope s.heap.objs.size f cdv)) → (A.deeper (envOfC qual scope s.heap.objs.size f cdv)).guards = some [] → sp vs H Q E →
      ∃ t, PSs (cxOf (L2.CX P w) P w K mg base N qual scope f cdv A outer s H E) body t ∧ t { nx := fun _ H' => Q .non H', rt := Q } (L2.start N vs) H) : Fn P w K mg base (k + 1) f (PySem.W.fnOf name qual params body scope dV kV doc pm an cdv ct) ps sp where
  len := len
  go := by
    intro A outer s H args us vs Q E hr hgd e0 hb r hsp
    have kx : K.In s.heap := e0.mod.kin.keeps fun b o e => (e0.bs b o e).1
    have nolim : s.heap.NoLimit := e0.mod.nolimit.keeps fun b o e => (e0.bs b o e).1
    have kinds : ∀ y ∈ ps.zip us, scope.names.lookup y.1 = some .local ∨ (scope.names.lookup y.1 = some .cell ∧ ((cellsFrom (s.heap.objs.size + 1) scope.names []).lookup y.1).isSome = true) := by
      intro y hy
      obtain ⟨n, v⟩ := y
      exact (S.par n (List.of_mem_zip hy).1).imp id fun q => ⟨q, PySem.W.cellsFrom_some _ _ _ (.inl q)⟩
    refine codeAny_call_function hr.depth (kx _ _ lk) rfl S.co S.gen rfl (PySem.W.codeRec_of kx hcd) (hb _ _ _ _ (wpAny_newFunctionEnv_cells S.kind kinds fun env he s1 x => ?_))
    subst he
    obtain ⟨t, ht, hq⟩ := hbody A outer s H vs Q E (hr.deeper _) hgd hsp
    refine ⟨nolim.keeps x.toInCall.keep, codeAny_func (wpAny_mono (ht.run [] s1 (L2.start N vs) H _ (inv_start S hr.hd e0 (len _ _ _ _ hsp) r x) hq) (fun fl s' hs => ?_) fun e s' hs => hs)⟩
    have fin : ∀ {σ' : L2.St} {H' : Hp} {v : V} {u : Value}, Inv (cxOf (L2.CX P w) P w K mg base N qual scope f cdv A outer s H E) [] σ' H' s' → RelV v u → Q v H' → CE outer P w H s Q u s' :=
      fun {σ' H' v u} J rv q => ⟨v, H', J.os, J.bare, J.base, J.hok, rv, q⟩
    cases fl with
    | ret u =>
      obtain ⟨v, σ', H', J, rv, q⟩ := hs
      exact fin J rv q
    | next =>
      obtain ⟨σ', H', J, q⟩ := hs
      exact fin (v := V.non) (u := Value.none) J rfl q
    | brk => obtain ⟨_, _, _, q⟩ := hs; exact False.elim q
    | cont => obtain ⟨_, _, _, q⟩ := hs; exact False.elim q
end Mp

namespace Mp
open PySem PySem.Spec PyProof.Rows L2
/-! ### the names at the entry -/
def lnOf (df : Df) (vs : List V) (ds : List D) : List (Nat × V × D) := (List.range df.ps).filterMap fun i => if i ∈ df.lv ∧ i ∉ df.io then (vs[i]?.bind fun v => ds[i]?.map fun d => (i, v, d)) else none
def cbOf (K : PySem.W.Frag) (w : World) (xc : Nat → Addr) (df : Df) (A0 : Addr → Prop) (H : Hp) (vs : List V) (ds : List D) (as : List Addr) : Cb where
  K := K
  w := w
  H0 := H
  A0 := A0
  io := df.io.zip as
  own := df.own
  xc := xc
  lnt := lnOf df vs ds
  fz := fun a => ∃ p ∈ lnOf df vs ds, p.2.1 = .ref a ∧ Root K w A0 H a p.2.2 ∧ A0 a ∧ a ∉ as
/-- what is asked of a def's lists of names -/
def dfChk (df : Df) : Bool := decide df.io.Nodup && df.io.all (fun i => df.own.contains i && decide (i < df.ps)) && df.lv.all (fun i => !df.own.contains i || df.io.contains i) && decide (df.ps ≤ df.n)
theorem lnOf_mem {df : Df} {vs : List V} {ds : List D} {p : Nat × V × D} (h : p ∈ lnOf df vs ds) : p.1 < df.ps ∧ p.1 ∈ df.lv ∧ p.1 ∉ df.io ∧ vs[p.1]? = some p.2.1 ∧ ds[p.1]? = some p.2.2 := by
  unfold lnOf at h
  obtain ⟨i, hi, h⟩ := List.mem_filterMap.mp h
  split at h
  · rename_i hc
    obtain ⟨v, hv, h⟩ := Option.bind_eq_some_iff.mp h
    obtain ⟨d, hd, rfl⟩ := Option.map_eq_some_iff.mp h
    exact ⟨List.mem_range.mp hi, hc.1, hc.2, hv, hd⟩
  · cases h
theorem lnOf_of {df : Df} {vs : List V} {ds : List D} {i : Nat} {v : V} {d : D} (h1 : i < df.ps) (h2 : i ∈ df.lv) (h3 : i ∉ df.io) (h4 : vs[i]? = some v) (h5 : ds[i]? = some d) : (i, v, d) ∈ lnOf df vs ds := by
  unfold lnOf
  refine List.mem_filterMap.mpr ⟨i, List.mem_range.mpr h1, ?_⟩
  rw [if_pos ⟨h2, h3⟩, h4, h5]; rfl
theorem paired_zip {α β : Type} {R : α → β → Prop} : ∀ {l : List α} {m : List β}, Paired R l m → ∀ p ∈ l.zip m, R p.1 p.2
  | _, _, .nil, p, h => by simp at h
  | _, _, .cons r t, p, h => by
    rw [List.zip_cons_cons] at h
    rcases List.mem_cons.mp h with rfl | h
    · exact r
    · exact paired_zip t p h
theorem paired_len {α β : Type} {R : α → β → Prop} : ∀ {l : List α} {m : List β}, Paired R l m → l.length = m.length
  | _, _, .nil => rfl
  | _, _, .cons _ t => congrArg Nat.succ (paired_len t)
theorem mem_zip_ex {α β : Type} : ∀ {l : List α} {m : List β} {a : α}, l.length = m.length → a ∈ l → ∃ b, (a, b) ∈ l.zip m
  | x :: l, y :: m, a, hl, h => by
    rcases List.mem_cons.mp h with rfl | h
    · exact ⟨y, by simp⟩
    · obtain ⟨b, hb⟩ := mem_zip_ex (l := l) (m := m) (by simpa using hl) h
      exact ⟨b, by rw [List.zip_cons_cons]; exact List.mem_cons_of_mem _ hb⟩
  | [], _, _, _, h => by simp at h
  | _ :: _, [], _, hl, _ => by simp at hl
theorem zip_fst {α β : Type} [DecidableEq α] : ∀ {l : List α} {m : List β} {a : α} {b c : β}, l.Nodup → (a, b) ∈ l.zip m → (a, c) ∈ l.zip m → b = c
  | x :: l, y :: m, a, b, c, hn, h1, h2 => by
    rw [List.nodup_cons] at hn
    rw [List.zip_cons_cons] at h1 h2
    rcases List.mem_cons.mp h1 with h1 | h1
    · cases h1
      rcases List.mem_cons.mp h2 with h2 | h2
      · cases h2; rfl
      · exact absurd (List.of_mem_zip h2).1 hn.1
    · rcases List.mem_cons.mp h2 with h2 | h2
      · cases h2; exact absurd (List.of_mem_zip h1).1 hn.1
      · exact zip_fst hn.2 h1 h2
  | [], _, _, _, _, _, h, _ => by simp at h
  | _ :: _, [], _, _, _, _, h, _ => by simp at h
theorem zip_snd {α β : Type} : ∀ {l : List α} {m : List β} {a a' : α} {b : β}, m.Nodup → (a, b) ∈ l.zip m → (a', b) ∈ l.zip m → a = a'
  | x :: l, y :: m, a, a', b, hn, h1, h2 => by
    rw [List.nodup_cons] at hn
    rw [List.zip_cons_cons] at h1 h2
    rcases List.mem_cons.mp h1 with h1 | h1
    · cases h1
      rcases List.mem_cons.mp h2 with h2 | h2
      · cases h2; rfl
      · exact absurd (List.of_mem_zip h2).2 hn.1
    · rcases List.mem_cons.mp h2 with h2 | h2
      · cases h2; exact absurd (List.of_mem_zip h1).2 hn.1
      · exact zip_snd hn.2 h1 h2
  | [], _, _, _, _, _, h, _ => by simp at h
  | _ :: _, [], _, _, _, _, h, _ => by simp at h
open Classical in
/-- which slot holds what, at the entry -/
noncomputable def ow0 (io : List (Nat × Addr)) : Ow := fun i => if h : ∃ a, (i, a) ∈ io then some h.choose else none
theorem ow0_some {io : List (Nat × Addr)} {i : Nat} {a : Addr} (h : ow0 io i = some a) : (i, a) ∈ io := by
  unfold ow0 at h
  split at h
  · rename_i z
    have := z.choose_spec
    rw [Option.some.inj h] at this; exact this
  · cases h
theorem ow0_none {io : List (Nat × Addr)} {i : Nat} (h : ∀ a, (i, a) ∉ io) : ow0 io i = none := by
  unfold ow0
  rw [dif_neg fun ⟨a, z⟩ => h a z]
theorem ow0_of {io : List (Nat × Addr)} {i : Nat} {a : Addr} (h : (i, a) ∈ io) (u : ∀ b, (i, b) ∈ io → b = a) : ow0 io i = some a := by
  unfold ow0
  have ex : ∃ a, (i, a) ∈ io := ⟨a, h⟩
  rw [dif_pos ex, u _ ex.choose_spec]
section
variable {K : PySem.W.Frag} {w : World} {xc : Nat → Addr} {df : Df} {A0 : Addr → Prop} {H : Hp} {vs : List V} {ds : List D} {as : List Addr}
theorem start_at {α : Type} {xs : List α} {n i : Nat} {x : α} (h : (xs.map some ++ List.replicate n none)[i]? = some (some x)) : xs[i]? = some x := by
  by_cases hi : i < xs.length
  · rw [List.getElem?_append_left (by simpa using hi), List.getElem?_map] at h
    cases z : xs[i]? with
    | none => rw [z] at h; cases h
    | some y => rw [z] at h; cases h; rfl
  · rw [List.getElem?_append_right (by simpa using hi), List.getElem?_replicate] at h
    split at h <;> cases h
theorem at_start {α : Type} {xs : List α} {n i : Nat} {x : α} (h : xs[i]? = some x) : (xs.map some ++ List.replicate n none)[i]? = some (some x) := by
  have hi := (List.getElem?_eq_some_iff.mp h).1
  rw [List.getElem?_append_left (by simpa using hi), List.getElem?_map, h]; rfl
/-- all stands at the entry -/
theorem sim_start {N : List Str} (hN : N.length = df.n) (hc : dfChk df = true) (lv : vs.length = df.ps) (ld : ds.length = df.ps) (hA : ∀ a, A0 a → H a ≠ none) (hnd : as.Nodup) (hio : Paired (fun i a => vs[i]? = some (.ref a) ∧ A0 a) df.io as)
    (hin : ∀ (i : Nat) v d, vs[i]? = some v → ds[i]? = some d → InP K w A0 H as (df.pm i) v d) (ho : (df.own.all fun i => df.io.contains i || !((ds[i]?.map isMut).getD false)) = true) :
    Sim (cbOf K w xc df A0 H vs ds as) (ow0 (df.io.zip as)) noA (L2.start N vs) H (ds.map some ++ List.replicate (df.n - ds.length) none) := by
  unfold dfChk at hc
  simp only [Bool.and_eq_true, decide_eq_true_eq, List.all_eq_true, List.contains_eq_mem, Bool.or_eq_true, Bool.not_eq_true', decide_eq_false_iff_not] at hc
  obtain ⟨⟨⟨c1, c2⟩, c3⟩, c4⟩ := hc
  have hz := paired_zip hio
  have own_in : ∀ {i : Nat} {a : Addr}, ow0 (df.io.zip as) i = some a → i ∈ df.io ∧ a ∈ as ∧ vs[i]? = some (.ref a) ∧ A0 a := fun {i a} h => by
    have := ow0_some h
    exact ⟨(List.of_mem_zip this).1, (List.of_mem_zip this).2, (hz _ this).1, (hz _ this).2⟩
  have lessA : Goes1 A0 (Av (cbOf K w xc df A0 H vs ds as) (ow0 (df.io.zip as)) noA) H H := go_less fun a h => by
    rcases h with h | ⟨i, h⟩ | h
    · exact h
    · exact (own_in h).2.2.2
    · exact h.elim
  have owned : ∀ {i : Nat}, i ∈ df.io → ∃ a, ow0 (df.io.zip as) i = some a ∧ (i, a) ∈ df.io.zip as := fun {i} h => by
    obtain ⟨a, ha⟩ := mem_zip_ex (paired_len hio) h
    exact ⟨a, ow0_of ha fun b hb => zip_fst c1 hb ha, ha⟩
  have notIo : ∀ {i : Nat}, i ∉ df.io → ow0 (df.io.zip as) i = none := fun {i} h => ow0_none fun a z => h (List.of_mem_zip z).1
  refine ⟨?_, fun a o _ h => h, fun i d nl h => ?_, fun i j a h1 h2 => ?_, fun i a h => ?_, fun i hi d h hm => ?_, fun p hp => ?_, fun a h => ?_, fun i a h z => z.elim, fun a h => hA a h, ⟨fun p hp => ?_, fun a ha => ?_⟩⟩
  · unfold L2.start
    simp only [List.length_append, List.length_map, List.length_replicate, lv, ld, hN]
  · have hd := start_at h
    have hi : i < df.ps := by rw [← ld]; exact (List.getElem?_eq_some_iff.mp hd).1
    obtain ⟨v, hv⟩ : ∃ v, vs[i]? = some v := ⟨_, List.getElem?_eq_getElem (by rw [lv]; exact hi)⟩
    have r := hin i v d hv hd
    by_cases hii : i ∈ df.io
    · obtain ⟨a, hO, hm⟩ := owned hii
      obtain ⟨e1, _⟩ := hz _ hm
      rw [hv] at e1
      cases e1
      rw [pm_io hii] at r
      obtain ⟨b, e2, r⟩ := r
      cases e2
      exact .inr ⟨a, hO, at_start hv, r.go lessA rfl⟩
    · by_cases hl : i ∈ df.lv
      · exact absurd rfl (nl _ (lnOf_of hi hl hii hv hd))
      · have : df.pm i = .plain := by unfold Df.pm; rw [if_neg hii, if_neg hl]
        rw [this] at r
        have r : Rep K w A0 H v d := r
        exact .inl ⟨notIo hii, v, at_start hv, r.go lessA⟩
  · exact zip_snd hnd (ow0_some h1) (ow0_some h2)
  · exact ⟨(c2 i (own_in h).1).1, .inr (ow0_some h)⟩
  · have hd := start_at h
    have hio' : i ∈ df.io := by
      rw [List.all_eq_true] at ho
      have := ho i hi
      rw [hd] at this
      simpa [hm] using this
    obtain ⟨a, hO, _⟩ := owned hio'
    exact ⟨a, hO⟩
  · obtain ⟨i, a⟩ := p
    exact ow0_of hp fun b hb => zip_fst c1 hb hp
  · rcases h with h | ⟨i, h⟩ | h
    · exact hA a h
    · exact hA a (own_in h).2.2.2
    · exact h.elim
  · obtain ⟨h1, h2, h3, h4, h5⟩ := lnOf_mem hp
    refine ⟨at_start h5, at_start h4, notIo h3, fun z => ?_, ?_⟩
    · rcases c3 _ h2 with w | w
      · exact w z
      · exact h3 w
    · have r := hin _ _ _ h4 h5
      have : df.pm p.1 = .lv := by unfold Df.pm; rw [if_neg h3, if_pos h2]
      rw [this] at r
      have r : Rep K w A0 H p.2.1 p.2.2 ∨ ∃ a, p.2.1 = .ref a ∧ Root K w A0 H a p.2.2 ∧ A0 a ∧ a ∉ as := r
      rcases r with r | ⟨a, e1, r, ha, hn⟩
      · exact .inl (r.go lessA)
      · exact .inr ⟨a, e1, r.go lessA rfl, p, hp, e1, r, ha, hn⟩
  · obtain ⟨p, hp, e1, r, h1, h2⟩ := ha
    exact ⟨r.trk, fun i z => h2 (own_in z).2.1, h1⟩
end
end Mp

namespace Mp
open PySem PySem.Spec PyProof.Rows L2
theorem ios_paired {K : PySem.W.Frag} {w : World} {A : Addr → Prop} {H' : Hp} {e : En} : ∀ {io : List Nat} {as : List Addr} {os : List D}, iosOf e io = some os → io.length = as.length → (∀ p ∈ io.zip as, ∀ d, e[p.1]? = some (some d) → Root K w A H' p.2 d) → Paired (fun a d => Root K w A H' a d) as os
  | [], [], os, h, _, _ => by cases h; exact .nil
  | i :: io, a :: as, os, h, hl, hr => by
    unfold iosOf at h
    cases z : e[i]? with
    | none => rw [z] at h; cases h
    | some o =>
      cases o with
      | none => rw [z] at h; cases h
      | some d =>
        rw [z] at h
        obtain ⟨os', h', rfl⟩ := Option.map_eq_some_iff.mp (show (iosOf e io).map (d :: ·) = some os from h)
        exact .cons (hr (i, a) (by simp) d z) (ios_paired h' (by simpa using hl) fun p hp => hr p (by rw [List.zip_cons_cons]; exact List.mem_cons_of_mem _ hp))
  | [], _ :: _, _, _, hl, _ => by simp at hl
  | _ :: _, [], _, _, hl, _ => by simp at hl
/-- what a body's end gives -/
theorem evT_of {K : PySem.W.Frag} {w : World} {xc : Nat → Addr} {df : Df} {A0 : Addr → Prop} {H : Hp} {vs : List V} {ds : List D} {as : List Addr} {Px : Px} {Q : VK} {E : XK} (hl : df.io.length = as.length) (h : RetC K w xc df.fr A0 H as Q E (runDf Px df ds)) :
    ds.length = df.ps ∧ (df.own.all fun i => df.io.contains i || !((ds[i]?.map isMut).getD false)) = true ∧ EvT (cbOf K w xc df A0 H vs ds as) df.fr (fun cls d _ H' => E cls d H') { nx := fun _ H' => Q .non H', rt := Q } (execs Px df.body (ds.map some ++ List.replicate (df.n - ds.length) none)) := by
  unfold runDf at h
  split at h
  · rename_i hc
    refine ⟨hc.1, hc.2.1, ?_⟩
    have nin : ∀ {a : Addr}, a ∉ as → ∀ p ∈ df.io.zip as, p.2 ≠ a := fun n p hp z => n (by rw [← z]; exact (List.of_mem_zip hp).2)
    generalize execs Px df.body (ds.map some ++ List.replicate (df.n - ds.length) none) = y at h
    cases y with
    | no => exact h
    | ex c d e' =>
      simp only at h
      cases hi : iosOf e' df.io with
      | none => rw [hi] at h; exact h.elim
      | some os =>
        rw [hi] at h
        have h : ∀ od H', EndC K w A0 H H' as os → DatC K w A0 H' d od → E (.ref (xc c)) od H' := h
        exact fun σ' od H' z => h od H' ⟨fun a o n e => z.keep a o (nin n) e, ios_paired hi hl z.io⟩ z.dat
    | ok f e' =>
      simp only at h
      cases hi : iosOf e' df.io with
      | none => rw [hi] at h; exact h.elim
      | some os =>
        rw [hi] at h
        have fin : ∀ {v : V} {d : D} {H' : Hp}, RetC K w xc df.fr A0 H as Q E (.ok d os) → RetS (cbOf K w xc df A0 H vs ds as) df.fr H' v d e' → Q v H' := fun {v d H'} h z => by
          have h : ∀ v H', EndC K w A0 H H' as os → Rep K w A0 H' v d → (df.fr = true → isMut d = true → ∃ p, v = .ref p ∧ H p = none ∧ Root K w (plus A0 p) H' p d ∧ EndC K w (plus A0 p) H H' as os) → Q v H' := h
          have kp : ∀ a o, a ∉ as → H a = some o → H' a = some o := fun a o n e => z.keep a o (nin n) e
          refine h v H' ⟨kp, ios_paired hi hl z.io⟩ z.val fun h1 h2 => ?_
          obtain ⟨p, e1, e2, r, rs⟩ := z.new h1 h2
          exact ⟨p, e1, e2, r, kp, ios_paired hi hl rs⟩
        cases f with
        | nx => exact fun σ' H' z => fin h z
        | brk => exact h.elim
        | cnt => exact h.elim
        | ret d => exact fun v H' z => fin h z
  · exact h.elim
theorem fn_df {P : Program} {w : World} {K : PySem.W.Frag} {mg : Str → Option Value} {base : Heap} {k : Nat} {f : Addr} {name qual : Str} {params : Arguments} {body : List Stmt} {scope : Scope} {dV kV doc pm cdv ct oc : Value} {an od : Option Addr}
    {osl : Array (Option Value)} {N ps : List Str} {xc : Nat → Addr} {df : Df} {Px : Px} {Z : Sx} {n : Nat} (lk : K.lookup f = some ⟨oc, od, .func (PySem.W.fnOf name qual params body scope dV kV doc pm an cdv ct), osl⟩) (hcd : PySem.W.codeIn K cdv qual = true) (S : FnScope N ps scope)
    (hps : ps.length = df.ps) (hN : N.length = df.n) (hc : dfChk df = true) (z1 : Z.N = N) (z2 : Z.sc = scope) (z3 : Z.own = df.own) (z4 : Z.io = df.io) (z5 : Z.lnt = df.lv) (hb : mTop n Z df.fr body df.body = true)
    (blt : ∀ x ∈ Z.blt, mg x = none) (cons : ∀ p ∈ Z.cons, ∃ v u, mg p.1 = some u ∧ RelV v u ∧ (∀ A H, Rep K w A H v (Px.G p.2)))
    (fns : ∀ p ∈ Z.fns, ∀ df', Z.df p.2 = some df' → Px.io p.2 = df'.io ∧ ∃ (a : Addr) (fd : FuncData) (ps : List Str) (j : Nat), mg p.1 = some (.ref a) ∧ j ≤ k ∧ Fn P w K mg base j a fd ps (spD K w xc df' (Px.F p.2)) ∧ PySem.W.keepIn K (.ref a) = true ∧ Binds K fd ps []) :
    Fn P w K mg base (k + 1) f (PySem.W.fnOf name qual params body scope dV kV doc pm an cdv ct) ps (spD K w xc df (runDf Px df)) := by
  refine fn_mk lk hcd S (fun vs H Q E h => h.1.trans hps.symm) fun A outer s H vs Q E hr hgd hsp => ?_
  obtain ⟨lv, A0, ds, as, ld, hA, hnd, hio, hin, hret⟩ := hsp
  have hl := paired_len hio
  obtain ⟨_, ho, hev⟩ := evT_of (vs := vs) hl hret
  have F : FxS Z (cbOf K w xc df A0 H vs ds as) (cxOf (L2.CX P w) P w K mg base N qual scope f cdv A outer s H E) Px (fun cls d _ H' => E cls d H') := {
    calm := rfl
    deep := by have hu := hr.un; show (A.deeper (envOfC qual scope s.heap.objs.size f cdv)).units + 200 < cLine; omega
    gds := hgd
    hK := rfl
    hw := rfl
    nm := z1.symm
    nod := S.nd
    scp := z2.symm
    own := fun i => by rw [z3]; exact Iff.rfl
    lnt := fun p hp => by rw [z5]; exact (lnOf_mem hp).2.1
    io := fun p hp => by rw [z4]; exact (List.of_mem_zip hp).1
    blt := blt
    cons := cons
    fns := fun p hp df' hdf => by
      obtain ⟨h1, a, fd, ps', j, h2, h3, h4, h5, h6⟩ := fns p hp df' hdf
      exact ⟨h1, a, fd, ps', j, h2, h4, hr.mono h3, h5, h6⟩
    tk := takes_of rfl rfl rfl rfl
    cel := fun _ _ => rfl
    pas := passes_of rfl
    io2 := fun i hi => by
      rw [z4] at hi
      obtain ⟨a, ha⟩ := mem_zip_ex hl hi
      exact List.mem_map.mpr ⟨_, ha, rfl⟩
    knd := S.kind }
  exact ⟨_, mTop_ok n F hb, ow0 (df.io.zip as), _, sim_start hN hc lv ld hA hnd hio hin ho, hev⟩
end Mp

namespace Mp
open PySem PySem.Spec PyProof.Rows L2
/-- a table's known names -/
structure Tb where
  T : Nat → Option Df
  cons : List (Str × Nat)
  fns : List (Str × Nat)
  blt : List Str
def Tb.sx (t : Tb) (N : List Str) (sc : Scope) (df : Df) : Sx := ⟨N, sc, df.own, df.lv, df.io, t.cons, t.fns, t.blt, t.T, fun _ => true⟩
/-- a def of the text stands where it is said to stand, and its body is as the table tells -/
structure DefAt (K : PySem.W.Frag) (mg : Str → Option Value) (t : Tb) (x : Str) (df : Df) (a : Addr) (fd : FuncData) (ps : List Str) : Prop where
  mg : mg x = some (.ref a)
  keep : PySem.W.keepIn K (.ref a) = true
  bnd : Binds K fd ps []
  stands : ∃ (name qual : Str) (params : Arguments) (body : List Stmt) (scope : Scope) (dV kV doc pm cdv ct oc : Value) (an od : Option Addr) (osl : Array (Option Value)) (N : List Str) (n : Nat), fd = PySem.W.fnOf name qual params body scope dV kV doc pm an cdv ct ∧
    K.lookup a = some ⟨oc, od, .func (PySem.W.fnOf name qual params body scope dV kV doc pm an cdv ct), osl⟩ ∧ PySem.W.codeIn K cdv qual = true ∧ FnScope N ps scope ∧ ps.length = df.ps ∧ N.length = df.n ∧ dfChk df = true ∧ mTop n (t.sx N scope df) df.fr body df.body = true
/-- the whole table -/
structure TabOk (K : PySem.W.Frag) (w : World) (mg : Str → Option Value) (t : Tb) (G : Nat → D) : Prop where
  blt : ∀ x ∈ t.blt, mg x = none
  cons : ∀ p ∈ t.cons, ∃ v u, mg p.1 = some u ∧ RelV v u ∧ (∀ A H, Rep K w A H v (G p.2))
  defs : ∀ p ∈ t.fns, ∀ df, t.T p.2 = some df → ∃ a fd ps, DefAt K mg t p.1 df a fd ps
theorem spD_no {K : PySem.W.Frag} {w : World} {xc : Nat → Addr} {df : Df} {F : List D → Ret} {vs : List V} {H : Hp} {Q : VK} {E : XK} (hF : ∀ ds, F ds = .no) (h : spD K w xc df F vs H Q E) : False := by
  obtain ⟨_, _, ds, _, _, _, _, _, _, h⟩ := h
  rw [hF] at h
  exact h
/-- every def of the table keeps its promise, calls n deep -/
theorem tab_fn {P : Program} {w : World} {K : PySem.W.Frag} {mg : Str → Option Value} {base : Heap} {xc : Nat → Addr} {t : Tb} {G : Nat → D} {wf : Nat} (ok : TabOk K w mg t G) : ∀ (n : Nat), ∀ p ∈ t.fns, ∀ df, t.T p.2 = some df → ∀ a fd ps, DefAt K mg t p.1 df a fd ps → Fn P w K mg base n a fd ps (spD K w xc df (run t.T G wf n p.2))
  | 0, p, hp, df, hdf, a, fd, ps, hd => by
    obtain ⟨_, _, _, _, _, _, _, _, _, _, _, _, _, _, _, _, _, rfl, _, _, _, hps, _⟩ := hd.stands
    exact ⟨fun vs H Q E h => h.1.trans hps.symm, fun A outer s H args us vs Q E _ _ _ _ _ h => (spD_no (fun _ => by simp only [run]) h).elim⟩
  | n + 1, p, hp, df, hdf, a, fd, ps, hd => by
    have e : run t.T G wf (n + 1) p.2 = runDf ⟨run t.T G wf n, G, fun g => ((t.T g).map (·.io)).getD [], wf⟩ df := by
      funext ds
      conv => lhs; unfold run
      rw [hdf]
    rw [e]
    obtain ⟨name, qual, params, body, scope, dV, kV, doc, pm, cdv, ct, oc, an, od, osl, N, m, rfl, lk, hcd, S, hps, hN, hc, hb⟩ := hd.stands
    refine fn_df lk hcd S hps hN hc rfl rfl rfl rfl rfl hb ok.blt ok.cons fun p' hp' df' hdf' => ?_
    have hio : ((t.T p'.2).map (·.io)).getD [] = df'.io := by
      have h2 : t.T p'.2 = some df' := hdf'
      rw [h2]; rfl
    refine ⟨hio, ?_⟩
    obtain ⟨a', fd', ps', hd'⟩ := ok.defs p' hp' df' hdf'
    exact ⟨a', fd', ps', n, hd'.mg, Nat.le_refl n, tab_fn ok n p' hp' df' hdf' a' fd' ps' hd', hd'.keep, hd'.bnd⟩
end Mp

namespace Mp
open PySem PySem.Spec PyProof.Rows L2
section
variable {P : Program} {w : World} {K : PySem.W.Frag} {mg mb : Str → Option Value} {k : Nat} {fa a : Addr} {fd : FuncData} {x : Str} {sp : Sp} {s : Shared} {vs : List Value} {ns : List Int}
/-- the call of the law, G told of the script alone -/
theorem law_core (kin : K.In s.heap) (hg : s.heap.Ns mainGlobals mg) (hb : s.heap.Ns builtinsNs mb) (hbb : ∀ y : Str, y ≠ "__name__" → mb y = bootBuiltins y) (nl : s.heap.NoLimit) (gs : s.gens = #[])
    (ha : s.heap.get? a = some { cls := .type "list", data := .seq vs.toArray }) (hr : Room k callerA) (F : ∀ base : Heap, K.In base → base.Ns mainGlobals mg → Fn P w K mg base k fa fd [x] sp) (bnd : ∀ (s : Shared) (u : Value), BindsTo s fd ⟨[u], []⟩ [(x, u)])
    {G : Hp} (oG : Only G) (hsp : sp [.ref a] G (fun v _ => v = .bl true) fun _ _ _ => False) (ok : HOk P w G s.heap) (hA : ∀ b, G b ≠ none → b = a) (hK : G a ≠ none → K.lookup a = none) :
    codeAny (model P w) callerA (.call (.ref fa) ⟨[.ref a], []⟩) (fun r s' => r = .ok (.ret (.bool true)) ∧ OldK s.heap s'.heap ∧ s'.os = s.os ∧ AllBare s'.gens) s := by
  have only : ∀ {b : Addr}, G b ≠ none → b = a := fun {b} h => hA b h
  have keepG : ∀ {b : Addr} {o : Obj}, s.heap.get? b = some o → (b = a → G a = none) → (hidT s.heap G).get? b = some o := fun {b o} e n => hidT_get e (by
    cases q : G b with
    | none => rfl
    | some u =>
      have eb := only (b := b) (by rw [q]; exact Option.some_ne_none u)
      rw [eb, n eb] at q; cases q)
  have dictG : ∀ {b : Addr} {m : Str → Option Value}, s.heap.Ns b m → (hidT s.heap G).Ns b m := by
    rintro b m ⟨o, es, ep, e, d, r⟩
    refine ⟨o, es, ep, keepG e fun eb => ?_, d, r⟩
    rw [eb, ha] at e
    cases e
    have d2 : Data.seq vs.toArray _ = Data.dict es ep := d
    cases d2
  have kinG : K.In (hidT s.heap G) := fun b o e => keepG (kin b o e) fun eb => by
    cases q : G a with
    | none => rfl
    | some u =>
      have := hK (by rw [q]; exact Option.some_ne_none u)
      rw [eb, this] at e; cases e
  have modG : Mod K mg (hidT s.heap G) := by
    obtain ⟨mc, c1, c2⟩ := nl
    exact ⟨kinG, dictG hg, ⟨mb, dictG hb, hbb⟩, mc, dictG c1, c2⟩
  have env : Env0 P w K mg (hidT s.heap G) callerA [] s G :=
    { frames := rfl, mod := modG, bs := fun b o e => of_hidT e, bsz := Nat.le_of_eq (hidT_size _ _), funs := trivial, frf := (fun b z => by cases z), hok := ok, bare := .of_eq gs }
  refine codeAny_mono ((F _ kinG (dictG hg)).go callerA [] s G ⟨[.ref a], []⟩ [.ref a] [.ref a] _ _ hr rfl env (bnd s (.ref a)) (.cons rfl .nil) hsp) fun r s' h => ?_
  cases r with
  | error e =>
    obtain ⟨_, _, _, _, _, _, _, _, _, _, _, _, z⟩ := h
    exact z.elim
  | ok fl =>
    cases fl with
    | next => exact False.elim h
    | brk => exact False.elim h
    | cont => exact False.elim h
    | ret u =>
      obtain ⟨v, G', os, bare, un, ok', ru, rfl⟩ := h
      have eu : u = Value.bool true := ru
      subst eu
      refine ⟨rfl, OldK.of_keep fun b o e => ?_, os, bare⟩
      rcases oG b with q | ⟨ob, xs, q⟩
      · exact un.keep b o e q (fun z => by cases z) (fun z => by cases z)
      · have e1 := (ok b _ q).1
        have e2 := (ok' b _ (un.frzs b ob _ q)).1
        rw [e] at e1; cases e1
        exact e2
theorem reps_ints {A : Addr → Prop} {G : Hp} : ∀ ns : List Int, RepAll K w A G (ns.map V.int) (ns.map PyData.int)
  | [] => .nil
  | n :: ns => .cons (.int n) (reps_ints ns)
/-- the law's promise at its script -/
theorem law_sp {xc : Nat → Addr} {df : Df} {F : List D → Ret} {G : Hp} (h1 : df.ps = 1) (h2 : df.io = []) (h3 : df.lv = []) (hF : F [.list (ns.map .int)] = .ok (.bool true) []) (r : Rep K w noA G (.ref a) (.list (ns.map .int))) :
    spD K w xc df F [.ref a] G (fun v _ => v = .bl true) fun _ _ _ => False := by
  refine ⟨by rw [h1]; rfl, noA, [.list (ns.map .int)], [], by rw [h1]; rfl, fun _ z => z.elim, List.nodup_nil, by rw [h2]; exact .nil, fun i v d hv hd => ?_, ?_⟩
  · have hp : df.pm i = .plain := by unfold Df.pm; rw [h2, h3]; rfl
    rw [hp]
    match i, hv, hd with
    | 0, hv, hd => cases hv; cases hd; exact r
    | i + 1, hv, _ => simp at hv
  · rw [hF]
    exact fun v H' _ rv _ => RepR.bl (.inl rv)
theorem law_fn {xc : Nat → Addr} {df : Df} {Fv : List D → Ret} (kin : K.In s.heap) (hg : s.heap.Ns mainGlobals mg) (hb : s.heap.Ns builtinsNs mb) (hbb : ∀ y : Str, y ≠ "__name__" → mb y = bootBuiltins y) (nl : s.heap.NoLimit) (gs : s.gens = #[])
    (ha : s.heap.get? a = some { cls := .type "list", data := .seq vs.toArray }) (hi : IntsAre vs ns) (hl : ns.length ≤ sizeLine) (hr : Room k callerA) (F : ∀ base : Heap, K.In base → base.Ns mainGlobals mg → Fn P w K mg base k fa fd [x] (spD K w xc df Fv)) (bnd : ∀ (s : Shared) (u : Value), BindsTo s fd ⟨[u], []⟩ [(x, u)])
    (h1 : df.ps = 1) (h2 : df.io = []) (h3 : df.lv = []) (hF : Fv [.list (ns.map .int)] = .ok (.bool true) []) :
    codeAny (model P w) callerA (.call (.ref fa) ⟨[.ref a], []⟩) (fun r s' => r = .ok (.ret (.bool true)) ∧ OldK s.heap s'.heap ∧ s'.os = s.os ∧ AllBare s'.gens) s := by
  have rv := vals_ints hi
  have hlen := hi.length
  cases hk : K.lookup a with
  | some o =>
    have e := kin a o hk
    rw [ha] at e
    cases e
    have lk : LK K a (ns.map V.int) := ⟨vs.toArray, _, hk, by rw [List.size_toArray, hlen]; exact hl, by simpa using rv⟩
    exact law_core kin hg hb hbb nl gs ha hr F bnd (G := fun _ => none) (fun _ => .inl rfl) (law_sp h1 h2 h3 hF (.lstK lk (reps_ints ns))) (fun b u z => by cases z) (fun b z => absurd rfl z) fun z => absurd rfl z
  | none =>
    let ob : Obj := { cls := .type "list", data := .seq vs.toArray }
    let G : Hp := upd (fun _ => none) a (.frz ob (.lst (ns.map V.int)))
    have Ga : G a = some (.frz ob (.lst (ns.map V.int))) := upd_same
    have Gn : ∀ {b : Addr}, b ≠ a → G b = none := fun h => upd_ne h
    refine law_core kin hg hb hbb nl gs ha hr F bnd (G := G) (fun b => ?_) (law_sp h1 h2 h3 hF (.lst (.inr ⟨ob, Ga⟩) (fun z => z) (reps_ints ns))) (fun b u z => ?_) (fun b z => ?_) fun _ => hk
    · by_cases hb : b = a
      · rw [hb]; exact .inr ⟨_, _, Ga⟩
      · exact .inl (Gn hb)
    · by_cases hb : b = a
      · rw [hb] at z ⊢
        rw [Ga] at z
        cases z
        exact ⟨ha, by rw [List.length_map]; exact hl, vs, _, rv, ha⟩
      · rw [Gn hb] at z; cases z
    · by_cases hb : b = a
      · exact hb
      · exact absurd (Gn hb) z
end
/-- a law by its value -/
theorem walk_fn {l : PySem.W.OpenLaw} {n k : Nat} {q : Program} {loose : List Str} {XP : (Str → Option Value) → Heap → Prop} {YP : World → Heap → Prop} {d : DefRec} {x : Str} {df : Df} {Fv : List D → Ret} {xc : World → PySem.W.Frag → Nat → Addr}
    (hn : l.most = some n) (hn2 : n ≤ sizeLine) (hdf : d.params.defaults = []) (hr : Room k callerA) (h1 : df.ps = 1) (h2 : df.io = []) (h3 : df.lv = []) (hF : ∀ ns : List Int, ns.length ≤ n → Fv [.list (ns.map .int)] = .ok (.bool true) [])
    (F : ∀ (w : World) (mg : Str → Option Value) (fa : Addr) (h : Heap), YP w h → h.Ns mainGlobals mg → mg d.name = some (.ref fa) →
      ∃ (K : PySem.W.Frag) (fd : FuncData), K.In h ∧ (∀ (s : Shared) (u : Value), BindsTo s fd ⟨[u], []⟩ [(x, u)]) ∧ ∀ base : Heap, K.In base → base.Ns mainGlobals mg → Fn l.prog w K mg base k fa fd [x] (spD K w (xc w K) df Fv)) :
    PySem.W.WalkO q loose XP YP l.row.toRowW d [] (fun f vs => PySem.call f vs) := by
  refine Att.attach_call hn hdf fun w s0 s1 mg mb fa o pm cd doc a vs ns G Y ho hd hcd hmg hobj hints hlen hg => ?_
  obtain ⟨K, fd, kin, bnd, hfn⟩ := F w mg fa _ Y G.T.g hmg
  exact law_fn kin G.T.g G.T.b G.T.builtins G.T.nolimit hg hobj hints (Nat.le_trans hlen hn2) hr hfn bnd h1 h2 h3 (hF ns hlen)
end Mp

/-! The module's constants, as they stand in the written part. -/
namespace Mp
open PySem PySem.Spec PyProof.Rows L2
mutual
def repB (K : PySem.W.Frag) : Nat → Value → D → Bool
  | 0, _, _ => false
  | n + 1, u, .none => match u with
    | .none => true
    | _ => false
  | n + 1, u, .bool b => match u with
    | .bool c => b == c
    | _ => false
  | n + 1, u, .int i => match u with
    | .int j _ => decide (i = j)
    | _ => false
  | n + 1, u, .str x => match u with
    | .str y _ => decide (x = y) && PyData.strOk x
    | _ => false
  | n + 1, u, .tuple ds => match u with
    | .ref a => match K.lookup a with
      | some ⟨.type c, none, .seq its _, _⟩ => decide (c = "tuple") && decide (its.size ≤ sizeLine) && repBs K n its.toList ds
      | _ => false
    | _ => false
  | n + 1, u, .list ds => match u with
    | .ref a => match K.lookup a with
      | some ⟨.type c, none, .seq its _, sl⟩ => decide (c = "list") && sl.isEmpty && decide (its.size ≤ sizeLine) && repBs K n its.toList ds
      | _ => false
    | _ => false
  | _, _, .dict _ => false
def repBs (K : PySem.W.Frag) : Nat → List Value → List D → Bool
  | 0, _, _ => false
  | _ + 1, [], [] => true
  | n + 1, u :: us, d :: ds => repB K n u d && repBs K n us ds
  | _, _, _ => false
end
theorem repB_both (K : PySem.W.Frag) : ∀ n : Nat, (∀ u d, repB K n u d = true → ∃ v, RelV v u ∧ ∀ w A H, Rep K w A H v d) ∧ ∀ us ds, repBs K n us ds = true → ∃ vs, Vals vs us ∧ ∀ w A H, RepAll K w A H vs ds
  | 0 => ⟨fun u d h => by simp [repB] at h, fun us ds h => by simp [repBs] at h⟩
  | n + 1 => by
    obtain ⟨ih1, ih2⟩ := repB_both K n
    constructor
    · intro u d h
      cases d with
      | none =>
        unfold repB at h
        split at h
        · exact ⟨.non, rfl, fun _ _ _ => .non⟩
        · cases h
      | bool b =>
        unfold repB at h
        split at h
        · rw [beq_iff_eq] at h; subst h; exact ⟨.bl b, rfl, fun _ _ _ => .bl b⟩
        · cases h
      | int i =>
        unfold repB at h
        split at h
        · have h := of_decide_eq_true h; subst h; exact ⟨.int i, ⟨_, rfl⟩, fun _ _ _ => .int i⟩
        · cases h
      | str x =>
        unfold repB at h
        split at h
        · rw [Bool.and_eq_true, decide_eq_true_eq] at h
          obtain ⟨rfl, h⟩ := h
          exact ⟨.str x, ⟨_, rfl⟩, fun _ _ _ => .str x h⟩
        · cases h
      | tuple ds =>
        unfold repB at h
        split at h
        · rename_i a
          split at h
          · rename_i c its m sl hk
            simp only [Bool.and_eq_true, decide_eq_true_eq] at h
            obtain ⟨⟨rfl, hz⟩, h⟩ := h
            obtain ⟨vs, h1, h2⟩ := ih2 _ _ h
            exact ⟨.ref a, rfl, fun w A H => .tupK ⟨⟨_, hk, rfl⟩, .inr ⟨_, its, m, hk, rfl, rfl, hz, h1⟩⟩ (h2 w A H)⟩
          · cases h
        · cases h
      | list ds =>
        unfold repB at h
        split at h
        · rename_i a
          split at h
          · rename_i c its m sl hk
            simp only [Bool.and_eq_true, decide_eq_true_eq] at h
            obtain ⟨⟨⟨rfl, hs⟩, hz⟩, h⟩ := h
            have hs := Array.isEmpty_iff.mp hs
            subst hs
            obtain ⟨vs, h1, h2⟩ := ih2 _ _ h
            exact ⟨.ref a, rfl, fun w A H => .lstK ⟨its, m, hk, hz, h1⟩ (h2 w A H)⟩
          · cases h
        · cases h
      | dict _ => simp [repB] at h
    · intro us ds h
      match us, ds, h with
      | [], [], _ => exact ⟨[], .nil, fun _ _ _ => .nil⟩
      | u :: us, d :: ds, h =>
        have h : (repB K n u d && repBs K n us ds) = true := by simpa only [repBs] using h
        rw [Bool.and_eq_true] at h
        obtain ⟨v, h1, h2⟩ := ih1 _ _ h.1
        obtain ⟨vs, h3, h4⟩ := ih2 _ _ h.2
        exact ⟨v :: vs, .cons h1 h3, fun w A H => .cons (h2 w A H) (h4 w A H)⟩
      | [], _ :: _, h => simp [repBs] at h
      | _ :: _, [], h => simp [repBs] at h
/-- a table's entries -/
def entB (K : PySem.W.Frag) : List DictEntry → List (D × D) → Bool
  | [], [] => true
  | e :: es, (k, d) :: kvs => (match e.key, k with
    | .str x _, .str y => decide (x = y) && PyData.strOk x
    | _, _ => false) && repB K 30 e.val d && entB K es kvs
  | _, _ => false
theorem entB_ok {K : PySem.W.Frag} : ∀ {es : List DictEntry} {kvs : List (D × D)}, entB K es kvs = true → ∃ vs : List (Str × V), Paired (fun (p : Str × V) (e : DictEntry) => ((∃ t, e.key = .str p.1 t) ∧ PyData.strOk p.1 = true) ∧ RelV p.2 e.val) vs es ∧ (∀ w A H, RepC K w A H vs kvs) ∧ vs.map (fun p => (.str p.1 : D)) = kvs.map (·.1)
  | [], [], _ => ⟨[], .nil, fun _ _ _ => .nil, rfl⟩
  | e :: es, (k, d) :: kvs, h => by
    simp only [entB, Bool.and_eq_true] at h
    obtain ⟨⟨h1, h2⟩, h3⟩ := h
    obtain ⟨v, r1, r2⟩ := (repB_both K 30).1 _ _ h2
    obtain ⟨vs, p1, p2, p3⟩ := entB_ok h3
    split at h1
    · rename_i x t y q
      rw [Bool.and_eq_true, decide_eq_true_eq] at h1
      obtain ⟨rfl, hs⟩ := h1
      exact ⟨(x, v) :: vs, .cons ⟨⟨⟨t, q⟩, hs⟩, r1⟩ p1, fun w A H => .cons (r2 w A H) (p2 w A H), by simp [p3]⟩
    · cases h1
  | [], _ :: _, h => by simp [entB] at h
  | _ :: _, [], h => by simp [entB] at h
/-- a constant of the module, looked at -/
def conB (K : PySem.W.Frag) (x : Str) : D → Bool
  | .dict kvs => decide (PySem.W.nsIn K mainGlobals x = some (some (.ref (He.ga K x)))) && decide (kvs.length ≤ sizeLine) && decide ((kvs.map (fun p => match p.1 with | .str y => y | _ => "")).Nodup) && (match K.lookup (He.ga K x) with
    | some ⟨_, _, .dict es _, _⟩ => entB K es.toList kvs
    | _ => false)
  | d => match PySem.W.nsIn K mainGlobals x with
    | some (some u) => repB K 30 u d
    | _ => false
theorem conB_dict {K : PySem.W.Frag} {w : World} {h : Heap} {mg : Str → Option Value} (X : K.In h) (G : h.Ns mainGlobals mg) {x : Str} {kvs : List (D × D)} (hb : conB K x (.dict kvs) = true) (hk : ∃ es n, KDict K w (He.ga K x) es n) :
    ∃ v u, mg x = some u ∧ RelV v u ∧ ∀ A H, Rep K w A H v (.dict kvs) := by
  unfold conB at hb
  simp only [Bool.and_eq_true, decide_eq_true_eq] at hb
  obtain ⟨⟨⟨h1, h2⟩, h3⟩, h4⟩ := hb
  obtain ⟨es, n, hd⟩ := hk
  rw [hd.at_] at h4
  obtain ⟨vs, p1, p2, p3⟩ := entB_ok h4
  refine ⟨.ref (He.ga K x), _, PySem.W.mg_of X G h1, rfl, fun A H => .dC ⟨?_, ?_, es, n, hd, p1⟩ (p2 w A H)⟩
  · have := congrArg List.length p3
    simp only [List.length_map] at this
    rw [this]; exact h2
  · have e : vs.map (·.1) = kvs.map (fun p => match p.1 with | .str y => y | _ => "") := by
      have q := congrArg (List.map (fun (d : D) => match d with | .str y => y | _ => ("" : Str))) p3
      simpa [List.map_map, Function.comp_def] using q
    rw [e]; exact h3
theorem conB_ok {K : PySem.W.Frag} {h : Heap} {mg : Str → Option Value} (X : K.In h) (G : h.Ns mainGlobals mg) {x : Str} {d : D} (hd : ∀ kvs, d ≠ .dict kvs) (hb : conB K x d = true) : ∃ v u, mg x = some u ∧ RelV v u ∧ ∀ w A H, Rep K w A H v d := by
  unfold conB at hb
  split at hb
  · exact absurd rfl (hd _)
  · split at hb
    · rename_i u hn
      obtain ⟨v, r1, r2⟩ := (repB_both K 30).1 _ _ hb
      exact ⟨v, u, PySem.W.mg_of X G hn, r1, r2⟩
    · cases hb
end Mp

namespace Mp
open PySem PySem.Spec PyProof.Rows L2
/-- facts by names, tables, and one more look at the written part -/
def obsM (fa : List He.Fa) (fn : List He.DefD) (ts : List He.Tab) (chk : PySem.W.Frag → Bool) (K : PySem.W.Frag) : He.AlT × Bool := (He.obsT fa fn ts K, chk K)
def hookM (n : Nat) (fa : List He.Fa) (fn : List He.DefD) (ts : List He.Tab) (chk : PySem.W.Frag → Bool) : PySem.W.Hook where
  α := He.AlT × Bool
  obs := fun s => obsM fa fn ts chk (He.frG s.heap.get? (He.asD s.heap.get? n))
  val := fun w => (He.valT fn ts w, true)
  says := fun w h => ∃ K : PySem.W.Frag, K.In h ∧ He.SaysT fa fn ts w K ∧ chk K = true
  of := fun w h e => ⟨_, He.frG_in, congrArg Prod.fst e, congrArg Prod.snd e⟩
  keeps := fun w h h' ⟨K, kin, c⟩ k => ⟨K, PySem.W.Frag.In.keeps kin k, c⟩
def obM (n : Nat) (fa : List He.Fa) (fn : List He.DefD) (ts : List He.Tab) (chk : PySem.W.Frag → Bool) (s : PySem.W.SharedT) : He.AlT × Bool := obsM fa fn ts chk (He.frG (HandSHeadRun.getT s) (He.asD (HandSHeadRun.getT s) n))
theorem obM_eq {n : Nat} {fa : List He.Fa} {fn : List He.DefD} {ts : List He.Tab} {chk : PySem.W.Frag → Bool} (s : PySem.W.SharedT) : obM n fa fn ts chk s = (hookM n fa fn ts chk).obs s.abs := by
  have e : HandSHeadRun.getT s = s.abs.heap.get? := funext (HandSHeadRun.getT_eq s)
  unfold obM
  rw [e]
  rfl
/-- a def of the text at its place in the table -/
theorem defAt_of {K : PySem.W.Frag} {mg : Str → Option Value} {t : Tb} {x : Str} {df : Df} {a : Addr} {fd : FuncData} {N ps : List Str} {qual : Str} {params : Arguments} {body : List Stmt} {scope : Scope} {n : Nat}
    (F : FunD K x qual params body scope [] [] a fd) (hm : mg x = some (.ref a)) (S : FnScope N ps scope) (hps : ps.length = df.ps) (hN : N.length = df.n) (hc : (dfChk df && mTop n (t.sx N scope df) df.fr body df.body) = true)
    (hb : ∀ (kV doc pm : Value) (an : Option Addr) (cdv ct : Value) (us : List Value), us.length = ps.length → bindArgs (PySem.W.fnOf x qual params body scope .none kV doc pm an cdv ct) ⟨us, []⟩ = pure (ps.zip us)) : DefAt K mg t x df a fd ps := by
  rw [Bool.and_eq_true] at hc
  obtain ⟨oc, od, dV, kV, doc, pm, an, cdv, ct, osl, e, lk, hcd, _, _⟩ := F.ex
  refine ⟨hm, F.kp, F.bindsN hb, x, qual, params, body, scope, dV, kV, doc, pm, cdv, ct, oc, an, od, osl, N, n, e, ?_, hcd, S, hps, hN, hc.1, hc.2⟩
  rw [e] at lk
  exact lk
end Mp

namespace K06
open PySem Mp L2
abbrev pr : Program := PySem.Challenge.pw_turnpaper_k06_whole_binders
def top (i : Nat) : Stmt := pr.main.body.getD i (.Pass ⟨0, 0, 0, 0⟩)
def d_parts : Df := ⟨2, 1, [], [], [], true,
  [.ite (.cmp .eq (.idx (.var 0) (.lit (.int 0))) (.lit (.str "call")))
    [.ret (.blt .list [.idx (.var 0) (.lit (.int 3))])]
    [],
  .ret (.lc (.idx (.var 0) (.var 1)) (.nm 1) .seq [.idx (.glob 0) (.idx (.var 0) (.lit (.int 0)))] [] [1])]⟩
def d_functions : Df := ⟨5, 1, [], [], [1], true,
  [.set 1 (.lst []),
  .for_ (.tp [2, 3]) .seq [.var 0]
    [.ext 1 (.lc (.bin .add (.tup [.var 2]) (.var 4)) (.nm 4) .seq [.var 3] [] [4])],
  .ret (.var 1)]⟩
def d_function : Df := ⟨4, 3, [], [], [], true,
  [.for_ (.nm 3) .seq [.call 1 [.var 0]]
    [.ite (.and [.cmp .eq (.idx (.var 3) (.lit (.int 0))) (.var 1), .cmp .eq (.idx (.var 3) (.lit (.int 1))) (.var 2)])
      [.ret (.slc (.var 3) (.lit (.int 2)) .nil)]
      []],
  .ret (.lit .none)]⟩
def d_is_spot : Df := ⟨2, 2, [], [], [], true,
  [.ret (.and [.isi (.var 0) [.int], .not (.isi (.var 0) [.bool]), .chn .le .lt (.lit (.int 0)) (.var 0) (.var 1)])]⟩
def d_part_at : Df := ⟨4, 2, [], [], [], false,
  [.for_ (.nm 2) .seq [.var 1]
    [.set 3 (.call 0 [.var 0]),
    .ite (.not (.call 3 [.var 2, .blt .len [.var 3]]))
      [.ret (.lit .none)]
      [],
    .set 0 (.idx (.var 3) (.var 2))],
  .ret (.var 0)]⟩
def d_at_way : Df := ⟨4, 2, [], [], [], false,
  [.ite (.or [.not (.isi (.var 1) [.tuple]), .cmp .lt (.blt .len [.var 1]) (.lit (.int 2)), .not (.blt .all [.lc (.isi (.var 3) [.str]) (.nm 3) .seq [.slc (.var 1) .nil (.lit (.int 2))] [] [3]])])
    [.ret (.lit .none)]
    [],
  .set 2 (.call 2 [.var 0, .idx (.var 1) (.lit (.int 0)), .idx (.var 1) (.lit (.int 1))]),
  .ret (.ite (.cmp .isn (.var 2) (.lit .none)) (.lit .none) (.call 4 [.idx (.var 2) (.lit (.int 1)), .slc (.var 1) (.lit (.int 2)) .nil]))]⟩
def d_more_round : Df := ⟨5, 4, [], [], [4], true,
  [.set 4 (.blt .dict [.var 2]),
  .ite (.and [.cmp .eq (.idx (.var 0) (.lit (.int 0))) (.lit (.str "let")), .cmp .eq (.var 3) (.lit (.int 1))])
    [.put 4 (.idx (.var 0) (.lit (.int 1))) (.tup [.lit (.str "let"), .var 1])]
    [],
  .ite (.and [.cmp .eq (.idx (.var 0) (.lit (.int 0))) (.lit (.str "times")), .cmp .eq (.var 3) (.lit (.int 2))])
    [.put 4 (.idx (.var 0) (.lit (.int 2))) (.tup [.lit (.str "count"), .var 1]),
    .put 4 (.idx (.var 0) (.lit (.int 3))) (.tup [.lit (.str "sum"), .var 1])]
    [],
  .ret (.var 4)]⟩
def d_uses_in : Df := ⟨6, 3, [], [], [3], true,
  [.ite (.cmp .eq (.idx (.var 0) (.lit (.int 0))) (.lit (.str "use")))
    [.ret (.lst [.tup [.var 1, .mth .get (.var 2) [.idx (.var 0) (.lit (.int 1))]]])]
    [],
  .set 3 (.lst []),
  .for_ (.tp [4, 5]) .enum [.call 0 [.var 0]]
    [.ext 3 (.call 7 [.var 5, .bin .add (.var 1) (.tup [.var 4]), .call 6 [.var 0, .var 1, .var 2, .var 4]])],
  .ret (.var 3)]⟩
def d_params_round : Df := ⟨5, 3, [], [], [], true,
  [.ret (.blt .dict [.lc (.tup [.var 4, .tup [.lit (.str "param"), .var 0, .var 1, .var 3]]) (.tp [3, 4]) .enum [.var 2] [] [3, 4]])]⟩
def d_round_way : Df := ⟨9, 2, [], [], [], false,
  [.setT [5, 6] (.slc (.var 1) .nil (.lit (.int 2))),
  .setT [7, 8] (.call 2 [.var 0, .var 5, .var 6]),
  .set 2 (.call 8 [.var 5, .var 6, .var 7]),
  .set 3 (.tup [.var 5, .var 6]),
  .for_ (.nm 4) .seq [.slc (.var 1) (.lit (.int 2)) .nil]
    [.set 2 (.call 6 [.var 8, .var 3, .var 2, .var 4]),
    .set 8 (.idx (.call 0 [.var 8]) (.var 4)),
    .set 3 (.bin .add (.var 3) (.tup [.var 4]))],
  .ret (.var 2)]⟩
def d_all_uses : Df := ⟨5, 3, [], [], [], true,
  [.setT [3, 4] (.call 2 [.var 0, .var 1, .var 2]),
  .ret (.call 7 [.var 4, .tup [.var 1, .var 2], .call 8 [.var 1, .var 2, .var 3]])]⟩
def d_binder_of : Df := ⟨2, 2, [], [], [], false,
  [.ret (.idx (.call 9 [.var 0, .var 1]) (.idx (.call 5 [.var 0, .var 1]) (.lit (.int 1))))]⟩
def d_home_of : Df := ⟨3, 2, [], [], [], true,
  [.ite (.or [.not (.isi (.var 1) [.tuple]), .cmp .lt (.blt .len [.var 1]) (.lit (.int 2)), .cmp .nin (.idx (.var 1) (.lit (.int 0))) (.tup [.lit (.str "param"), .lit (.str "let"), .lit (.str "count"), .lit (.str "sum")])])
    [.ret (.lit .none)]
    [],
  .ite (.cmp .eq (.idx (.var 1) (.lit (.int 0))) (.lit (.str "param")))
    [.ite (.or [.cmp .ne (.blt .len [.var 1]) (.lit (.int 4)), .not (.isi (.idx (.var 1) (.lit (.int 1))) [.str]), .not (.isi (.idx (.var 1) (.lit (.int 2))) [.str])])
      [.ret (.lit .none)]
      [],
    .set 2 (.call 2 [.var 0, .idx (.var 1) (.lit (.int 1)), .idx (.var 1) (.lit (.int 2))]),
    .ret (.ite (.and [.cmp .nis (.var 2) (.lit .none), .call 3 [.idx (.var 1) (.lit (.int 3)), .blt .len [.idx (.var 2) (.lit (.int 0))]]]) (.slc (.var 1) (.lit (.int 1)) (.lit (.int 3))) (.lit .none))]
    [],
  .set 2 (.ite (.cmp .eq (.blt .len [.var 1]) (.lit (.int 2))) (.call 5 [.var 0, .idx (.var 1) (.lit (.int 1))]) (.lit .none)),
  .ite (.or [.cmp .isn (.var 2) (.lit .none), .cmp .ne (.idx (.var 2) (.lit (.int 0))) (.idx (.dic [.lit (.str "let"), .lit (.str "let"), .lit (.str "count"), .lit (.str "times"), .lit (.str "sum"), .lit (.str "times")]) (.idx (.var 1) (.lit (.int 0))))])
    [.ret (.lit .none)]
    [],
  .ret (.slc (.idx (.var 1) (.lit (.int 1))) .nil (.lit (.int 2)))]⟩
def d_uses_of : Df := ⟨5, 2, [], [], [], true,
  [.set 2 (.call 12 [.var 0, .var 1]),
  .ite (.cmp .isn (.var 2) (.lit .none))
    [.ret (.lit .none)]
    [],
  .ret (.lc (.var 3) (.tp [3, 4]) .seq [.call 10 [.var 0, .idx (.var 2) (.lit (.int 0)), .idx (.var 2) (.lit (.int 1))]] [.cmp .eq (.var 4) (.var 1)] [3, 4])]⟩
def d_name_of : Df := ⟨3, 2, [], [], [], false,
  [.ite (.cmp .eq (.idx (.var 1) (.lit (.int 0))) (.lit (.str "param")))
    [.ret (.idx (.idx (.call 2 [.var 0, .idx (.var 1) (.lit (.int 1)), .idx (.var 1) (.lit (.int 2))]) (.lit (.int 0))) (.idx (.var 1) (.lit (.int 3))))]
    [],
  .set 2 (.call 5 [.var 0, .idx (.var 1) (.lit (.int 1))]),
  .ret (.idx (.var 2) (.idx (.dic [.lit (.str "let"), .lit (.int 1), .lit (.str "count"), .lit (.int 2), .lit (.str "sum"), .lit (.int 3)]) (.idx (.var 1) (.lit (.int 0)))))]⟩
def d__law_cell : Df := ⟨6, 2, [1], [], [1], true,
  [.put 1 (.lit (.int 0)) (.bin .add (.idx (.var 1) (.lit (.int 0))) (.lit (.int 1))),
  .set 2 (.idx (.var 1) (.lit (.int 0))),
  .set 3 (.bin .add (.bin .mul (.bin .mul (.lit (.int 31)) (.var 2)) (.var 2)) (.bin .mul (.lit (.int 7919)) (.var 2))),
  .ite (.and [.cmp .gt (.blt .len [.var 0]) (.lit (.int 0)), .cmp .ge (.idx (.var 0) (.bin .mod (.var 2) (.blt .len [.var 0]))) (.bin .pow (.lit (.int 10)) (.lit (.int 18))), .cmp .lt (.bin .fdiv (.var 2) (.blt .len [.var 0])) (.lit (.int 60))])
    [.set 4 (.idx (.var 0) (.bin .mod (.var 2) (.blt .len [.var 0]))),
    .for_ (.nm 5) .rng [.bin .fdiv (.var 2) (.blt .len [.var 0])]
      [.set 4 (.bin .fdiv (.var 4) (.lit (.int 306783379)))],
    .ite (.cmp .gt (.var 4) (.lit (.int 0)))
      [.ret (.bin .mod (.var 4) (.lit (.int 306783379)))]
      []]
    [],
  .ite (.cmp .gt (.blt .len [.var 0]) (.lit (.int 0)))
    [.set 3 (.bin .add (.var 3) (.bin .mul (.bin .mod (.idx (.var 0) (.bin .mod (.var 2) (.blt .len [.var 0]))) (.lit (.int 2147483629))) (.bin .add (.lit (.int 1)) (.bin .fdiv (.var 2) (.blt .len [.var 0])))))]
    [],
  .ret (.bin .fdiv (.bin .mod (.bin .mul (.bin .mod (.bin .mul (.var 3) (.lit (.int 48271))) (.lit (.int 2147483647))) (.lit (.int 69621))) (.lit (.int 2147483629))) (.lit (.int 7)))]⟩
def d__law_names : Df := ⟨5, 1, [], [], [2], true,
  [.set 1 (.lit (.str "qzbmxkcwhvjpgyld")),
  .set 2 (.lst [.lc (.var 4) (.nm 4) .seq [.var 1] [] [4], .lc (.bin .add (.bin .add (.lit (.str "n")) (.var 4)) (.lit (.str "or"))) (.nm 4) .seq [.var 1] [] [4]]),
  .app 2 (.bin .add (.lc (.slc (.lit (.str "graphite")) .nil (.bin .add (.var 3) (.lit (.int 1)))) (.nm 3) .rng [.lit (.int 8)] [] [3]) (.lc (.slc (.lit (.str "sandwich")) .nil (.bin .add (.var 3) (.lit (.int 1)))) (.nm 3) .rng [.lit (.int 8)] [] [3])),
  .set 2 (.idx (.var 2) (.bin .mod (.var 0) (.lit (.int 3)))),
  .ret (.lc (.idx (.var 2) (.bin .mod (.bin .add (.bin .fdiv (.var 0) (.lit (.int 3))) (.bin .mul (.bin .add (.bin .mul (.lit (.int 2)) (.bin .mod (.bin .fdiv (.var 0) (.lit (.int 48))) (.lit (.int 8)))) (.lit (.int 1))) (.var 3))) (.lit (.int 16)))) (.nm 3) .rng [.lit (.int 16)] [] [3])]⟩
def d__law_number : Df := ⟨1, 1, [], [], [], false,
  [.ret (.idx (.lst [.bin .mod (.bin .fdiv (.var 0) (.lit (.int 12))) (.lit (.int 5)), .bin .sub (.bin .mod (.bin .fdiv (.var 0) (.lit (.int 12))) (.lit (.int 5))) (.lit (.int 2)), .bin .mod (.bin .fdiv (.var 0) (.lit (.int 12))) (.lit (.int 100)), .idx (.lst [.bin .pow (.lit (.int 10)) (.lit (.int 30)), .neg (.bin .pow (.lit (.int 10)) (.lit (.int 30))), .lit (.int 1001), .lit (.int 0)]) (.bin .mod (.bin .fdiv (.var 0) (.lit (.int 12))) (.lit (.int 4)))]) (.bin .fdiv (.bin .mod (.var 0) (.lit (.int 12))) (.lit (.int 3))))]⟩
def d__law_leaf : Df := ⟨3, 3, [], [], [], true,
  [.ite (.and [.cmp .ne (.var 1) (.lst []), .cmp .gt (.bin .mod (.var 2) (.lit (.int 4))) (.lit (.int 0))])
    [.ret (.tup [.lit (.str "use"), .idx (.var 1) (.bin .mod (.bin .fdiv (.var 2) (.lit (.int 4))) (.blt .len [.var 1]))])]
    [],
  .ret (.tup [.lit (.str "num"), .call 17 [.bin .fdiv (.var 2) (.lit (.int 4))]])]⟩
def d__law_op : Df := ⟨8, 6, [1], [], [1], true,
  [.set 6 (.idx (.lit (.str "+-*=</&")) (.bin .mod (.var 5) (.idx (.lst [.lit (.int 7), .lit (.int 5)]) (.blt .int [.idx (.var 2) (.lit (.str "quiet"))])))),
  .set 7 (.call 22 [.var 0, .var 1, .var 2, .var 3, .bin .sub (.var 4) (.lit (.int 1))]),
  .ite (.cmp .eq (.var 6) (.lit (.str "*")))
    [.ret (.tup [.lit (.str "op"), .var 6, .var 7, .tup [.lit (.str "num"), .bin .sub (.bin .mod (.bin .fdiv (.var 5) (.lit (.int 7))) (.lit (.int 1000))) (.lit (.int 3))]])]
    [],
  .ret (.tup [.lit (.str "op"), .var 6, .var 7, .call 22 [.var 0, .var 1, .var 2, .var 3, .bin .sub (.var 4) (.lit (.int 1))]])]⟩
def d__law_times : Df := ⟨15, 6, [1], [], [1], true,
  [.set 6 (.idx (.var 2) (.lit (.str "names"))),
  .setT [12, 13] (.tup [.bin .mod (.bin .fdiv (.var 5) (.lit (.int 7))) (.lit (.int 5)), .bin .mod (.bin .fdiv (.var 5) (.lit (.int 35))) (.lit (.int 4))]),
  .set 7 (.bin .mod (.bin .add (.bin .add (.var 12) (.lit (.int 1))) (.var 13)) (.lit (.int 5))),
  .set 8 (.tup [.lit (.str "num"), .bin .mod (.var 5) (.lit (.int 4))]),
  .ite (.and [.not (.idx (.var 2) (.lit (.str "quiet"))), .cmp .eq (.bin .mod (.bin .fdiv (.var 5) (.lit (.int 140))) (.lit (.int 3))) (.lit (.int 1))])
    [.set 8 (.tup [.lit (.str "op"), .lit (.str "&"), .call 22 [.var 0, .var 1, .var 2, .var 3, .bin .sub (.var 4) (.lit (.int 2))], .tup [.lit (.str "num"), .lit (.int 4)]])]
    [.ite (.and [.not (.idx (.var 2) (.lit (.str "quiet"))), .cmp .eq (.bin .mod (.bin .fdiv (.var 5) (.lit (.int 140))) (.lit (.int 12))) (.lit (.int 2))])
      [.set 8 (.tup [.lit (.str "num"), .bin .add (.lit (.int 1000)) (.bin .mod (.bin .fdiv (.var 5) (.lit (.int 1680))) (.lit (.int 3)))])]
      []],
  .set 9 (.call 22 [.var 0, .var 1, .var 2, .var 3, .bin .sub (.var 4) (.lit (.int 1))]),
  .set 10 (.bin .add (.lc (.var 14) (.nm 14) .seq [.var 3] [.cmp .nin (.var 14) (.tup [.idx (.var 6) (.var 12), .idx (.var 6) (.var 7)])] [14]) (.lst [.idx (.var 6) (.var 12), .idx (.var 6) (.var 7)])),
  .set 11 (.call 22 [.var 0, .var 1, .var 2, .var 10, .bin .sub (.var 4) (.lit (.int 1))]),
  .ret (.tup [.lit (.str "times"), .var 8, .idx (.var 6) (.var 12), .idx (.var 6) (.var 7), .var 9, .var 11])]⟩
def d__law_call : Df := ⟨13, 6, [1], [], [1], true,
  [.set 6 (.lc (.var 11) (.nm 11) .seq [.idx (.var 2) (.lit (.str "ahead"))] [.or [.idx (.var 11) (.lit (.int 3)), .not (.idx (.var 2) (.lit (.str "quiet")))]] [11]),
  .ite (.cmp .eq (.var 6) (.lst []))
    [.ret (.call 18 [.var 2, .var 3, .var 5])]
    [],
  .setT [7, 8, 9, 10] (.idx (.var 6) (.bin .mod (.var 5) (.blt .len [.var 6]))),
  .ret (.tup [.lit (.str "call"), .var 7, .var 8, .blt .tuple [.lc (.call 22 [.var 0, .var 1, .var 2, .var 3, .bin .sub (.var 4) (.lit (.int 1))]) (.nm 12) .rng [.var 9] [] [12]]])]⟩
def d__law_expression : Df := ⟨13, 5, [1], [], [1], true,
  [.set 5 (.call 15 [.var 0, .var 1]),
  .par [6, 7] [.bin .mod (.var 5) (.lit (.int 16)), .bin .fdiv (.var 5) (.lit (.int 16))],
  .ite (.or [.cmp .lt (.var 4) (.lit (.int 2)), .cmp .lt (.var 6) (.lit (.int 3))])
    [.ret (.call 18 [.var 2, .var 3, .var 7])]
    [],
  .ite (.cmp .lt (.var 6) (.lit (.int 5)))
    [.ret (.call 21 [.var 0, .var 1, .var 2, .var 3, .var 4, .var 7])]
    [],
  .ite (.cmp .eq (.var 6) (.lit (.int 5)))
    [.ret (.call 20 [.var 0, .var 1, .var 2, .var 3, .var 4, .var 7])]
    [],
  .ite (.cmp .lt (.var 6) (.lit (.int 9)))
    [.set 8 (.idx (.idx (.var 2) (.lit (.str "names"))) (.bin .mod (.var 7) (.lit (.int 5)))),
    .set 9 (.call 22 [.var 0, .var 1, .var 2, .var 3, .bin .sub (.var 4) (.lit (.int 1))]),
    .set 10 (.bin .add (.lc (.var 11) (.nm 11) .seq [.var 3] [.cmp .ne (.var 11) (.var 8)] [11]) (.lst [.var 8])),
    .ret (.tup [.lit (.str "let"), .var 8, .var 9, .call 22 [.var 0, .var 1, .var 2, .var 10, .bin .sub (.var 4) (.lit (.int 1))]])]
    [],
  .ite (.cmp .eq (.var 6) (.lit (.int 9)))
    [.ret (.bin .add (.tup [.lit (.str "if")]) (.blt .tuple [.lc (.call 22 [.var 0, .var 1, .var 2, .var 3, .bin .sub (.var 4) (.lit (.int 1))]) (.nm 12) .rng [.lit (.int 3)] [] [12]]))]
    [],
  .ite (.and [.cmp .lt (.var 6) (.lit (.int 12)), .not (.idx (.var 2) (.lit (.str "quiet")))])
    [.set 9 (.call 22 [.var 0, .var 1, .var 2, .var 3, .bin .sub (.var 4) (.lit (.int 1))]),
    .ret (.tup [.lit (.str "tell"), .var 9, .call 22 [.var 0, .var 1, .var 2, .var 3, .bin .sub (.var 4) (.lit (.int 1))]])]
    [],
  .ite (.and [.cmp .eq (.var 6) (.lit (.int 12)), .not (.idx (.var 2) (.lit (.str "quiet"))), .cmp .eq (.bin .mod (.var 7) (.lit (.int 4))) (.lit (.int 1))])
    [.ret (.tup [.lit (.str "stop"), .call 22 [.var 0, .var 1, .var 2, .var 3, .bin .sub (.var 4) (.lit (.int 1))]])]
    [],
  .ret (.call 19 [.var 0, .var 1, .var 2, .var 3, .var 4, .var 7])]⟩
def d__law_program : Df := ⟨17, 3, [1], [], [1, 5, 9], true,
  [.set 3 (.call 15 [.var 0, .var 1]),
  .setT [7, 8] (.tup [.call 16 [.var 3], .call 16 [.bin .fdiv (.var 3) (.lit (.int 7))]]),
  .set 4 (.lst []),
  .set 5 (.lst []),
  .for_ (.nm 6) .rng [.bin .add (.lit (.int 1)) (.bin .mod (.bin .fdiv (.var 3) (.lit (.int 384))) (.lit (.int 3)))]
    [.set 9 (.lst []),
    .for_ (.nm 10) .rng [.blt .max [.blt .int [.cmp .eq (.var 6) (.lit (.int 0))], .bin .mod (.bin .fdiv (.call 15 [.var 0, .var 1]) (.lit (.int 5))) (.bin .add (.var 2) (.lit (.int 1)))]]
      [.set 11 (.call 15 [.var 0, .var 1]),
      .set 12 (.lc (.idx (.var 7) (.bin .mod (.bin .add (.var 11) (.bin .mul (.lit (.int 3)) (.var 16))) (.lit (.int 5)))) (.nm 16) .rng [.bin .mod (.bin .fdiv (.var 11) (.lit (.int 5))) (.lit (.int 4))] [] [16]),
      .set 13 (.dic [.lit (.str "names"), .var 7, .lit (.str "ahead"), .var 4, .lit (.str "quiet"), .cmp .eq (.bin .mod (.bin .fdiv (.var 11) (.lit (.int 20))) (.lit (.int 3))) (.lit (.int 0))]),
      .set 14 (.call 22 [.var 0, .var 1, .var 13, .var 12, .bin .add (.lit (.int 2)) (.bin .mod (.bin .fdiv (.var 11) (.lit (.int 60))) (.lit (.int 4)))]),
      .set 15 (.idx (.var 8) (.bin .mod (.bin .add (.bin .add (.bin .mod (.bin .fdiv (.var 11) (.lit (.int 240))) (.lit (.int 3))) (.lit (.int 5))) (.bin .mul (.lit (.int 3)) (.var 10))) (.lit (.int 16)))),
      .app 9 (.tup [.var 15, .blt .tuple [.var 12], .var 14]),
      .set 4 (.bin .add (.var 4) (.lst [.tup [.idx (.var 8) (.var 6), .var 15, .blt .len [.var 12], .idx (.var 13) (.lit (.str "quiet"))]]))],
    .app 5 (.tup [.idx (.var 8) (.var 6), .blt .tuple [.var 9]])],
  .ret (.blt .tuple [.var 5])]⟩
def d__law_spots : Df := ⟨2, 1, [], [], [], false,
  [.set 1 (.dic [.lit (.str "op"), .tup [.lit (.int 2), .lit (.int 3)], .lit (.str "let"), .tup [.lit (.int 2), .lit (.int 3)], .lit (.str "if"), .tup [.lit (.int 1), .lit (.int 2), .lit (.int 3)], .lit (.str "tell"), .tup [.lit (.int 1), .lit (.int 2)], .lit (.str "stop"), .tup [.lit (.int 1)], .lit (.str "times"), .tup [.lit (.int 1), .lit (.int 4), .lit (.int 5)]]),
  .ret (.mth .get (.var 1) [.idx (.var 0) (.lit (.int 0)), .tup []])]⟩
def d__law_parts : Df := ⟨2, 1, [], [], [], true,
  [.ret (.ite (.cmp .eq (.idx (.var 0) (.lit (.int 0))) (.lit (.str "call"))) (.blt .list [.idx (.var 0) (.lit (.int 3))]) (.lc (.idx (.var 0) (.var 1)) (.nm 1) .seq [.call 24 [.var 0]] [] [1]))]⟩
def d__law_rows : Df := ⟨5, 1, [], [], [1], true,
  [.set 1 (.lst [.tup []]),
  .for_ (.tp [2, 3]) .enum [.call 25 [.var 0]]
    [.ext 1 (.lc (.bin .add (.tup [.var 2]) (.var 4)) (.nm 4) .seq [.call 26 [.var 3]] [] [4])],
  .ret (.var 1)]⟩
def d__law_found : Df := ⟨6, 3, [], [], [], false,
  [.for_ (.tp [3, 4]) .seq [.var 0]
    [.for_ (.nm 5) .seq [.var 4]
      [.ite (.cmp .eq (.tup [.var 3, .idx (.var 5) (.lit (.int 0))]) (.tup [.var 1, .var 2]))
        [.ret (.var 5)]
        []]],
  .ret (.lit .none)]⟩
def d__law_at : Df := ⟨3, 2, [], [], [], false,
  [.for_ (.nm 2) .seq [.var 1]
    [.set 0 (.idx (.call 25 [.var 0]) (.var 2))],
  .ret (.var 0)]⟩
def d__law_nearest : Df := ⟨7, 3, [], [], [], true,
  [.set 3 (.slc (.var 0) (.lit (.int 2)) .nil),
  .set 4 (.idx (.call 28 [.var 2, .var 3]) (.lit (.int 1))),
  .while_ (.cmp .ne (.var 3) (.tup []))
    [.par [3, 6] [.slc (.var 3) .nil (.neg (.lit (.int 1))), .idx (.var 3) (.neg (.lit (.int 1)))],
    .set 5 (.call 28 [.var 2, .var 3]),
    .ite (.and [.cmp .eq (.idx (.var 5) (.lit (.int 0))) (.lit (.str "let")), .cmp .eq (.var 6) (.lit (.int 1)), .cmp .eq (.idx (.var 5) (.lit (.int 1))) (.var 4)])
      [.ret (.tup [.lit (.str "let"), .bin .add (.slc (.var 0) .nil (.lit (.int 2))) (.var 3)])]
      [],
    .ite (.and [.cmp .eq (.idx (.var 5) (.lit (.int 0))) (.lit (.str "times")), .cmp .eq (.var 6) (.lit (.int 2)), .cmp .in_ (.var 4) (.slc (.var 5) (.lit (.int 2)) (.lit (.int 4)))])
      [.ret (.tup [.idx (.lst [.lit (.str "count"), .lit (.str "sum")]) (.mth .index (.slc (.var 5) (.lit (.int 2)) (.lit (.int 4))) [.var 4]), .bin .add (.slc (.var 0) .nil (.lit (.int 2))) (.var 3)])]
      []],
  .ret (.bin .add (.bin .add (.tup [.lit (.str "param")]) (.slc (.var 0) .nil (.lit (.int 2)))) (.tup [.mth .index (.var 1) [.var 4]]))]⟩
def d__law_all : Df := ⟨9, 4, [], [], [4], true,
  [.set 4 (.lc (.tup [.tup [.lit (.str "param"), .var 0, .var 1, .var 7], .var 8]) (.tp [7, 8]) .enum [.var 2] [] [7, 8]),
  .for_ (.nm 5) .seq [.call 26 [.var 3]]
    [.set 6 (.call 28 [.var 3, .var 5]),
    .ite (.cmp .eq (.idx (.var 6) (.lit (.int 0))) (.lit (.str "let")))
      [.app 4 (.tup [.tup [.lit (.str "let"), .bin .add (.tup [.var 0, .var 1]) (.var 5)], .idx (.var 6) (.lit (.int 1))])]
      [],
    .ite (.cmp .eq (.idx (.var 6) (.lit (.int 0))) (.lit (.str "times")))
      [.set 4 (.bin .add (.var 4) (.lst [.tup [.tup [.lit (.str "count"), .bin .add (.tup [.var 0, .var 1]) (.var 5)], .idx (.var 6) (.lit (.int 2))], .tup [.tup [.lit (.str "sum"), .bin .add (.tup [.var 0, .var 1]) (.var 5)], .idx (.var 6) (.lit (.int 3))]]))]
      []],
  .ret (.var 4)]⟩
def d__law_right : Df := ⟨17, 3, [], [], [15], true,
  [.setT [6, 7, 8] (.call 27 [.var 0, .var 1, .var 2]),
  .set 3 (.lc (.bin .add (.tup [.var 1, .var 2]) (.var 13)) (.nm 13) .seq [.call 26 [.var 8]] [.cmp .eq (.idx (.call 28 [.var 8, .var 13]) (.lit (.int 0))) (.lit (.str "use"))] [13]),
  .set 4 (.lc (.tup [.var 14, .call 29 [.var 14, .var 7, .var 8]]) (.nm 14) .seq [.var 3] [] [14]),
  .ite (.cmp .ne (.lc (.call 11 [.var 0, .var 14]) (.nm 14) .seq [.var 3] [] [14]) (.lc (.var 16) (.tp [14, 16]) .seq [.var 4] [] [14, 16]))
    [.ret (.lit (.bool false))]
    [],
  .set 5 (.lst []),
  .for_ (.tp [9, 10]) .seq [.call 30 [.var 1, .var 2, .var 7, .var 8]]
    [.set 11 (.lc (.var 14) (.tp [14, 16]) .seq [.var 4] [.cmp .eq (.var 16) (.var 9)] [14, 16]),
    .for_ (.nm 12) .rng [.lit (.int 2)]
      [.set 15 (.call 13 [.var 0, .var 9]),
      .ite (.or [.not (.isi (.var 15) [.list]), .cmp .ne (.blt .repr [.var 15]) (.blt .repr [.var 11]), .cmp .ne (.call 14 [.var 0, .var 9]) (.var 10)])
        [.ret (.lit (.bool false))]
        [],
      .app 15 (.tup [])],
    .set 5 (.bin .add (.var 5) (.var 11))],
  .ret (.cmp .eq (.blt .sorted [.var 5]) (.blt .sorted [.var 3]))]⟩
def d_law : Df := ⟨8, 1, [], [], [3], true,
  [.par [2, 3] [.blt .list [.var 0], .lst [.neg (.lit (.int 1))]],
  .for_ (.nm 1) .rng [.bin .add (.lit (.int 1)) (.blt .min [.lit (.int 5), .blt .len [.var 0]])]
    [.set 4 (.call 23 [.var 2, .var 3, .lit (.int 3)]),
    .for_ (.tp [5, 6]) .seq [.var 4]
      [.for_ (.nm 7) .seq [.var 6]
        [.ite (.not (.call 31 [.var 4, .var 5, .idx (.var 7) (.lit (.int 0))]))
          [.ret (.lit (.bool false))]
          []]]],
  .ret (.lit (.bool true))]⟩
def T : Nat → Option Df
  | 0 => some d_parts
  | 1 => some d_functions
  | 2 => some d_function
  | 3 => some d_is_spot
  | 4 => some d_part_at
  | 5 => some d_at_way
  | 6 => some d_more_round
  | 7 => some d_uses_in
  | 8 => some d_params_round
  | 9 => some d_round_way
  | 10 => some d_all_uses
  | 11 => some d_binder_of
  | 12 => some d_home_of
  | 13 => some d_uses_of
  | 14 => some d_name_of
  | 15 => some d__law_cell
  | 16 => some d__law_names
  | 17 => some d__law_number
  | 18 => some d__law_leaf
  | 19 => some d__law_op
  | 20 => some d__law_times
  | 21 => some d__law_call
  | 22 => some d__law_expression
  | 23 => some d__law_program
  | 24 => some d__law_spots
  | 25 => some d__law_parts
  | 26 => some d__law_rows
  | 27 => some d__law_found
  | 28 => some d__law_at
  | 29 => some d__law_nearest
  | 30 => some d__law_all
  | 31 => some d__law_right
  | 32 => some d_law
  | _ => none
def fns : List (Str × Nat) := [(("parts" : Str), 0), (("functions" : Str), 1), (("function" : Str), 2), (("is_spot" : Str), 3), (("part_at" : Str), 4), (("at_way" : Str), 5), (("more_round" : Str), 6), (("uses_in" : Str), 7), (("params_round" : Str), 8), (("round_way" : Str), 9), (("all_uses" : Str), 10), (("binder_of" : Str), 11), (("home_of" : Str), 12), (("uses_of" : Str), 13), (("name_of" : Str), 14), (("_law_cell" : Str), 15), (("_law_names" : Str), 16), (("_law_number" : Str), 17), (("_law_leaf" : Str), 18), (("_law_op" : Str), 19), (("_law_times" : Str), 20), (("_law_call" : Str), 21), (("_law_expression" : Str), 22), (("_law_program" : Str), 23), (("_law_spots" : Str), 24), (("_law_parts" : Str), 25), (("_law_rows" : Str), 26), (("_law_found" : Str), 27), (("_law_at" : Str), 28), (("_law_nearest" : Str), 29), (("_law_all" : Str), 30), (("_law_right" : Str), 31), (("law" : Str), 32)]
def cons : List (Str × Nat) := [(("SPOTS" : Str), 0)]
def blt : List Str := ["all", "bool", "dict", "enumerate", "int", "isinstance", "len", "list", "max", "min", "range", "repr", "sorted", "str", "tuple"]
def tb : Tb := ⟨T, cons, fns, blt⟩
def n_parts : List Str := ["expression", "spot"]
theorem c_parts : (dfChk d_parts && mTop 60 (tb.sx n_parts (defScope (top 2)) d_parts) d_parts.fr (defBody (top 2)) d_parts.body) = true := by decide +kernel
def n_functions : List Str := ["program", "found", "m", "rows", "row"]
theorem c_functions : (dfChk d_functions && mTop 60 (tb.sx n_functions (defScope (top 3)) d_functions) d_functions.fr (defBody (top 3)) d_functions.body) = true := by decide +kernel
def n_function : List Str := ["program", "m", "f", "row"]
theorem c_function : (dfChk d_function && mTop 60 (tb.sx n_function (defScope (top 4)) d_function) d_function.fr (defBody (top 4)) d_function.body) = true := by decide +kernel
def n_is_spot : List Str := ["thing", "many"]
theorem c_is_spot : (dfChk d_is_spot && mTop 60 (tb.sx n_is_spot (defScope (top 6)) d_is_spot) d_is_spot.fr (defBody (top 6)) d_is_spot.body) = true := by decide +kernel
def n_part_at : List Str := ["expression", "row", "spot", "inside"]
theorem c_part_at : (dfChk d_part_at && mTop 60 (tb.sx n_part_at (defScope (top 7)) d_part_at) d_part_at.fr (defBody (top 7)) d_part_at.body) = true := by decide +kernel
def n_at_way : List Str := ["program", "way", "found", "name"]
theorem c_at_way : (dfChk d_at_way && mTop 60 (tb.sx n_at_way (defScope (top 8)) d_at_way) d_at_way.fr (defBody (top 8)) d_at_way.body) = true := by decide +kernel
def n_more_round : List Str := ["expression", "way", "around", "spot", "found"]
theorem c_more_round : (dfChk d_more_round && mTop 60 (tb.sx n_more_round (defScope (top 9)) d_more_round) d_more_round.fr (defBody (top 9)) d_more_round.body) = true := by decide +kernel
def n_uses_in : List Str := ["expression", "way", "around", "found", "spot", "part"]
theorem c_uses_in : (dfChk d_uses_in && mTop 60 (tb.sx n_uses_in (defScope (top 10)) d_uses_in) d_uses_in.fr (defBody (top 10)) d_uses_in.body) = true := by decide +kernel
def n_params_round : List Str := ["m", "f", "params", "place", "name"]
theorem c_params_round : (dfChk d_params_round && mTop 60 (tb.sx n_params_round (defScope (top 11)) d_params_round) d_params_round.fr (defBody (top 11)) d_params_round.body) = true := by decide +kernel
def n_round_way : List Str := ["program", "way", "around", "here", "spot", "m", "f", "params", "expression"]
theorem c_round_way : (dfChk d_round_way && mTop 60 (tb.sx n_round_way (defScope (top 12)) d_round_way) d_round_way.fr (defBody (top 12)) d_round_way.body) = true := by decide +kernel
def n_all_uses : List Str := ["program", "m", "f", "params", "body"]
theorem c_all_uses : (dfChk d_all_uses && mTop 60 (tb.sx n_all_uses (defScope (top 13)) d_all_uses) d_all_uses.fr (defBody (top 13)) d_all_uses.body) = true := by decide +kernel
def n_binder_of : List Str := ["program", "way"]
theorem c_binder_of : (dfChk d_binder_of && mTop 60 (tb.sx n_binder_of (defScope (top 14)) d_binder_of) d_binder_of.fr (defBody (top 14)) d_binder_of.body) = true := by decide +kernel
def n_home_of : List Str := ["program", "thing", "found"]
theorem c_home_of : (dfChk d_home_of && mTop 60 (tb.sx n_home_of (defScope (top 15)) d_home_of) d_home_of.fr (defBody (top 15)) d_home_of.body) = true := by decide +kernel
def n_uses_of : List Str := ["program", "binder", "home", "way", "one"]
theorem c_uses_of : (dfChk d_uses_of && mTop 60 (tb.sx n_uses_of (defScope (top 16)) d_uses_of) d_uses_of.fr (defBody (top 16)) d_uses_of.body) = true := by decide +kernel
def n_name_of : List Str := ["program", "binder", "expression"]
theorem c_name_of : (dfChk d_name_of && mTop 60 (tb.sx n_name_of (defScope (top 17)) d_name_of) d_name_of.fr (defBody (top 17)) d_name_of.body) = true := by decide +kernel
def n__law_cell : List Str := ["_law_cells", "_law_spot", "_law_k", "_law_base", "_law_own", "_law_turn"]
theorem c__law_cell : (dfChk d__law_cell && mTop 60 (tb.sx n__law_cell (defScope (top 19)) d__law_cell) d__law_cell.fr (defBody (top 19)) d__law_cell.body) = true := by decide +kernel
def n__law_names : List Str := ["_law_n", "_law_letters", "_law_some", "_law_k", "_law_sign"]
theorem c__law_names : (dfChk d__law_names && mTop 60 (tb.sx n__law_names (defScope (top 20)) d__law_names) d__law_names.fr (defBody (top 20)) d__law_names.body) = true := by decide +kernel
def n__law_number : List Str := ["_law_n"]
theorem c__law_number : (dfChk d__law_number && mTop 60 (tb.sx n__law_number (defScope (top 21)) d__law_number) d__law_number.fr (defBody (top 21)) d__law_number.body) = true := by decide +kernel
def n__law_leaf : List Str := ["_law_at_here", "_law_scope", "_law_n"]
theorem c__law_leaf : (dfChk d__law_leaf && mTop 60 (tb.sx n__law_leaf (defScope (top 22)) d__law_leaf) d__law_leaf.fr (defBody (top 22)) d__law_leaf.body) = true := by decide +kernel
def n__law_op : List Str := ["_law_cells", "_law_spot", "_law_at_here", "_law_scope", "_law_deep", "_law_n", "_law_sign", "_law_one"]
theorem c__law_op : (dfChk d__law_op && mTop 60 (tb.sx n__law_op (defScope (top 23)) d__law_op) d__law_op.fr (defBody (top 23)) d__law_op.body) = true := by decide +kernel
def n__law_times : List Str := ["_law_cells", "_law_spot", "_law_at_here", "_law_scope", "_law_deep", "_law_n", "_law_names_here", "_law_second", "_law_many", "_law_one", "_law_inner", "_law_other", "_law_first", "_law_behind", "_law_name"]
theorem c__law_times : (dfChk d__law_times && mTop 60 (tb.sx n__law_times (defScope (top 24)) d__law_times) d__law_times.fr (defBody (top 24)) d__law_times.body) = true := by decide +kernel
def n__law_call : List Str := ["_law_cells", "_law_spot", "_law_at_here", "_law_scope", "_law_deep", "_law_n", "_law_some", "_law_m", "_law_f", "_law_many", "_law_calm", "_law_row", "_law_k"]
theorem c__law_call : (dfChk d__law_call && mTop 60 (tb.sx n__law_call (defScope (top 25)) d__law_call) d__law_call.fr (defBody (top 25)) d__law_call.body) = true := by decide +kernel
def n__law_expression : List Str := ["_law_cells", "_law_spot", "_law_at_here", "_law_scope", "_law_deep", "_law_n", "_law_way", "_law_more", "_law_name", "_law_one", "_law_inner", "_law_other", "_law_k"]
theorem c__law_expression : (dfChk d__law_expression && mTop 60 (tb.sx n__law_expression (defScope (top 26)) d__law_expression) d__law_expression.fr (defBody (top 26)) d__law_expression.body) = true := by decide +kernel
def n__law_program : List Str := ["_law_cells", "_law_spot", "_law_most", "_law_n", "_law_ahead", "_law_modules", "_law_k", "_law_names_here", "_law_rooms", "_law_room", "_law_j", "_law_more", "_law_params", "_law_at_here", "_law_body", "_law_name", "_law_i"]
theorem c__law_program : (dfChk d__law_program && mTop 60 (tb.sx n__law_program (defScope (top 27)) d__law_program) d__law_program.fr (defBody (top 27)) d__law_program.body) = true := by decide +kernel
def n__law_spots : List Str := ["_law_e", "_law_some"]
theorem c__law_spots : (dfChk d__law_spots && mTop 60 (tb.sx n__law_spots (defScope (top 28)) d__law_spots) d__law_spots.fr (defBody (top 28)) d__law_spots.body) = true := by decide +kernel
def n__law_parts : List Str := ["_law_e", "_law_spot"]
theorem c__law_parts : (dfChk d__law_parts && mTop 60 (tb.sx n__law_parts (defScope (top 29)) d__law_parts) d__law_parts.fr (defBody (top 29)) d__law_parts.body) = true := by decide +kernel
def n__law_rows : List Str := ["_law_e", "_law_found_here", "_law_k", "_law_part", "_law_row"]
theorem c__law_rows : (dfChk d__law_rows && mTop 60 (tb.sx n__law_rows (defScope (top 30)) d__law_rows) d__law_rows.fr (defBody (top 30)) d__law_rows.body) = true := by decide +kernel
def n__law_found : List Str := ["_law_program_here", "_law_m", "_law_f", "_law_name", "_law_room", "_law_one"]
theorem c__law_found : (dfChk d__law_found && mTop 60 (tb.sx n__law_found (defScope (top 31)) d__law_found) d__law_found.fr (defBody (top 31)) d__law_found.body) = true := by decide +kernel
def n__law_at : List Str := ["_law_body", "_law_row", "_law_k"]
theorem c__law_at : (dfChk d__law_at && mTop 60 (tb.sx n__law_at (defScope (top 32)) d__law_at) d__law_at.fr (defBody (top 32)) d__law_at.body) = true := by decide +kernel
def n__law_nearest : List Str := ["_law_way", "_law_params", "_law_body", "_law_row", "_law_name", "_law_e", "_law_k"]
theorem c__law_nearest : (dfChk d__law_nearest && mTop 60 (tb.sx n__law_nearest (defScope (top 33)) d__law_nearest) d__law_nearest.fr (defBody (top 33)) d__law_nearest.body) = true := by decide +kernel
def n__law_all : List Str := ["_law_m", "_law_f", "_law_params", "_law_body", "_law_found_here", "_law_row", "_law_e", "_law_k", "_law_name"]
theorem c__law_all : (dfChk d__law_all && mTop 60 (tb.sx n__law_all (defScope (top 34)) d__law_all) d__law_all.fr (defBody (top 34)) d__law_all.body) = true := by decide +kernel
def n__law_right : List Str := ["_law_program_here", "_law_m", "_law_f", "_law_ways", "_law_due", "_law_seen", "_law_name", "_law_params", "_law_body", "_law_binder", "_law_called", "_law_some", "_law_again", "_law_row", "_law_way", "_law_told", "_law_one"]
theorem c__law_right : (dfChk d__law_right && mTop 60 (tb.sx n__law_right (defScope (top 35)) d__law_right) d__law_right.fr (defBody (top 35)) d__law_right.body) = true := by decide +kernel
def n_law : List Str := ["_law_script", "_law_turn", "_law_cells", "_law_spot", "_law_program_here", "_law_m", "_law_rows_here", "_law_row"]
theorem c_law : (dfChk d_law && mTop 60 (tb.sx n_law (defScope (top 36)) d_law) d_law.fr (defBody (top 36)) d_law.body) = true := by decide +kernel
def G : Nat → D
  | 0 => (.dict [((.str "num"), (.tuple [])), ((.str "use"), (.tuple [])), ((.str "op"), (.tuple [(.int 2), (.int 3)])), ((.str "let"), (.tuple [(.int 2), (.int 3)])), ((.str "if"), (.tuple [(.int 1), (.int 2), (.int 3)])), ((.str "times"), (.tuple [(.int 1), (.int 4), (.int 5)])), ((.str "tell"), (.tuple [(.int 1), (.int 2)])), ((.str "stop"), (.tuple [(.int 1)]))])
  | _ => .none
theorem sc_parts : FnScope n_parts ["expression"] (defScope (top 2)) := ⟨rfl, rfl, rfl, by decide +kernel, rfl, by decide +kernel, by decide +kernel⟩
def D_parts : He.DefD := ⟨("parts", none), "parts", "parts", defArgs (top 2), defBody (top 2), defScope (top 2), [], []⟩
theorem sc_functions : FnScope n_functions ["program"] (defScope (top 3)) := ⟨rfl, rfl, rfl, by decide +kernel, rfl, by decide +kernel, by decide +kernel⟩
def D_functions : He.DefD := ⟨("functions", none), "functions", "functions", defArgs (top 3), defBody (top 3), defScope (top 3), [], []⟩
theorem sc_function : FnScope n_function ["program", "m", "f"] (defScope (top 4)) := ⟨rfl, rfl, rfl, by decide +kernel, rfl, by decide +kernel, by decide +kernel⟩
def D_function : He.DefD := ⟨("function", none), "function", "function", defArgs (top 4), defBody (top 4), defScope (top 4), [], []⟩
theorem sc_is_spot : FnScope n_is_spot ["thing", "many"] (defScope (top 6)) := ⟨rfl, rfl, rfl, by decide +kernel, rfl, by decide +kernel, by decide +kernel⟩
def D_is_spot : He.DefD := ⟨("is_spot", none), "is_spot", "is_spot", defArgs (top 6), defBody (top 6), defScope (top 6), [], []⟩
theorem sc_part_at : FnScope n_part_at ["expression", "row"] (defScope (top 7)) := ⟨rfl, rfl, rfl, by decide +kernel, rfl, by decide +kernel, by decide +kernel⟩
def D_part_at : He.DefD := ⟨("part_at", none), "part_at", "part_at", defArgs (top 7), defBody (top 7), defScope (top 7), [], []⟩
theorem sc_at_way : FnScope n_at_way ["program", "way"] (defScope (top 8)) := ⟨rfl, rfl, rfl, by decide +kernel, rfl, by decide +kernel, by decide +kernel⟩
def D_at_way : He.DefD := ⟨("at_way", none), "at_way", "at_way", defArgs (top 8), defBody (top 8), defScope (top 8), [], []⟩
theorem sc_more_round : FnScope n_more_round ["expression", "way", "around", "spot"] (defScope (top 9)) := ⟨rfl, rfl, rfl, by decide +kernel, rfl, by decide +kernel, by decide +kernel⟩
def D_more_round : He.DefD := ⟨("more_round", none), "more_round", "more_round", defArgs (top 9), defBody (top 9), defScope (top 9), [], []⟩
theorem sc_uses_in : FnScope n_uses_in ["expression", "way", "around"] (defScope (top 10)) := ⟨rfl, rfl, rfl, by decide +kernel, rfl, by decide +kernel, by decide +kernel⟩
def D_uses_in : He.DefD := ⟨("uses_in", none), "uses_in", "uses_in", defArgs (top 10), defBody (top 10), defScope (top 10), [], []⟩
theorem sc_params_round : FnScope n_params_round ["m", "f", "params"] (defScope (top 11)) := ⟨rfl, rfl, rfl, by decide +kernel, rfl, by decide +kernel, by decide +kernel⟩
def D_params_round : He.DefD := ⟨("params_round", none), "params_round", "params_round", defArgs (top 11), defBody (top 11), defScope (top 11), [], []⟩
theorem sc_round_way : FnScope n_round_way ["program", "way"] (defScope (top 12)) := ⟨rfl, rfl, rfl, by decide +kernel, rfl, by decide +kernel, by decide +kernel⟩
def D_round_way : He.DefD := ⟨("round_way", none), "round_way", "round_way", defArgs (top 12), defBody (top 12), defScope (top 12), [], []⟩
theorem sc_all_uses : FnScope n_all_uses ["program", "m", "f"] (defScope (top 13)) := ⟨rfl, rfl, rfl, by decide +kernel, rfl, by decide +kernel, by decide +kernel⟩
def D_all_uses : He.DefD := ⟨("all_uses", none), "all_uses", "all_uses", defArgs (top 13), defBody (top 13), defScope (top 13), [], []⟩
theorem sc_binder_of : FnScope n_binder_of ["program", "way"] (defScope (top 14)) := ⟨rfl, rfl, rfl, by decide +kernel, rfl, by decide +kernel, by decide +kernel⟩
def D_binder_of : He.DefD := ⟨("binder_of", none), "binder_of", "binder_of", defArgs (top 14), defBody (top 14), defScope (top 14), [], []⟩
theorem sc_home_of : FnScope n_home_of ["program", "thing"] (defScope (top 15)) := ⟨rfl, rfl, rfl, by decide +kernel, rfl, by decide +kernel, by decide +kernel⟩
def D_home_of : He.DefD := ⟨("home_of", none), "home_of", "home_of", defArgs (top 15), defBody (top 15), defScope (top 15), [], []⟩
theorem sc_uses_of : FnScope n_uses_of ["program", "binder"] (defScope (top 16)) := ⟨rfl, rfl, rfl, by decide +kernel, rfl, by decide +kernel, by decide +kernel⟩
def D_uses_of : He.DefD := ⟨("uses_of", none), "uses_of", "uses_of", defArgs (top 16), defBody (top 16), defScope (top 16), [], []⟩
theorem sc_name_of : FnScope n_name_of ["program", "binder"] (defScope (top 17)) := ⟨rfl, rfl, rfl, by decide +kernel, rfl, by decide +kernel, by decide +kernel⟩
def D_name_of : He.DefD := ⟨("name_of", none), "name_of", "name_of", defArgs (top 17), defBody (top 17), defScope (top 17), [], []⟩
theorem sc__law_cell : FnScope n__law_cell ["_law_cells", "_law_spot"] (defScope (top 19)) := ⟨rfl, rfl, rfl, by decide +kernel, rfl, by decide +kernel, by decide +kernel⟩
def D__law_cell : He.DefD := ⟨("_law_cell", none), "_law_cell", "_law_cell", defArgs (top 19), defBody (top 19), defScope (top 19), [], []⟩
theorem sc__law_names : FnScope n__law_names ["_law_n"] (defScope (top 20)) := ⟨rfl, rfl, rfl, by decide +kernel, rfl, by decide +kernel, by decide +kernel⟩
def D__law_names : He.DefD := ⟨("_law_names", none), "_law_names", "_law_names", defArgs (top 20), defBody (top 20), defScope (top 20), [], []⟩
theorem sc__law_number : FnScope n__law_number ["_law_n"] (defScope (top 21)) := ⟨rfl, rfl, rfl, by decide +kernel, rfl, by decide +kernel, by decide +kernel⟩
def D__law_number : He.DefD := ⟨("_law_number", none), "_law_number", "_law_number", defArgs (top 21), defBody (top 21), defScope (top 21), [], []⟩
theorem sc__law_leaf : FnScope n__law_leaf ["_law_at_here", "_law_scope", "_law_n"] (defScope (top 22)) := ⟨rfl, rfl, rfl, by decide +kernel, rfl, by decide +kernel, by decide +kernel⟩
def D__law_leaf : He.DefD := ⟨("_law_leaf", none), "_law_leaf", "_law_leaf", defArgs (top 22), defBody (top 22), defScope (top 22), [], []⟩
theorem sc__law_op : FnScope n__law_op ["_law_cells", "_law_spot", "_law_at_here", "_law_scope", "_law_deep", "_law_n"] (defScope (top 23)) := ⟨rfl, rfl, rfl, by decide +kernel, rfl, by decide +kernel, by decide +kernel⟩
def D__law_op : He.DefD := ⟨("_law_op", none), "_law_op", "_law_op", defArgs (top 23), defBody (top 23), defScope (top 23), [], []⟩
theorem sc__law_times : FnScope n__law_times ["_law_cells", "_law_spot", "_law_at_here", "_law_scope", "_law_deep", "_law_n"] (defScope (top 24)) := ⟨rfl, rfl, rfl, by decide +kernel, rfl, by decide +kernel, by decide +kernel⟩
def D__law_times : He.DefD := ⟨("_law_times", none), "_law_times", "_law_times", defArgs (top 24), defBody (top 24), defScope (top 24), [], []⟩
theorem sc__law_call : FnScope n__law_call ["_law_cells", "_law_spot", "_law_at_here", "_law_scope", "_law_deep", "_law_n"] (defScope (top 25)) := ⟨rfl, rfl, rfl, by decide +kernel, rfl, by decide +kernel, by decide +kernel⟩
def D__law_call : He.DefD := ⟨("_law_call", none), "_law_call", "_law_call", defArgs (top 25), defBody (top 25), defScope (top 25), [], []⟩
theorem sc__law_expression : FnScope n__law_expression ["_law_cells", "_law_spot", "_law_at_here", "_law_scope", "_law_deep"] (defScope (top 26)) := ⟨rfl, rfl, rfl, by decide +kernel, rfl, by decide +kernel, by decide +kernel⟩
def D__law_expression : He.DefD := ⟨("_law_expression", none), "_law_expression", "_law_expression", defArgs (top 26), defBody (top 26), defScope (top 26), [], []⟩
theorem sc__law_program : FnScope n__law_program ["_law_cells", "_law_spot", "_law_most"] (defScope (top 27)) := ⟨rfl, rfl, rfl, by decide +kernel, rfl, by decide +kernel, by decide +kernel⟩
def D__law_program : He.DefD := ⟨("_law_program", none), "_law_program", "_law_program", defArgs (top 27), defBody (top 27), defScope (top 27), [], []⟩
theorem sc__law_spots : FnScope n__law_spots ["_law_e"] (defScope (top 28)) := ⟨rfl, rfl, rfl, by decide +kernel, rfl, by decide +kernel, by decide +kernel⟩
def D__law_spots : He.DefD := ⟨("_law_spots", none), "_law_spots", "_law_spots", defArgs (top 28), defBody (top 28), defScope (top 28), [], []⟩
theorem sc__law_parts : FnScope n__law_parts ["_law_e"] (defScope (top 29)) := ⟨rfl, rfl, rfl, by decide +kernel, rfl, by decide +kernel, by decide +kernel⟩
def D__law_parts : He.DefD := ⟨("_law_parts", none), "_law_parts", "_law_parts", defArgs (top 29), defBody (top 29), defScope (top 29), [], []⟩
theorem sc__law_rows : FnScope n__law_rows ["_law_e"] (defScope (top 30)) := ⟨rfl, rfl, rfl, by decide +kernel, rfl, by decide +kernel, by decide +kernel⟩
def D__law_rows : He.DefD := ⟨("_law_rows", none), "_law_rows", "_law_rows", defArgs (top 30), defBody (top 30), defScope (top 30), [], []⟩
theorem sc__law_found : FnScope n__law_found ["_law_program_here", "_law_m", "_law_f"] (defScope (top 31)) := ⟨rfl, rfl, rfl, by decide +kernel, rfl, by decide +kernel, by decide +kernel⟩
def D__law_found : He.DefD := ⟨("_law_found", none), "_law_found", "_law_found", defArgs (top 31), defBody (top 31), defScope (top 31), [], []⟩
theorem sc__law_at : FnScope n__law_at ["_law_body", "_law_row"] (defScope (top 32)) := ⟨rfl, rfl, rfl, by decide +kernel, rfl, by decide +kernel, by decide +kernel⟩
def D__law_at : He.DefD := ⟨("_law_at", none), "_law_at", "_law_at", defArgs (top 32), defBody (top 32), defScope (top 32), [], []⟩
theorem sc__law_nearest : FnScope n__law_nearest ["_law_way", "_law_params", "_law_body"] (defScope (top 33)) := ⟨rfl, rfl, rfl, by decide +kernel, rfl, by decide +kernel, by decide +kernel⟩
def D__law_nearest : He.DefD := ⟨("_law_nearest", none), "_law_nearest", "_law_nearest", defArgs (top 33), defBody (top 33), defScope (top 33), [], []⟩
theorem sc__law_all : FnScope n__law_all ["_law_m", "_law_f", "_law_params", "_law_body"] (defScope (top 34)) := ⟨rfl, rfl, rfl, by decide +kernel, rfl, by decide +kernel, by decide +kernel⟩
def D__law_all : He.DefD := ⟨("_law_all", none), "_law_all", "_law_all", defArgs (top 34), defBody (top 34), defScope (top 34), [], []⟩
theorem sc__law_right : FnScope n__law_right ["_law_program_here", "_law_m", "_law_f"] (defScope (top 35)) := ⟨rfl, rfl, rfl, by decide +kernel, rfl, by decide +kernel, by decide +kernel⟩
def D__law_right : He.DefD := ⟨("_law_right", none), "_law_right", "_law_right", defArgs (top 35), defBody (top 35), defScope (top 35), [], []⟩
theorem sc_law : FnScope n_law ["_law_script"] (defScope (top 36)) := ⟨rfl, rfl, rfl, by decide +kernel, rfl, by decide +kernel, by decide +kernel⟩
def D_law : He.DefD := ⟨("law", none), "law", "law", defArgs (top 36), defBody (top 36), defScope (top 36), [], []⟩
def fnl : List He.DefD := [D_parts, D_functions, D_function, D_is_spot, D_part_at, D_at_way, D_more_round, D_uses_in, D_params_round, D_round_way, D_all_uses, D_binder_of, D_home_of, D_uses_of, D_name_of, D__law_cell, D__law_names, D__law_number, D__law_leaf, D__law_op, D__law_times, D__law_call, D__law_expression, D__law_program, D__law_spots, D__law_parts, D__law_rows, D__law_found, D__law_at, D__law_nearest, D__law_all, D__law_right, D_law]
def fal : List He.Fa := [.glo "parts", .glo "functions", .glo "function", .glo "is_spot", .glo "part_at", .glo "at_way", .glo "more_round", .glo "uses_in", .glo "params_round", .glo "round_way", .glo "all_uses", .glo "binder_of", .glo "home_of", .glo "uses_of", .glo "name_of", .glo "_law_cell", .glo "_law_names", .glo "_law_number", .glo "_law_leaf", .glo "_law_op", .glo "_law_times", .glo "_law_call", .glo "_law_expression", .glo "_law_program", .glo "_law_spots", .glo "_law_parts", .glo "_law_rows", .glo "_law_found", .glo "_law_at", .glo "_law_nearest", .glo "_law_all", .glo "_law_right", .glo "law", .free "all", .free "bool", .free "dict", .free "enumerate", .free "int", .free "isinstance", .free "len", .free "list", .free "max", .free "min", .free "range", .free "repr", .free "sorted", .free "str", .free "tuple"]
def tabs : List He.Tab := [(fun K => He.ga K "SPOTS", ["num", "use", "op", "let", "if", "times", "tell", "stop"])]
def chk (K : PySem.W.Frag) : Bool := conB K "SPOTS" (G 0)
abbrev R : PySem.W.OpenRow := PySem.W.OpenLaw.row PySem.Challenge.rw_turnpaper_k06_whole_binders
def names : List PySem.Str := [("parts" : PySem.Str), ("functions" : PySem.Str), ("function" : PySem.Str), ("is_spot" : PySem.Str), ("part_at" : PySem.Str), ("at_way" : PySem.Str), ("more_round" : PySem.Str), ("uses_in" : PySem.Str), ("params_round" : PySem.Str), ("round_way" : PySem.Str), ("all_uses" : PySem.Str), ("binder_of" : PySem.Str), ("home_of" : PySem.Str), ("uses_of" : PySem.Str), ("name_of" : PySem.Str), ("_law_cell" : PySem.Str), ("_law_names" : PySem.Str), ("_law_number" : PySem.Str), ("_law_leaf" : PySem.Str), ("_law_op" : PySem.Str), ("_law_times" : PySem.Str), ("_law_call" : PySem.Str), ("_law_expression" : PySem.Str), ("_law_program" : PySem.Str), ("_law_spots" : PySem.Str), ("_law_parts" : PySem.Str), ("_law_rows" : PySem.Str), ("_law_found" : PySem.Str), ("_law_at" : PySem.Str), ("_law_nearest" : PySem.Str), ("_law_all" : PySem.Str), ("_law_right" : PySem.Str), ("SPOTS" : PySem.Str)]
abbrev hk : PySem.W.Hook := hookM 4 fal fnl tabs chk
theorem runF (w : World) : HandSHeadRun.RunEq R (PySem.W.view R.prog [36]) hk (obM 4 fal fnl tabs chk) 6000 names (w.withFollow "special-get-raises" false) := by
  intro os
  kernel_rfl
theorem runT (w : World) : HandSHeadRun.RunEq R (PySem.W.view R.prog [36]) hk (obM 4 fal fnl tabs chk) 6000 names (w.withFollow "special-get-raises" true) := by
  intro os
  kernel_rfl
theorem run (w : World) : HandSHeadRun.RunEq R (PySem.W.view R.prog [36]) hk (obM 4 fal fnl tabs chk) 6000 names w := PySem.W.byRow2 "special-get-raises" (P := fun w => HandSHeadRun.RunEq R (PySem.W.view R.prog [36]) hk (obM 4 fal fnl tabs chk) 6000 names w) runF runT w
theorem tabOk {K : PySem.W.Frag} {w : World} {h : Heap} {mg : Str → Option Value} (X : K.In h) (Gn : h.Ns mainGlobals mg) (c : He.SaysT fal fnl tabs w K) (hc : chk K = true) : TabOk K w mg tb G where
  blt := fun x hx => by
    simp only [tb, blt, List.mem_cons, List.not_mem_nil, or_false] at hx
    rcases hx with rfl | rfl | rfl | rfl | rfl | rfl | rfl | rfl | rfl | rfl | rfl | rfl | rfl | rfl | rfl
    · exact He.free_ok X Gn (c.d.fact 33 (f := .free "all") rfl)
    · exact He.free_ok X Gn (c.d.fact 34 (f := .free "bool") rfl)
    · exact He.free_ok X Gn (c.d.fact 35 (f := .free "dict") rfl)
    · exact He.free_ok X Gn (c.d.fact 36 (f := .free "enumerate") rfl)
    · exact He.free_ok X Gn (c.d.fact 37 (f := .free "int") rfl)
    · exact He.free_ok X Gn (c.d.fact 38 (f := .free "isinstance") rfl)
    · exact He.free_ok X Gn (c.d.fact 39 (f := .free "len") rfl)
    · exact He.free_ok X Gn (c.d.fact 40 (f := .free "list") rfl)
    · exact He.free_ok X Gn (c.d.fact 41 (f := .free "max") rfl)
    · exact He.free_ok X Gn (c.d.fact 42 (f := .free "min") rfl)
    · exact He.free_ok X Gn (c.d.fact 43 (f := .free "range") rfl)
    · exact He.free_ok X Gn (c.d.fact 44 (f := .free "repr") rfl)
    · exact He.free_ok X Gn (c.d.fact 45 (f := .free "sorted") rfl)
    · exact He.free_ok X Gn (c.d.fact 46 (f := .free "str") rfl)
    · exact He.free_ok X Gn (c.d.fact 47 (f := .free "tuple") rfl)
  cons := fun p hp => by
    simp only [tb, cons, List.mem_cons, List.not_mem_nil, or_false] at hp
    simp only [chk, Bool.and_eq_true] at hc
    rcases hp with rfl
    · exact conB_dict X Gn hc (c.tab 0)
  defs := fun p hp df hdf => by
    simp only [tb, fns, List.mem_cons, List.not_mem_nil, or_false] at hp
    rcases hp with rfl | rfl | rfl | rfl | rfl | rfl | rfl | rfl | rfl | rfl | rfl | rfl | rfl | rfl | rfl | rfl | rfl | rfl | rfl | rfl | rfl | rfl | rfl | rfl | rfl | rfl | rfl | rfl | rfl | rfl | rfl | rfl | rfl
    · obtain ⟨fd, F⟩ := c.d.def_ 0 (d := D_parts) rfl
      have e : d_parts = df := Option.some.inj hdf
      subst e
      exact ⟨_, fd, _, defAt_of F (He.glo_ok X Gn (c.d.fact 0 (f := .glo "parts") rfl)) sc_parts rfl rfl c_parts fun _ _ _ _ _ _ us hl => match us, hl with | [_], _ => rfl⟩
    · obtain ⟨fd, F⟩ := c.d.def_ 1 (d := D_functions) rfl
      have e : d_functions = df := Option.some.inj hdf
      subst e
      exact ⟨_, fd, _, defAt_of F (He.glo_ok X Gn (c.d.fact 1 (f := .glo "functions") rfl)) sc_functions rfl rfl c_functions fun _ _ _ _ _ _ us hl => match us, hl with | [_], _ => rfl⟩
    · obtain ⟨fd, F⟩ := c.d.def_ 2 (d := D_function) rfl
      have e : d_function = df := Option.some.inj hdf
      subst e
      exact ⟨_, fd, _, defAt_of F (He.glo_ok X Gn (c.d.fact 2 (f := .glo "function") rfl)) sc_function rfl rfl c_function fun _ _ _ _ _ _ us hl => match us, hl with | [_, _, _], _ => rfl⟩
    · obtain ⟨fd, F⟩ := c.d.def_ 3 (d := D_is_spot) rfl
      have e : d_is_spot = df := Option.some.inj hdf
      subst e
      exact ⟨_, fd, _, defAt_of F (He.glo_ok X Gn (c.d.fact 3 (f := .glo "is_spot") rfl)) sc_is_spot rfl rfl c_is_spot fun _ _ _ _ _ _ us hl => match us, hl with | [_, _], _ => rfl⟩
    · obtain ⟨fd, F⟩ := c.d.def_ 4 (d := D_part_at) rfl
      have e : d_part_at = df := Option.some.inj hdf
      subst e
      exact ⟨_, fd, _, defAt_of F (He.glo_ok X Gn (c.d.fact 4 (f := .glo "part_at") rfl)) sc_part_at rfl rfl c_part_at fun _ _ _ _ _ _ us hl => match us, hl with | [_, _], _ => rfl⟩
    · obtain ⟨fd, F⟩ := c.d.def_ 5 (d := D_at_way) rfl
      have e : d_at_way = df := Option.some.inj hdf
      subst e
      exact ⟨_, fd, _, defAt_of F (He.glo_ok X Gn (c.d.fact 5 (f := .glo "at_way") rfl)) sc_at_way rfl rfl c_at_way fun _ _ _ _ _ _ us hl => match us, hl with | [_, _], _ => rfl⟩
    · obtain ⟨fd, F⟩ := c.d.def_ 6 (d := D_more_round) rfl
      have e : d_more_round = df := Option.some.inj hdf
      subst e
      exact ⟨_, fd, _, defAt_of F (He.glo_ok X Gn (c.d.fact 6 (f := .glo "more_round") rfl)) sc_more_round rfl rfl c_more_round fun _ _ _ _ _ _ us hl => match us, hl with | [_, _, _, _], _ => rfl⟩
    · obtain ⟨fd, F⟩ := c.d.def_ 7 (d := D_uses_in) rfl
      have e : d_uses_in = df := Option.some.inj hdf
      subst e
      exact ⟨_, fd, _, defAt_of F (He.glo_ok X Gn (c.d.fact 7 (f := .glo "uses_in") rfl)) sc_uses_in rfl rfl c_uses_in fun _ _ _ _ _ _ us hl => match us, hl with | [_, _, _], _ => rfl⟩
    · obtain ⟨fd, F⟩ := c.d.def_ 8 (d := D_params_round) rfl
      have e : d_params_round = df := Option.some.inj hdf
      subst e
      exact ⟨_, fd, _, defAt_of F (He.glo_ok X Gn (c.d.fact 8 (f := .glo "params_round") rfl)) sc_params_round rfl rfl c_params_round fun _ _ _ _ _ _ us hl => match us, hl with | [_, _, _], _ => rfl⟩
    · obtain ⟨fd, F⟩ := c.d.def_ 9 (d := D_round_way) rfl
      have e : d_round_way = df := Option.some.inj hdf
      subst e
      exact ⟨_, fd, _, defAt_of F (He.glo_ok X Gn (c.d.fact 9 (f := .glo "round_way") rfl)) sc_round_way rfl rfl c_round_way fun _ _ _ _ _ _ us hl => match us, hl with | [_, _], _ => rfl⟩
    · obtain ⟨fd, F⟩ := c.d.def_ 10 (d := D_all_uses) rfl
      have e : d_all_uses = df := Option.some.inj hdf
      subst e
      exact ⟨_, fd, _, defAt_of F (He.glo_ok X Gn (c.d.fact 10 (f := .glo "all_uses") rfl)) sc_all_uses rfl rfl c_all_uses fun _ _ _ _ _ _ us hl => match us, hl with | [_, _, _], _ => rfl⟩
    · obtain ⟨fd, F⟩ := c.d.def_ 11 (d := D_binder_of) rfl
      have e : d_binder_of = df := Option.some.inj hdf
      subst e
      exact ⟨_, fd, _, defAt_of F (He.glo_ok X Gn (c.d.fact 11 (f := .glo "binder_of") rfl)) sc_binder_of rfl rfl c_binder_of fun _ _ _ _ _ _ us hl => match us, hl with | [_, _], _ => rfl⟩
    · obtain ⟨fd, F⟩ := c.d.def_ 12 (d := D_home_of) rfl
      have e : d_home_of = df := Option.some.inj hdf
      subst e
      exact ⟨_, fd, _, defAt_of F (He.glo_ok X Gn (c.d.fact 12 (f := .glo "home_of") rfl)) sc_home_of rfl rfl c_home_of fun _ _ _ _ _ _ us hl => match us, hl with | [_, _], _ => rfl⟩
    · obtain ⟨fd, F⟩ := c.d.def_ 13 (d := D_uses_of) rfl
      have e : d_uses_of = df := Option.some.inj hdf
      subst e
      exact ⟨_, fd, _, defAt_of F (He.glo_ok X Gn (c.d.fact 13 (f := .glo "uses_of") rfl)) sc_uses_of rfl rfl c_uses_of fun _ _ _ _ _ _ us hl => match us, hl with | [_, _], _ => rfl⟩
    · obtain ⟨fd, F⟩ := c.d.def_ 14 (d := D_name_of) rfl
      have e : d_name_of = df := Option.some.inj hdf
      subst e
      exact ⟨_, fd, _, defAt_of F (He.glo_ok X Gn (c.d.fact 14 (f := .glo "name_of") rfl)) sc_name_of rfl rfl c_name_of fun _ _ _ _ _ _ us hl => match us, hl with | [_, _], _ => rfl⟩
    · obtain ⟨fd, F⟩ := c.d.def_ 15 (d := D__law_cell) rfl
      have e : d__law_cell = df := Option.some.inj hdf
      subst e
      exact ⟨_, fd, _, defAt_of F (He.glo_ok X Gn (c.d.fact 15 (f := .glo "_law_cell") rfl)) sc__law_cell rfl rfl c__law_cell fun _ _ _ _ _ _ us hl => match us, hl with | [_, _], _ => rfl⟩
    · obtain ⟨fd, F⟩ := c.d.def_ 16 (d := D__law_names) rfl
      have e : d__law_names = df := Option.some.inj hdf
      subst e
      exact ⟨_, fd, _, defAt_of F (He.glo_ok X Gn (c.d.fact 16 (f := .glo "_law_names") rfl)) sc__law_names rfl rfl c__law_names fun _ _ _ _ _ _ us hl => match us, hl with | [_], _ => rfl⟩
    · obtain ⟨fd, F⟩ := c.d.def_ 17 (d := D__law_number) rfl
      have e : d__law_number = df := Option.some.inj hdf
      subst e
      exact ⟨_, fd, _, defAt_of F (He.glo_ok X Gn (c.d.fact 17 (f := .glo "_law_number") rfl)) sc__law_number rfl rfl c__law_number fun _ _ _ _ _ _ us hl => match us, hl with | [_], _ => rfl⟩
    · obtain ⟨fd, F⟩ := c.d.def_ 18 (d := D__law_leaf) rfl
      have e : d__law_leaf = df := Option.some.inj hdf
      subst e
      exact ⟨_, fd, _, defAt_of F (He.glo_ok X Gn (c.d.fact 18 (f := .glo "_law_leaf") rfl)) sc__law_leaf rfl rfl c__law_leaf fun _ _ _ _ _ _ us hl => match us, hl with | [_, _, _], _ => rfl⟩
    · obtain ⟨fd, F⟩ := c.d.def_ 19 (d := D__law_op) rfl
      have e : d__law_op = df := Option.some.inj hdf
      subst e
      exact ⟨_, fd, _, defAt_of F (He.glo_ok X Gn (c.d.fact 19 (f := .glo "_law_op") rfl)) sc__law_op rfl rfl c__law_op fun _ _ _ _ _ _ us hl => match us, hl with | [_, _, _, _, _, _], _ => rfl⟩
    · obtain ⟨fd, F⟩ := c.d.def_ 20 (d := D__law_times) rfl
      have e : d__law_times = df := Option.some.inj hdf
      subst e
      exact ⟨_, fd, _, defAt_of F (He.glo_ok X Gn (c.d.fact 20 (f := .glo "_law_times") rfl)) sc__law_times rfl rfl c__law_times fun _ _ _ _ _ _ us hl => match us, hl with | [_, _, _, _, _, _], _ => rfl⟩
    · obtain ⟨fd, F⟩ := c.d.def_ 21 (d := D__law_call) rfl
      have e : d__law_call = df := Option.some.inj hdf
      subst e
      exact ⟨_, fd, _, defAt_of F (He.glo_ok X Gn (c.d.fact 21 (f := .glo "_law_call") rfl)) sc__law_call rfl rfl c__law_call fun _ _ _ _ _ _ us hl => match us, hl with | [_, _, _, _, _, _], _ => rfl⟩
    · obtain ⟨fd, F⟩ := c.d.def_ 22 (d := D__law_expression) rfl
      have e : d__law_expression = df := Option.some.inj hdf
      subst e
      exact ⟨_, fd, _, defAt_of F (He.glo_ok X Gn (c.d.fact 22 (f := .glo "_law_expression") rfl)) sc__law_expression rfl rfl c__law_expression fun _ _ _ _ _ _ us hl => match us, hl with | [_, _, _, _, _], _ => rfl⟩
    · obtain ⟨fd, F⟩ := c.d.def_ 23 (d := D__law_program) rfl
      have e : d__law_program = df := Option.some.inj hdf
      subst e
      exact ⟨_, fd, _, defAt_of F (He.glo_ok X Gn (c.d.fact 23 (f := .glo "_law_program") rfl)) sc__law_program rfl rfl c__law_program fun _ _ _ _ _ _ us hl => match us, hl with | [_, _, _], _ => rfl⟩
    · obtain ⟨fd, F⟩ := c.d.def_ 24 (d := D__law_spots) rfl
      have e : d__law_spots = df := Option.some.inj hdf
      subst e
      exact ⟨_, fd, _, defAt_of F (He.glo_ok X Gn (c.d.fact 24 (f := .glo "_law_spots") rfl)) sc__law_spots rfl rfl c__law_spots fun _ _ _ _ _ _ us hl => match us, hl with | [_], _ => rfl⟩
    · obtain ⟨fd, F⟩ := c.d.def_ 25 (d := D__law_parts) rfl
      have e : d__law_parts = df := Option.some.inj hdf
      subst e
      exact ⟨_, fd, _, defAt_of F (He.glo_ok X Gn (c.d.fact 25 (f := .glo "_law_parts") rfl)) sc__law_parts rfl rfl c__law_parts fun _ _ _ _ _ _ us hl => match us, hl with | [_], _ => rfl⟩
    · obtain ⟨fd, F⟩ := c.d.def_ 26 (d := D__law_rows) rfl
      have e : d__law_rows = df := Option.some.inj hdf
      subst e
      exact ⟨_, fd, _, defAt_of F (He.glo_ok X Gn (c.d.fact 26 (f := .glo "_law_rows") rfl)) sc__law_rows rfl rfl c__law_rows fun _ _ _ _ _ _ us hl => match us, hl with | [_], _ => rfl⟩
    · obtain ⟨fd, F⟩ := c.d.def_ 27 (d := D__law_found) rfl
      have e : d__law_found = df := Option.some.inj hdf
      subst e
      exact ⟨_, fd, _, defAt_of F (He.glo_ok X Gn (c.d.fact 27 (f := .glo "_law_found") rfl)) sc__law_found rfl rfl c__law_found fun _ _ _ _ _ _ us hl => match us, hl with | [_, _, _], _ => rfl⟩
    · obtain ⟨fd, F⟩ := c.d.def_ 28 (d := D__law_at) rfl
      have e : d__law_at = df := Option.some.inj hdf
      subst e
      exact ⟨_, fd, _, defAt_of F (He.glo_ok X Gn (c.d.fact 28 (f := .glo "_law_at") rfl)) sc__law_at rfl rfl c__law_at fun _ _ _ _ _ _ us hl => match us, hl with | [_, _], _ => rfl⟩
    · obtain ⟨fd, F⟩ := c.d.def_ 29 (d := D__law_nearest) rfl
      have e : d__law_nearest = df := Option.some.inj hdf
      subst e
      exact ⟨_, fd, _, defAt_of F (He.glo_ok X Gn (c.d.fact 29 (f := .glo "_law_nearest") rfl)) sc__law_nearest rfl rfl c__law_nearest fun _ _ _ _ _ _ us hl => match us, hl with | [_, _, _], _ => rfl⟩
    · obtain ⟨fd, F⟩ := c.d.def_ 30 (d := D__law_all) rfl
      have e : d__law_all = df := Option.some.inj hdf
      subst e
      exact ⟨_, fd, _, defAt_of F (He.glo_ok X Gn (c.d.fact 30 (f := .glo "_law_all") rfl)) sc__law_all rfl rfl c__law_all fun _ _ _ _ _ _ us hl => match us, hl with | [_, _, _, _], _ => rfl⟩
    · obtain ⟨fd, F⟩ := c.d.def_ 31 (d := D__law_right) rfl
      have e : d__law_right = df := Option.some.inj hdf
      subst e
      exact ⟨_, fd, _, defAt_of F (He.glo_ok X Gn (c.d.fact 31 (f := .glo "_law_right") rfl)) sc__law_right rfl rfl c__law_right fun _ _ _ _ _ _ us hl => match us, hl with | [_, _, _], _ => rfl⟩
    · obtain ⟨fd, F⟩ := c.d.def_ 32 (d := D_law) rfl
      have e : d_law = df := Option.some.inj hdf
      subst e
      exact ⟨_, fd, _, defAt_of F (He.glo_ok X Gn (c.d.fact 32 (f := .glo "law") rfl)) sc_law rfl rfl c_law fun _ _ _ _ _ _ us hl => match us, hl with | [_], _ => rfl⟩
theorem holds_of (wf : Nat) (pure : ∀ ns : List Int, ns.length ≤ 63 → Mp.run T G wf 200 32 [.list (ns.map .int)] = .ok (.bool true) []) : PySem.Challenge.rw_turnpaper_k06_whole_binders.Holds := by
  w_on; o_law
  refine HandSHeadRun.head_any (r := PySem.W.OpenLaw.row PySem.Challenge.rw_turnpaper_k06_whole_binders) (q := PySem.W.view (PySem.W.OpenLaw.row PySem.Challenge.rw_turnpaper_k06_whole_binders).prog [36]) (H := hk) (ob := obM 4 fal fnl tabs chk) (M := 6000) (loose := names) (d := HandSHeadRun.topDef (PySem.W.OpenLaw.row PySem.Challenge.rw_turnpaper_k06_whole_binders).prog 36) (kwd := []) obM_eq
    (by kernel_rfl) (fun s => by kernel_rfl) run (by kernel_rfl) (by kernel_rfl) (by kernel_rfl) (by rfl) (by first | assumption | decide +kernel) (by decide +kernel) ⟨rfl, rfl, rfl, rfl, rfl, by decide +kernel⟩ ?hw ?hc
  case hw => w_witness2
  case hc =>
    refine walk_fn (l := PySem.Challenge.rw_turnpaper_k06_whole_binders) (n := 63) (k := 200) (x := "_law_script") (df := d_law) (Fv := Mp.run T G wf 200 32) (xc := fun _ _ _ => 0) rfl (by decide) (by kernel_rfl) ⟨rfl, by decide, by decide⟩ rfl rfl rfl pure ?F
    intro w mg fa h Y Gn hmg0
    obtain ⟨K, X, c, hc⟩ := Y
    have hmg : mg ("law" : PySem.Str) = some (.ref fa) := by
      have e : (HandSHeadRun.topDef (PySem.W.OpenLaw.row PySem.Challenge.rw_turnpaper_k06_whole_binders).prog 36).name = ("law" : PySem.Str) := by kernel_rfl
      rw [← e]
      exact hmg0
    have ok := tabOk X Gn c hc
    obtain ⟨fd, F⟩ := c.d.def_ 32 (d := D_law) rfl
    have bnd : ∀ (kV doc pm : Value) (an : Option Addr) (cdv ct : Value) (us : List Value), us.length = ([("_law_script" : PySem.Str)] : List PySem.Str).length → bindArgs (PySem.W.fnOf "law" "law" (defArgs (top 36)) (defBody (top 36)) (defScope (top 36)) .none kV doc pm an cdv ct) ⟨us, []⟩ = Pure.pure (([("_law_script" : PySem.Str)] : List PySem.Str).zip us) := fun _ _ _ _ _ _ us hl => match us, hl with | [_], _ => rfl
    have dat : DefAt K mg tb "law" d_law _ fd [("_law_script" : PySem.Str)] := defAt_of F (He.glo_ok X Gn (c.d.fact 32 (f := .glo "law") rfl)) sc_law rfl rfl c_law bnd
    have ea := hmg.symm.trans dat.mg
    cases ea
    exact ⟨K, fd, X, fun s u => F.bindsA bnd s [u] rfl, fun base _ _ => tab_fn ok 200 ("law", 32) (by simp [tb, fns]) d_law rfl _ fd _ dat⟩
end K06

namespace K06.Pu
open K06 PySem Mp
theorem eqW (a b : Str) (h : decide (a = b) = false) : (a = b) = False := eq_false (of_decide_eq_false h)
@[simp] theorem w_num_use : (("num" : Str) = "use") = False := eqW _ _ (by decide +kernel)
@[simp] theorem w_num_op : (("num" : Str) = "op") = False := eqW _ _ (by decide +kernel)
@[simp] theorem w_num_let : (("num" : Str) = "let") = False := eqW _ _ (by decide +kernel)
@[simp] theorem w_num_if : (("num" : Str) = "if") = False := eqW _ _ (by decide +kernel)
@[simp] theorem w_num_times : (("num" : Str) = "times") = False := eqW _ _ (by decide +kernel)
@[simp] theorem w_num_tell : (("num" : Str) = "tell") = False := eqW _ _ (by decide +kernel)
@[simp] theorem w_num_stop : (("num" : Str) = "stop") = False := eqW _ _ (by decide +kernel)
@[simp] theorem w_num_call : (("num" : Str) = "call") = False := eqW _ _ (by decide +kernel)
@[simp] theorem w_num_count : (("num" : Str) = "count") = False := eqW _ _ (by decide +kernel)
@[simp] theorem w_num_sum : (("num" : Str) = "sum") = False := eqW _ _ (by decide +kernel)
@[simp] theorem w_num_param : (("num" : Str) = "param") = False := eqW _ _ (by decide +kernel)
@[simp] theorem w_num_names : (("num" : Str) = "names") = False := eqW _ _ (by decide +kernel)
@[simp] theorem w_num_ahead : (("num" : Str) = "ahead") = False := eqW _ _ (by decide +kernel)
@[simp] theorem w_num_quiet : (("num" : Str) = "quiet") = False := eqW _ _ (by decide +kernel)
@[simp] theorem w_num_st : (("num" : Str) = "*") = False := eqW _ _ (by decide +kernel)
@[simp] theorem w_use_num : (("use" : Str) = "num") = False := eqW _ _ (by decide +kernel)
@[simp] theorem w_use_op : (("use" : Str) = "op") = False := eqW _ _ (by decide +kernel)
@[simp] theorem w_use_let : (("use" : Str) = "let") = False := eqW _ _ (by decide +kernel)
@[simp] theorem w_use_if : (("use" : Str) = "if") = False := eqW _ _ (by decide +kernel)
@[simp] theorem w_use_times : (("use" : Str) = "times") = False := eqW _ _ (by decide +kernel)
@[simp] theorem w_use_tell : (("use" : Str) = "tell") = False := eqW _ _ (by decide +kernel)
@[simp] theorem w_use_stop : (("use" : Str) = "stop") = False := eqW _ _ (by decide +kernel)
@[simp] theorem w_use_call : (("use" : Str) = "call") = False := eqW _ _ (by decide +kernel)
@[simp] theorem w_use_count : (("use" : Str) = "count") = False := eqW _ _ (by decide +kernel)
@[simp] theorem w_use_sum : (("use" : Str) = "sum") = False := eqW _ _ (by decide +kernel)
@[simp] theorem w_use_param : (("use" : Str) = "param") = False := eqW _ _ (by decide +kernel)
@[simp] theorem w_use_names : (("use" : Str) = "names") = False := eqW _ _ (by decide +kernel)
@[simp] theorem w_use_ahead : (("use" : Str) = "ahead") = False := eqW _ _ (by decide +kernel)
@[simp] theorem w_use_quiet : (("use" : Str) = "quiet") = False := eqW _ _ (by decide +kernel)
@[simp] theorem w_use_st : (("use" : Str) = "*") = False := eqW _ _ (by decide +kernel)
@[simp] theorem w_op_num : (("op" : Str) = "num") = False := eqW _ _ (by decide +kernel)
@[simp] theorem w_op_use : (("op" : Str) = "use") = False := eqW _ _ (by decide +kernel)
@[simp] theorem w_op_let : (("op" : Str) = "let") = False := eqW _ _ (by decide +kernel)
@[simp] theorem w_op_if : (("op" : Str) = "if") = False := eqW _ _ (by decide +kernel)
@[simp] theorem w_op_times : (("op" : Str) = "times") = False := eqW _ _ (by decide +kernel)
@[simp] theorem w_op_tell : (("op" : Str) = "tell") = False := eqW _ _ (by decide +kernel)
@[simp] theorem w_op_stop : (("op" : Str) = "stop") = False := eqW _ _ (by decide +kernel)
@[simp] theorem w_op_call : (("op" : Str) = "call") = False := eqW _ _ (by decide +kernel)
@[simp] theorem w_op_count : (("op" : Str) = "count") = False := eqW _ _ (by decide +kernel)
@[simp] theorem w_op_sum : (("op" : Str) = "sum") = False := eqW _ _ (by decide +kernel)
@[simp] theorem w_op_param : (("op" : Str) = "param") = False := eqW _ _ (by decide +kernel)
@[simp] theorem w_op_names : (("op" : Str) = "names") = False := eqW _ _ (by decide +kernel)
@[simp] theorem w_op_ahead : (("op" : Str) = "ahead") = False := eqW _ _ (by decide +kernel)
@[simp] theorem w_op_quiet : (("op" : Str) = "quiet") = False := eqW _ _ (by decide +kernel)
@[simp] theorem w_op_st : (("op" : Str) = "*") = False := eqW _ _ (by decide +kernel)
@[simp] theorem w_let_num : (("let" : Str) = "num") = False := eqW _ _ (by decide +kernel)
@[simp] theorem w_let_use : (("let" : Str) = "use") = False := eqW _ _ (by decide +kernel)
@[simp] theorem w_let_op : (("let" : Str) = "op") = False := eqW _ _ (by decide +kernel)
@[simp] theorem w_let_if : (("let" : Str) = "if") = False := eqW _ _ (by decide +kernel)
@[simp] theorem w_let_times : (("let" : Str) = "times") = False := eqW _ _ (by decide +kernel)
@[simp] theorem w_let_tell : (("let" : Str) = "tell") = False := eqW _ _ (by decide +kernel)
@[simp] theorem w_let_stop : (("let" : Str) = "stop") = False := eqW _ _ (by decide +kernel)
@[simp] theorem w_let_call : (("let" : Str) = "call") = False := eqW _ _ (by decide +kernel)
@[simp] theorem w_let_count : (("let" : Str) = "count") = False := eqW _ _ (by decide +kernel)
@[simp] theorem w_let_sum : (("let" : Str) = "sum") = False := eqW _ _ (by decide +kernel)
@[simp] theorem w_let_param : (("let" : Str) = "param") = False := eqW _ _ (by decide +kernel)
@[simp] theorem w_let_names : (("let" : Str) = "names") = False := eqW _ _ (by decide +kernel)
@[simp] theorem w_let_ahead : (("let" : Str) = "ahead") = False := eqW _ _ (by decide +kernel)
@[simp] theorem w_let_quiet : (("let" : Str) = "quiet") = False := eqW _ _ (by decide +kernel)
@[simp] theorem w_let_st : (("let" : Str) = "*") = False := eqW _ _ (by decide +kernel)
@[simp] theorem w_if_num : (("if" : Str) = "num") = False := eqW _ _ (by decide +kernel)
@[simp] theorem w_if_use : (("if" : Str) = "use") = False := eqW _ _ (by decide +kernel)
@[simp] theorem w_if_op : (("if" : Str) = "op") = False := eqW _ _ (by decide +kernel)
@[simp] theorem w_if_let : (("if" : Str) = "let") = False := eqW _ _ (by decide +kernel)
@[simp] theorem w_if_times : (("if" : Str) = "times") = False := eqW _ _ (by decide +kernel)
@[simp] theorem w_if_tell : (("if" : Str) = "tell") = False := eqW _ _ (by decide +kernel)
@[simp] theorem w_if_stop : (("if" : Str) = "stop") = False := eqW _ _ (by decide +kernel)
@[simp] theorem w_if_call : (("if" : Str) = "call") = False := eqW _ _ (by decide +kernel)
@[simp] theorem w_if_count : (("if" : Str) = "count") = False := eqW _ _ (by decide +kernel)
@[simp] theorem w_if_sum : (("if" : Str) = "sum") = False := eqW _ _ (by decide +kernel)
@[simp] theorem w_if_param : (("if" : Str) = "param") = False := eqW _ _ (by decide +kernel)
@[simp] theorem w_if_names : (("if" : Str) = "names") = False := eqW _ _ (by decide +kernel)
@[simp] theorem w_if_ahead : (("if" : Str) = "ahead") = False := eqW _ _ (by decide +kernel)
@[simp] theorem w_if_quiet : (("if" : Str) = "quiet") = False := eqW _ _ (by decide +kernel)
@[simp] theorem w_if_st : (("if" : Str) = "*") = False := eqW _ _ (by decide +kernel)
@[simp] theorem w_times_num : (("times" : Str) = "num") = False := eqW _ _ (by decide +kernel)
@[simp] theorem w_times_use : (("times" : Str) = "use") = False := eqW _ _ (by decide +kernel)
@[simp] theorem w_times_op : (("times" : Str) = "op") = False := eqW _ _ (by decide +kernel)
@[simp] theorem w_times_let : (("times" : Str) = "let") = False := eqW _ _ (by decide +kernel)
@[simp] theorem w_times_if : (("times" : Str) = "if") = False := eqW _ _ (by decide +kernel)
@[simp] theorem w_times_tell : (("times" : Str) = "tell") = False := eqW _ _ (by decide +kernel)
@[simp] theorem w_times_stop : (("times" : Str) = "stop") = False := eqW _ _ (by decide +kernel)
@[simp] theorem w_times_call : (("times" : Str) = "call") = False := eqW _ _ (by decide +kernel)
@[simp] theorem w_times_count : (("times" : Str) = "count") = False := eqW _ _ (by decide +kernel)
@[simp] theorem w_times_sum : (("times" : Str) = "sum") = False := eqW _ _ (by decide +kernel)
@[simp] theorem w_times_param : (("times" : Str) = "param") = False := eqW _ _ (by decide +kernel)
@[simp] theorem w_times_names : (("times" : Str) = "names") = False := eqW _ _ (by decide +kernel)
@[simp] theorem w_times_ahead : (("times" : Str) = "ahead") = False := eqW _ _ (by decide +kernel)
@[simp] theorem w_times_quiet : (("times" : Str) = "quiet") = False := eqW _ _ (by decide +kernel)
@[simp] theorem w_times_st : (("times" : Str) = "*") = False := eqW _ _ (by decide +kernel)
@[simp] theorem w_tell_num : (("tell" : Str) = "num") = False := eqW _ _ (by decide +kernel)
@[simp] theorem w_tell_use : (("tell" : Str) = "use") = False := eqW _ _ (by decide +kernel)
@[simp] theorem w_tell_op : (("tell" : Str) = "op") = False := eqW _ _ (by decide +kernel)
@[simp] theorem w_tell_let : (("tell" : Str) = "let") = False := eqW _ _ (by decide +kernel)
@[simp] theorem w_tell_if : (("tell" : Str) = "if") = False := eqW _ _ (by decide +kernel)
@[simp] theorem w_tell_times : (("tell" : Str) = "times") = False := eqW _ _ (by decide +kernel)
@[simp] theorem w_tell_stop : (("tell" : Str) = "stop") = False := eqW _ _ (by decide +kernel)
@[simp] theorem w_tell_call : (("tell" : Str) = "call") = False := eqW _ _ (by decide +kernel)
@[simp] theorem w_tell_count : (("tell" : Str) = "count") = False := eqW _ _ (by decide +kernel)
@[simp] theorem w_tell_sum : (("tell" : Str) = "sum") = False := eqW _ _ (by decide +kernel)
@[simp] theorem w_tell_param : (("tell" : Str) = "param") = False := eqW _ _ (by decide +kernel)
@[simp] theorem w_tell_names : (("tell" : Str) = "names") = False := eqW _ _ (by decide +kernel)
@[simp] theorem w_tell_ahead : (("tell" : Str) = "ahead") = False := eqW _ _ (by decide +kernel)
@[simp] theorem w_tell_quiet : (("tell" : Str) = "quiet") = False := eqW _ _ (by decide +kernel)
@[simp] theorem w_tell_st : (("tell" : Str) = "*") = False := eqW _ _ (by decide +kernel)
@[simp] theorem w_stop_num : (("stop" : Str) = "num") = False := eqW _ _ (by decide +kernel)
@[simp] theorem w_stop_use : (("stop" : Str) = "use") = False := eqW _ _ (by decide +kernel)
@[simp] theorem w_stop_op : (("stop" : Str) = "op") = False := eqW _ _ (by decide +kernel)
@[simp] theorem w_stop_let : (("stop" : Str) = "let") = False := eqW _ _ (by decide +kernel)
@[simp] theorem w_stop_if : (("stop" : Str) = "if") = False := eqW _ _ (by decide +kernel)
@[simp] theorem w_stop_times : (("stop" : Str) = "times") = False := eqW _ _ (by decide +kernel)
@[simp] theorem w_stop_tell : (("stop" : Str) = "tell") = False := eqW _ _ (by decide +kernel)
@[simp] theorem w_stop_call : (("stop" : Str) = "call") = False := eqW _ _ (by decide +kernel)
@[simp] theorem w_stop_count : (("stop" : Str) = "count") = False := eqW _ _ (by decide +kernel)
@[simp] theorem w_stop_sum : (("stop" : Str) = "sum") = False := eqW _ _ (by decide +kernel)
@[simp] theorem w_stop_param : (("stop" : Str) = "param") = False := eqW _ _ (by decide +kernel)
@[simp] theorem w_stop_names : (("stop" : Str) = "names") = False := eqW _ _ (by decide +kernel)
@[simp] theorem w_stop_ahead : (("stop" : Str) = "ahead") = False := eqW _ _ (by decide +kernel)
@[simp] theorem w_stop_quiet : (("stop" : Str) = "quiet") = False := eqW _ _ (by decide +kernel)
@[simp] theorem w_stop_st : (("stop" : Str) = "*") = False := eqW _ _ (by decide +kernel)
@[simp] theorem w_call_num : (("call" : Str) = "num") = False := eqW _ _ (by decide +kernel)
@[simp] theorem w_call_use : (("call" : Str) = "use") = False := eqW _ _ (by decide +kernel)
@[simp] theorem w_call_op : (("call" : Str) = "op") = False := eqW _ _ (by decide +kernel)
@[simp] theorem w_call_let : (("call" : Str) = "let") = False := eqW _ _ (by decide +kernel)
@[simp] theorem w_call_if : (("call" : Str) = "if") = False := eqW _ _ (by decide +kernel)
@[simp] theorem w_call_times : (("call" : Str) = "times") = False := eqW _ _ (by decide +kernel)
@[simp] theorem w_call_tell : (("call" : Str) = "tell") = False := eqW _ _ (by decide +kernel)
@[simp] theorem w_call_stop : (("call" : Str) = "stop") = False := eqW _ _ (by decide +kernel)
@[simp] theorem w_call_count : (("call" : Str) = "count") = False := eqW _ _ (by decide +kernel)
@[simp] theorem w_call_sum : (("call" : Str) = "sum") = False := eqW _ _ (by decide +kernel)
@[simp] theorem w_call_param : (("call" : Str) = "param") = False := eqW _ _ (by decide +kernel)
@[simp] theorem w_call_names : (("call" : Str) = "names") = False := eqW _ _ (by decide +kernel)
@[simp] theorem w_call_ahead : (("call" : Str) = "ahead") = False := eqW _ _ (by decide +kernel)
@[simp] theorem w_call_quiet : (("call" : Str) = "quiet") = False := eqW _ _ (by decide +kernel)
@[simp] theorem w_call_st : (("call" : Str) = "*") = False := eqW _ _ (by decide +kernel)
@[simp] theorem w_count_num : (("count" : Str) = "num") = False := eqW _ _ (by decide +kernel)
@[simp] theorem w_count_use : (("count" : Str) = "use") = False := eqW _ _ (by decide +kernel)
@[simp] theorem w_count_op : (("count" : Str) = "op") = False := eqW _ _ (by decide +kernel)
@[simp] theorem w_count_let : (("count" : Str) = "let") = False := eqW _ _ (by decide +kernel)
@[simp] theorem w_count_if : (("count" : Str) = "if") = False := eqW _ _ (by decide +kernel)
@[simp] theorem w_count_times : (("count" : Str) = "times") = False := eqW _ _ (by decide +kernel)
@[simp] theorem w_count_tell : (("count" : Str) = "tell") = False := eqW _ _ (by decide +kernel)
@[simp] theorem w_count_stop : (("count" : Str) = "stop") = False := eqW _ _ (by decide +kernel)
@[simp] theorem w_count_call : (("count" : Str) = "call") = False := eqW _ _ (by decide +kernel)
@[simp] theorem w_count_sum : (("count" : Str) = "sum") = False := eqW _ _ (by decide +kernel)
@[simp] theorem w_count_param : (("count" : Str) = "param") = False := eqW _ _ (by decide +kernel)
@[simp] theorem w_count_names : (("count" : Str) = "names") = False := eqW _ _ (by decide +kernel)
@[simp] theorem w_count_ahead : (("count" : Str) = "ahead") = False := eqW _ _ (by decide +kernel)
@[simp] theorem w_count_quiet : (("count" : Str) = "quiet") = False := eqW _ _ (by decide +kernel)
@[simp] theorem w_count_st : (("count" : Str) = "*") = False := eqW _ _ (by decide +kernel)
@[simp] theorem w_sum_num : (("sum" : Str) = "num") = False := eqW _ _ (by decide +kernel)
@[simp] theorem w_sum_use : (("sum" : Str) = "use") = False := eqW _ _ (by decide +kernel)
@[simp] theorem w_sum_op : (("sum" : Str) = "op") = False := eqW _ _ (by decide +kernel)
@[simp] theorem w_sum_let : (("sum" : Str) = "let") = False := eqW _ _ (by decide +kernel)
@[simp] theorem w_sum_if : (("sum" : Str) = "if") = False := eqW _ _ (by decide +kernel)
@[simp] theorem w_sum_times : (("sum" : Str) = "times") = False := eqW _ _ (by decide +kernel)
@[simp] theorem w_sum_tell : (("sum" : Str) = "tell") = False := eqW _ _ (by decide +kernel)
@[simp] theorem w_sum_stop : (("sum" : Str) = "stop") = False := eqW _ _ (by decide +kernel)
@[simp] theorem w_sum_call : (("sum" : Str) = "call") = False := eqW _ _ (by decide +kernel)
@[simp] theorem w_sum_count : (("sum" : Str) = "count") = False := eqW _ _ (by decide +kernel)
@[simp] theorem w_sum_param : (("sum" : Str) = "param") = False := eqW _ _ (by decide +kernel)
@[simp] theorem w_sum_names : (("sum" : Str) = "names") = False := eqW _ _ (by decide +kernel)
@[simp] theorem w_sum_ahead : (("sum" : Str) = "ahead") = False := eqW _ _ (by decide +kernel)
@[simp] theorem w_sum_quiet : (("sum" : Str) = "quiet") = False := eqW _ _ (by decide +kernel)
@[simp] theorem w_sum_st : (("sum" : Str) = "*") = False := eqW _ _ (by decide +kernel)
@[simp] theorem w_param_num : (("param" : Str) = "num") = False := eqW _ _ (by decide +kernel)
@[simp] theorem w_param_use : (("param" : Str) = "use") = False := eqW _ _ (by decide +kernel)
@[simp] theorem w_param_op : (("param" : Str) = "op") = False := eqW _ _ (by decide +kernel)
@[simp] theorem w_param_let : (("param" : Str) = "let") = False := eqW _ _ (by decide +kernel)
@[simp] theorem w_param_if : (("param" : Str) = "if") = False := eqW _ _ (by decide +kernel)
@[simp] theorem w_param_times : (("param" : Str) = "times") = False := eqW _ _ (by decide +kernel)
@[simp] theorem w_param_tell : (("param" : Str) = "tell") = False := eqW _ _ (by decide +kernel)
@[simp] theorem w_param_stop : (("param" : Str) = "stop") = False := eqW _ _ (by decide +kernel)
@[simp] theorem w_param_call : (("param" : Str) = "call") = False := eqW _ _ (by decide +kernel)
@[simp] theorem w_param_count : (("param" : Str) = "count") = False := eqW _ _ (by decide +kernel)
@[simp] theorem w_param_sum : (("param" : Str) = "sum") = False := eqW _ _ (by decide +kernel)
@[simp] theorem w_param_names : (("param" : Str) = "names") = False := eqW _ _ (by decide +kernel)
@[simp] theorem w_param_ahead : (("param" : Str) = "ahead") = False := eqW _ _ (by decide +kernel)
@[simp] theorem w_param_quiet : (("param" : Str) = "quiet") = False := eqW _ _ (by decide +kernel)
@[simp] theorem w_param_st : (("param" : Str) = "*") = False := eqW _ _ (by decide +kernel)
@[simp] theorem w_names_num : (("names" : Str) = "num") = False := eqW _ _ (by decide +kernel)
@[simp] theorem w_names_use : (("names" : Str) = "use") = False := eqW _ _ (by decide +kernel)
@[simp] theorem w_names_op : (("names" : Str) = "op") = False := eqW _ _ (by decide +kernel)
@[simp] theorem w_names_let : (("names" : Str) = "let") = False := eqW _ _ (by decide +kernel)
@[simp] theorem w_names_if : (("names" : Str) = "if") = False := eqW _ _ (by decide +kernel)
@[simp] theorem w_names_times : (("names" : Str) = "times") = False := eqW _ _ (by decide +kernel)
@[simp] theorem w_names_tell : (("names" : Str) = "tell") = False := eqW _ _ (by decide +kernel)
@[simp] theorem w_names_stop : (("names" : Str) = "stop") = False := eqW _ _ (by decide +kernel)
@[simp] theorem w_names_call : (("names" : Str) = "call") = False := eqW _ _ (by decide +kernel)
@[simp] theorem w_names_count : (("names" : Str) = "count") = False := eqW _ _ (by decide +kernel)
@[simp] theorem w_names_sum : (("names" : Str) = "sum") = False := eqW _ _ (by decide +kernel)
@[simp] theorem w_names_param : (("names" : Str) = "param") = False := eqW _ _ (by decide +kernel)
@[simp] theorem w_names_ahead : (("names" : Str) = "ahead") = False := eqW _ _ (by decide +kernel)
@[simp] theorem w_names_quiet : (("names" : Str) = "quiet") = False := eqW _ _ (by decide +kernel)
@[simp] theorem w_names_st : (("names" : Str) = "*") = False := eqW _ _ (by decide +kernel)
@[simp] theorem w_ahead_num : (("ahead" : Str) = "num") = False := eqW _ _ (by decide +kernel)
@[simp] theorem w_ahead_use : (("ahead" : Str) = "use") = False := eqW _ _ (by decide +kernel)
@[simp] theorem w_ahead_op : (("ahead" : Str) = "op") = False := eqW _ _ (by decide +kernel)
@[simp] theorem w_ahead_let : (("ahead" : Str) = "let") = False := eqW _ _ (by decide +kernel)
@[simp] theorem w_ahead_if : (("ahead" : Str) = "if") = False := eqW _ _ (by decide +kernel)
@[simp] theorem w_ahead_times : (("ahead" : Str) = "times") = False := eqW _ _ (by decide +kernel)
@[simp] theorem w_ahead_tell : (("ahead" : Str) = "tell") = False := eqW _ _ (by decide +kernel)
@[simp] theorem w_ahead_stop : (("ahead" : Str) = "stop") = False := eqW _ _ (by decide +kernel)
@[simp] theorem w_ahead_call : (("ahead" : Str) = "call") = False := eqW _ _ (by decide +kernel)
@[simp] theorem w_ahead_count : (("ahead" : Str) = "count") = False := eqW _ _ (by decide +kernel)
@[simp] theorem w_ahead_sum : (("ahead" : Str) = "sum") = False := eqW _ _ (by decide +kernel)
@[simp] theorem w_ahead_param : (("ahead" : Str) = "param") = False := eqW _ _ (by decide +kernel)
@[simp] theorem w_ahead_names : (("ahead" : Str) = "names") = False := eqW _ _ (by decide +kernel)
@[simp] theorem w_ahead_quiet : (("ahead" : Str) = "quiet") = False := eqW _ _ (by decide +kernel)
@[simp] theorem w_ahead_st : (("ahead" : Str) = "*") = False := eqW _ _ (by decide +kernel)
@[simp] theorem w_quiet_num : (("quiet" : Str) = "num") = False := eqW _ _ (by decide +kernel)
@[simp] theorem w_quiet_use : (("quiet" : Str) = "use") = False := eqW _ _ (by decide +kernel)
@[simp] theorem w_quiet_op : (("quiet" : Str) = "op") = False := eqW _ _ (by decide +kernel)
@[simp] theorem w_quiet_let : (("quiet" : Str) = "let") = False := eqW _ _ (by decide +kernel)
@[simp] theorem w_quiet_if : (("quiet" : Str) = "if") = False := eqW _ _ (by decide +kernel)
@[simp] theorem w_quiet_times : (("quiet" : Str) = "times") = False := eqW _ _ (by decide +kernel)
@[simp] theorem w_quiet_tell : (("quiet" : Str) = "tell") = False := eqW _ _ (by decide +kernel)
@[simp] theorem w_quiet_stop : (("quiet" : Str) = "stop") = False := eqW _ _ (by decide +kernel)
@[simp] theorem w_quiet_call : (("quiet" : Str) = "call") = False := eqW _ _ (by decide +kernel)
@[simp] theorem w_quiet_count : (("quiet" : Str) = "count") = False := eqW _ _ (by decide +kernel)
@[simp] theorem w_quiet_sum : (("quiet" : Str) = "sum") = False := eqW _ _ (by decide +kernel)
@[simp] theorem w_quiet_param : (("quiet" : Str) = "param") = False := eqW _ _ (by decide +kernel)
@[simp] theorem w_quiet_names : (("quiet" : Str) = "names") = False := eqW _ _ (by decide +kernel)
@[simp] theorem w_quiet_ahead : (("quiet" : Str) = "ahead") = False := eqW _ _ (by decide +kernel)
@[simp] theorem w_quiet_st : (("quiet" : Str) = "*") = False := eqW _ _ (by decide +kernel)
@[simp] theorem w_st_num : (("*" : Str) = "num") = False := eqW _ _ (by decide +kernel)
@[simp] theorem w_st_use : (("*" : Str) = "use") = False := eqW _ _ (by decide +kernel)
@[simp] theorem w_st_op : (("*" : Str) = "op") = False := eqW _ _ (by decide +kernel)
@[simp] theorem w_st_let : (("*" : Str) = "let") = False := eqW _ _ (by decide +kernel)
@[simp] theorem w_st_if : (("*" : Str) = "if") = False := eqW _ _ (by decide +kernel)
@[simp] theorem w_st_times : (("*" : Str) = "times") = False := eqW _ _ (by decide +kernel)
@[simp] theorem w_st_tell : (("*" : Str) = "tell") = False := eqW _ _ (by decide +kernel)
@[simp] theorem w_st_stop : (("*" : Str) = "stop") = False := eqW _ _ (by decide +kernel)
@[simp] theorem w_st_call : (("*" : Str) = "call") = False := eqW _ _ (by decide +kernel)
@[simp] theorem w_st_count : (("*" : Str) = "count") = False := eqW _ _ (by decide +kernel)
@[simp] theorem w_st_sum : (("*" : Str) = "sum") = False := eqW _ _ (by decide +kernel)
@[simp] theorem w_st_param : (("*" : Str) = "param") = False := eqW _ _ (by decide +kernel)
@[simp] theorem w_st_names : (("*" : Str) = "names") = False := eqW _ _ (by decide +kernel)
@[simp] theorem w_st_ahead : (("*" : Str) = "ahead") = False := eqW _ _ (by decide +kernel)
@[simp] theorem w_st_quiet : (("*" : Str) = "quiet") = False := eqW _ _ (by decide +kernel)
/-! steps of the evaluator, by values -/
abbrev run0 (n f : Nat) (ds : List D) : Ret := Mp.run T G 100 n f ds
def P (n : Nat) : Px := ⟨Mp.run T G 100 n, G, fun g => ((T g).map (·.io)).getD [], 100⟩
theorem run_succ {n f : Nat} {d : Df} (h : T f = some d) (ds : List D) : Mp.run T G 100 (n + 1) f ds = runDf (P n) d ds := by
  simp only [Mp.run, h, P]
/-- a call's end with so many levels left, or more -/
def At (c f : Nat) (ds : List D) (r : Ret) : Prop := ∀ n, c ≤ n → (P n).F f ds = r
theorem at_of {c f : Nat} {d : Df} {ds : List D} {r : Ret} (h : T f = some d) (hr : ∀ n, c ≤ n → runDf (P n) d ds = r) : At (c + 1) f ds r := by
  intro n hn
  obtain ⟨m, rfl⟩ : ∃ m, n = m + 1 := ⟨n - 1, by omega⟩
  exact (run_succ h ds).trans (hr m (by omega))
theorem At.le {c c' f : Nat} {ds : List D} {r : Ret} (h : At c f ds r) (hc : c ≤ c') : At c' f ds r := fun n hn => h n (by omega)
theorem okEq_str (x : Str) (d : D) (h : nd d = true) : okEq (.str x) d = true := by
  simp [okEq, nd, PyData.hasDict, PyData.depth] at h ⊢
  exact h
theorem eqv_str (x y : Str) : PyData.eqv (.str x) (.str y) = decide (x = y) := by
  simp only [PyData.eqv]
  rw [Bool.eq_iff_iff, beq_iff_eq, decide_eq_true_eq]
theorem eqv_int (x y : Int) : PyData.eqv (.int x) (.int y) = decide (x = y) := by
  simp only [PyData.eqv]
  rw [Bool.eq_iff_iff, beq_iff_eq, decide_eq_true_eq]
@[simp] theorem cmp_eq_str (x y : Str) : Mp.cmp .eq (.str x) (.str y) = some (decide (x = y)) := by
  simp [Mp.cmp, okEq, nd, PyData.hasDict, PyData.depth, eqv_str]
@[simp] theorem cmp_ne_str (x y : Str) : Mp.cmp .ne (.str x) (.str y) = some (!decide (x = y)) := by
  simp [Mp.cmp, okEq, nd, PyData.hasDict, PyData.depth, eqv_str]
@[simp] theorem cmp_eq_int (x y : Int) : Mp.cmp .eq (.int x) (.int y) = some (decide (x = y)) := by
  simp [Mp.cmp, okEq, nd, PyData.hasDict, PyData.depth, eqv_int]
@[simp] theorem cmp_ne_int (x y : Int) : Mp.cmp .ne (.int x) (.int y) = some (!decide (x = y)) := by
  simp [Mp.cmp, okEq, nd, PyData.hasDict, PyData.depth, eqv_int]
theorem atI_nat {α : Type} (xs : List α) (k : Nat) : L2.atI xs (k : Int) = xs[k]? := by
  unfold L2.atI L2.ixN
  by_cases h : k < xs.length
  · rw [if_pos (by omega), if_pos (by omega)]
    simp
  · rw [if_pos (by omega), if_neg (by omega), List.getElem?_eq_none (by omega)]
    rfl
theorem index_tn (xs : List D) (k : Nat) : index (.tuple xs) (.int (k : Int)) = xs[k]? := atI_nat xs k
theorem index_ln (xs : List D) (k : Nat) : index (.list xs) (.int (k : Int)) = xs[k]? := atI_nat xs k
@[simp] theorem index_t0 (a : D) (r : List D) : index (.tuple (a :: r)) (.int 0) = some a := index_tn _ 0
@[simp] theorem index_t1 (a b : D) (r : List D) : index (.tuple (a :: b :: r)) (.int 1) = some b := index_tn _ 1
@[simp] theorem index_t2 (a b c : D) (r : List D) : index (.tuple (a :: b :: c :: r)) (.int 2) = some c := index_tn _ 2
@[simp] theorem index_t3 (a b c d : D) (r : List D) : index (.tuple (a :: b :: c :: d :: r)) (.int 3) = some d := index_tn _ 3
@[simp] theorem index_t4 (a b c d e : D) (r : List D) : index (.tuple (a :: b :: c :: d :: e :: r)) (.int 4) = some e := index_tn _ 4
@[simp] theorem index_t5 (a b c d e f : D) (r : List D) : index (.tuple (a :: b :: c :: d :: e :: f :: r)) (.int 5) = some f := index_tn _ 5
@[simp] theorem index_l0 (a : D) (r : List D) : index (.list (a :: r)) (.int 0) = some a := index_ln _ 0
@[simp] theorem index_l1 (a b : D) (r : List D) : index (.list (a :: b :: r)) (.int 1) = some b := index_ln _ 1
/-! loops -/
theorem loopC_fm (step : D → En → Out (Option D)) (g : D → Option D) (e : En) : ∀ ds : List D, (∀ d ∈ ds, step d e = .ok (g d) e) → loopC step ds e = .ok (ds.filterMap g) e
  | [], _ => rfl
  | d :: ds, h => by
    have ih := loopC_fm step g e ds fun x hx => h x (List.mem_cons_of_mem _ hx)
    rw [loopC, h d List.mem_cons_self, Out.bind_ok, ih, Out.bind_ok, List.filterMap_cons]
    cases g d <;> rfl
theorem loopC_map (step : D → En → Out (Option D)) (g : D → D) (e : En) (ds : List D) (h : ∀ d ∈ ds, step d e = .ok (some (g d)) e) : loopC step ds e = .ok (ds.map g) e := by
  rw [loopC_fm step (fun d => some (g d)) e ds h]
  simp
theorem loopF_inv (tg : Tg) (body : En → Out Fl) (I : List D → En → Prop) (xs : List D) (hs : ∀ done d more e, xs = done ++ d :: more → I done e → ∃ e1 e2, assign tg d e = some e1 ∧ (body e1 = .ok .nx e2 ∨ body e1 = .ok .cnt e2) ∧ I (done ++ [d]) e2) :
    ∀ (more done : List D) (e : En), xs = done ++ more → I done e → ∃ e', loopF tg body more e = .ok .nx e' ∧ I xs e'
  | [], done, e, hx, hi => ⟨e, rfl, by rw [hx, List.append_nil]; exact hi⟩
  | d :: more, done, e, hx, hi => by
    obtain ⟨e1, e2, ha, hb, hi2⟩ := hs done d more e hx hi
    obtain ⟨e', he, hi'⟩ := loopF_inv tg body I xs hs more (done ++ [d]) e2 (by rw [hx]; simp) hi2
    refine ⟨e', ?_, hi'⟩
    rw [loopF, ha]
    simp only []
    rcases hb with hb | hb <;> rw [hb] <;> exact he
theorem loopF_all {tg : Tg} {body : En → Out Fl} (I : List D → En → Prop) {xs : List D} {e : En} (h0 : I [] e) (hs : ∀ done d more e, xs = done ++ d :: more → I done e → ∃ e1 e2, assign tg d e = some e1 ∧ (body e1 = .ok .nx e2 ∨ body e1 = .ok .cnt e2) ∧ I (done ++ [d]) e2) :
    ∃ e', loopF tg body xs e = .ok .nx e' ∧ I xs e' := loopF_inv tg body I xs hs xs [] e rfl h0
/-- a row that is met at one item and ends the def there -/
theorem loopF_hit (tg : Tg) (body : En → Out Fl) (I : En → Prop) (d : D) (v : D) (post : List D) : ∀ (pre : List D) (e : En), I e → (∀ x ∈ pre, ∀ e, I e → ∃ e1 e2, assign tg x e = some e1 ∧ body e1 = .ok .nx e2 ∧ I e2) →
    (∀ e, I e → ∃ e1 e2, assign tg d e = some e1 ∧ body e1 = .ok (.ret v) e2) → ∃ e', loopF tg body (pre ++ d :: post) e = .ok (.ret v) e'
  | [], e, hi, _, h => by
    obtain ⟨e1, e2, ha, hb⟩ := h e hi
    refine ⟨e2, ?_⟩
    rw [List.nil_append, loopF, ha]
    simp only []
    rw [hb]
    rfl
  | x :: pre, e, hi, hp, h => by
    obtain ⟨e1, e2, ha, hb, hi2⟩ := hp x List.mem_cons_self e hi
    obtain ⟨e', he⟩ := loopF_hit tg body I d v post pre e2 hi2 (fun y hy => hp y (List.mem_cons_of_mem _ hy)) h
    refine ⟨e', ?_⟩
    rw [List.cons_append, loopF, ha]
    simp only []
    rw [hb]
    exact he
end K06.Pu

namespace K06.Pu
open K06 PySem Mp
/-- what an expression is: a use, what binds in its parts, or else -/
inductive Kd where
  | use (x : Str)
  | lt (x : Str)
  | tm (x y : Str)
  | oth
/-- an expression's form: its kind and its parts -/
inductive Hd : D → Kd → List D → Prop
  | num (i : Int) : Hd (.tuple [.str "num", .int i]) .oth []
  | use (x : Str) : Hd (.tuple [.str "use", .str x]) (.use x) []
  | op (s : Str) (a b : D) : Hd (.tuple [.str "op", .str s, a, b]) .oth [a, b]
  | lt (x : Str) (a b : D) : Hd (.tuple [.str "let", .str x, a, b]) (.lt x) [a, b]
  | ite (a b c : D) : Hd (.tuple [.str "if", a, b, c]) .oth [a, b, c]
  | call (m f : Str) (ps : List D) : Hd (.tuple [.str "call", .str m, .str f, .tuple ps]) .oth ps
  | tm (n : D) (x y : Str) (a b : D) : Hd (.tuple [.str "times", n, .str x, .str y, a, b]) (.tm x y) [n, a, b]
  | tell (a b : D) : Hd (.tuple [.str "tell", a, b]) .oth [a, b]
  | stop (a : D) : Hd (.tuple [.str "stop", a]) .oth [a]

theorem dget_cons (k : Str) (v : D) (r : List (D × D)) (x : Str) : dget ((.str k, v) :: r) (.str x) = if k = x then some v else dget r (.str x) := by
  unfold dget
  rw [List.find?_cons, eqv_str]
  by_cases h : k = x <;> simp [h]
@[simp] theorem index_dict (kvs : List (D × D)) (k : D) : index (.dict kvs) k = if dictOk kvs k then dget kvs k else none := rfl
@[simp] theorem P_G (n : Nat) : (P n).G = G := rfl
@[simp] theorem bin_add_int (i j : Int) : Mp.bin .add (.int i) (.int j) = some (.int (i + j)) := rfl
@[simp] theorem bin_sub_int (i j : Int) : Mp.bin .sub (.int i) (.int j) = some (.int (i - j)) := rfl
@[simp] theorem bin_add_tuple (xs ys : List D) : Mp.bin .add (.tuple xs) (.tuple ys) = if okLen (xs.length + ys.length) then some (.tuple (xs ++ ys)) else none := rfl
@[simp] theorem bin_add_list (xs ys : List D) : Mp.bin .add (.list xs) (.list ys) = if okLen (xs.length + ys.length) then some (.list (xs ++ ys)) else none := rfl
@[simp] theorem bin_add_str (xs ys : Str) : Mp.bin .add (.str xs) (.str ys) = if okLen (xs.length + ys.length) then some (.str (xs ++ ys)) else none := rfl
@[simp] theorem bin_mul_int (i j : Int) : Mp.bin .mul (.int i) (.int j) = if small64 i || small64 j then some (.int (i * j)) else none := rfl
@[simp] theorem bin_fdiv_int (i j : Int) : Mp.bin .fdiv (.int i) (.int j) = if decide (0 < j ∧ j < 1073741824) then some (.int (i / j)) else none := rfl
@[simp] theorem bin_mod_int (i j : Int) : Mp.bin .mod (.int i) (.int j) = if decide (0 < j) then some (.int (i % j)) else none := rfl
@[simp] def sx_okLen := @Mp.okLen.eq_def
@[simp] def sx_itemsK := @Mp.itemsK.eq_def
@[simp] def sx_Out_noEx := @Mp.Out.noEx.eq_def
@[simp] def sx_flt := @Mp.flt.eq_def
@[simp] def sx_atSlot := @Mp.atSlot.eq_def
@[simp] def sx_extOp := @Mp.extOp.eq_def
@[simp] def sx_appOp := @Mp.appOp.eq_def
@[simp] def sx_listAt := @Mp.listAt.eq_def
@[simp] def sx_mutAt := @Mp.mutAt.eq_def
@[simp] def sx_isMut := @Mp.isMut.eq_def
@[simp] def sx_execs_1 := @Mp.execs.eq_1
@[simp] def sx_execs_2 := @Mp.execs.eq_2
@[simp] def sx_exec_1 := @Mp.exec.eq_1
@[simp] def sx_exec_2 := @Mp.exec.eq_2
@[simp] def sx_exec_3 := @Mp.exec.eq_3
@[simp] def sx_exec_4 := @Mp.exec.eq_4
@[simp] def sx_exec_5 := @Mp.exec.eq_5
@[simp] def sx_exec_6 := @Mp.exec.eq_6
@[simp] def sx_exec_7 := @Mp.exec.eq_7
@[simp] def sx_exec_8 := @Mp.exec.eq_8
@[simp] def sx_exec_9 := @Mp.exec.eq_9
@[simp] def sx_exec_10 := @Mp.exec.eq_10
@[simp] def sx_exec_11 := @Mp.exec.eq_11
@[simp] def sx_exec_12 := @Mp.exec.eq_12
@[simp] def sx_exec_13 := @Mp.exec.eq_13
@[simp] def sx_exec_14 := @Mp.exec.eq_14
@[simp] def sx_exec_15 := @Mp.exec.eq_15
@[simp] def sx_exec_16 := @Mp.exec.eq_16
@[simp] def sx_exec_17 := @Mp.exec.eq_17
@[simp] def sx_ev_1 := @Mp.ev.eq_1
@[simp] def sx_ev_2 := @Mp.ev.eq_2
@[simp] def sx_ev_3 := @Mp.ev.eq_3
@[simp] def sx_ev_4 := @Mp.ev.eq_4
@[simp] def sx_ev_5 := @Mp.ev.eq_5
@[simp] def sx_ev_6 := @Mp.ev.eq_6
@[simp] def sx_ev_7 := @Mp.ev.eq_7
@[simp] def sx_ev_8 := @Mp.ev.eq_8
@[simp] def sx_ev_9 := @Mp.ev.eq_9
@[simp] def sx_ev_10 := @Mp.ev.eq_10
@[simp] def sx_ev_11 := @Mp.ev.eq_11
@[simp] def sx_ev_12 := @Mp.ev.eq_12
@[simp] def sx_ev_13 := @Mp.ev.eq_13
@[simp] def sx_ev_14 := @Mp.ev.eq_14
@[simp] def sx_ev_15 := @Mp.ev.eq_15
@[simp] def sx_ev_16 := @Mp.ev.eq_16
@[simp] def sx_ev_17 := @Mp.ev.eq_17
@[simp] def sx_ev_18 := @Mp.ev.eq_18
@[simp] def sx_ev_19 := @Mp.ev.eq_19
@[simp] def sx_ev_20 := @Mp.ev.eq_20
@[simp] def sx_ev_21 := @Mp.ev.eq_21
@[simp] def sx_ev_22 := @Mp.ev.eq_22
@[simp] def sx_ev_23 := @Mp.ev.eq_23
@[simp] def sx_evs_1 := @Mp.evs.eq_1
@[simp] def sx_evs_2 := @Mp.evs.eq_2
@[simp] def sx_evAnd_1 := @Mp.evAnd.eq_1
@[simp] def sx_evAnd_2 := @Mp.evAnd.eq_2
@[simp] def sx_evOr_1 := @Mp.evOr.eq_1
@[simp] def sx_evOr_2 := @Mp.evOr.eq_2
@[simp] def sx_lift := @Mp.lift.eq_def
@[simp] def sx_liftB := @Mp.liftB.eq_def
@[simp] def sx_onBool := @Mp.onBool.eq_def
@[simp] def sx_setE := @Mp.setE.eq_def
@[simp] def sx_wipeE := @Mp.wipeE.eq_def
@[simp] def sx_backE := @Mp.backE.eq_def
@[simp] def sx_assign := @Mp.assign.eq_def
@[simp] def sx_assignAll_1 := @Mp.assignAll.eq_1
@[simp] def sx_assignAll_2 := @Mp.assignAll.eq_2
@[simp] def sx_assignAll_3 := @Mp.assignAll.eq_3
@[simp] def sx_iosOf_1 := @Mp.iosOf.eq_1
@[simp] def sx_iosOf_2 := @Mp.iosOf.eq_2
@[simp] def sx_optInt := @Mp.optInt.eq_def
theorem at_parts {d : D} {κ : Kd} {ps : List D} (h : Hd d κ ps) : At 1 0 [d] (.ok (.list ps) []) := by
  refine at_of (d := d_parts) rfl fun n hn => ?_
  cases h <;> simp [runDf, d_parts, G, dictOk, Mp.keyOk, dget_cons, bf, itemsK, loopC, Mp.flt, Out.noEx, okLen]

/-! loops over what stands for data -/
theorem loopF_ix {α : Type} {tg : Tg} {body : En → Out Fl} (φ : Nat → α → D) (I : List α → En → Prop) (xs : List α) (hs : ∀ done x more e, xs = done ++ x :: more → I done e → ∃ e1 e2, Mp.assign tg (φ done.length x) e = some e1 ∧ (body e1 = .ok .nx e2 ∨ body e1 = .ok .cnt e2) ∧ I (done ++ [x]) e2) :
    ∀ (more done : List α) (e : En), xs = done ++ more → I done e → ∃ e', loopF tg body ((more.zipIdx done.length).map fun p => φ p.2 p.1) e = .ok .nx e' ∧ I xs e'
  | [], done, e, hx, hi => ⟨e, rfl, by rw [hx, List.append_nil]; exact hi⟩
  | d :: more, done, e, hx, hi => by
    obtain ⟨e1, e2, ha, hb, hi2⟩ := hs done d more e hx hi
    obtain ⟨e', he, hi'⟩ := loopF_ix φ I xs hs more (done ++ [d]) e2 (by rw [hx]; simp) hi2
    refine ⟨e', ?_, hi'⟩
    rw [List.zipIdx_cons, List.map_cons, loopF]
    simp only [ha]
    rw [List.length_append, List.length_singleton] at he
    rcases hb with hb | hb <;> rw [hb] <;> exact he
theorem loopF_enum {α : Type} {tg : Tg} {body : En → Out Fl} (φ : Nat → α → D) (I : List α → En → Prop) {xs : List α} {e : En} (h0 : I [] e) (hs : ∀ done x more e, xs = done ++ x :: more → I done e → ∃ e1 e2, Mp.assign tg (φ done.length x) e = some e1 ∧ (body e1 = .ok .nx e2 ∨ body e1 = .ok .cnt e2) ∧ I (done ++ [x]) e2) :
    ∃ e', loopF tg body (xs.zipIdx.map fun p => φ p.2 p.1) e = .ok .nx e' ∧ I xs e' := loopF_ix φ I xs hs xs [] e rfl h0
theorem loopF_map {α : Type} {tg : Tg} {body : En → Out Fl} (φ : α → D) (I : List α → En → Prop) {xs : List α} {e : En} (h0 : I [] e) (hs : ∀ done x more e, xs = done ++ x :: more → I done e → ∃ e1 e2, Mp.assign tg (φ x) e = some e1 ∧ (body e1 = .ok .nx e2 ∨ body e1 = .ok .cnt e2) ∧ I (done ++ [x]) e2) :
    ∃ e', loopF tg body (xs.map φ) e = .ok .nx e' ∧ I xs e' := by
  obtain ⟨e', h, hi⟩ := loopF_ix (fun _ => φ) I xs hs xs [] e rfl h0
  refine ⟨e', ?_, hi⟩
  rw [← h]
  congr 1
  rw [← List.zipIdx_map_fst 0 xs, List.map_map]
  simp [Function.comp_def]
theorem loopF_met {α : Type} {tg : Tg} {body : En → Out Fl} (φ : α → D) (I : En → Prop) {pre post : List α} {x : α} {v : D} {e : En} (h0 : I e) (hp : ∀ y ∈ pre, ∀ e, I e → ∃ e1 e2, Mp.assign tg (φ y) e = some e1 ∧ body e1 = .ok .nx e2 ∧ I e2)
    (h : ∀ e, I e → ∃ e1 e2, Mp.assign tg (φ x) e = some e1 ∧ body e1 = .ok (.ret v) e2) : ∃ e', loopF tg body ((pre ++ x :: post).map φ) e = .ok (.ret v) e' := by
  rw [List.map_append, List.map_cons]
  refine loopF_hit tg body I (φ x) v _ _ e h0 (fun y hy e hi => ?_) h
  obtain ⟨z, hz, rfl⟩ := List.mem_map.mp hy
  exact hp z hz e hi

/-! expressions, programs -/
def view (d : D) : Kd × List D := match d with
  | .tuple (.str h :: r) =>
    if h = "use" then (match r with
      | [.str x] => (.use x, [])
      | _ => (.oth, []))
    else if h = "let" then (match r with
      | [.str x, a, b] => (.lt x, [a, b])
      | _ => (.oth, []))
    else if h = "times" then (match r with
      | [n, .str x, .str y, a, b] => (.tm x y, [n, a, b])
      | _ => (.oth, []))
    else if h = "call" then (match r with
      | [_, _, .tuple ps] => (.oth, ps)
      | _ => (.oth, []))
    else if h = "num" then (.oth, []) else if h = "op" then (.oth, r.drop 1) else (.oth, r)
  | _ => (.oth, [])
def kd (d : D) : Kd := (view d).1
def pts (d : D) : List D := (view d).2
theorem Hd.view {d : D} {κ : Kd} {ps : List D} (h : Hd d κ ps) : K06.Pu.view d = (κ, ps) := by
  cases h <;> simp [K06.Pu.view]
theorem Hd.kd {d : D} {κ : Kd} {ps : List D} (h : Hd d κ ps) : K06.Pu.kd d = κ := by rw [K06.Pu.kd, h.view]
theorem Hd.pts {d : D} {κ : Kd} {ps : List D} (h : Hd d κ ps) : K06.Pu.pts d = ps := by rw [K06.Pu.pts, h.view]
def IsE (d : D) : Prop := Hd d (kd d) (pts d)
theorem Hd.isE {d : D} {κ : Kd} {ps : List D} (h : Hd d κ ps) : IsE d := by
  rw [IsE, h.kd, h.pts]
  exact h
def Kd.sc : Kd → Nat → List Str → List Str
  | .lt x, 1, Γ => x :: Γ
  | .tm x y, 2, Γ => x :: y :: Γ
  | _, _, Γ => Γ
/-- an expression of so many levels at most, its uses bound by names round it -/
def WF : Nat → List Str → D → Prop
  | 0, _, _ => False
  | n + 1, Γ, d => IsE d ∧ (∀ x, kd d = .use x → x ∈ Γ) ∧ (∀ x y, kd d = .tm x y → x ≠ y) ∧ (pts d).length ≤ 3 ∧ ∀ k p, (pts d)[k]? = some p → WF n ((kd d).sc k Γ) p
def rows : Nat → D → List (List Nat)
  | 0, _ => []
  | n + 1, d => [] :: (pts d).zipIdx.flatMap fun p => (rows n p.1).map (p.2 :: ·)
def atR (d : D) (r : List Nat) : D := r.foldl (fun e k => (pts e)[k]?.getD .none) d
def IsAt (d : D) : List Nat → Prop
  | [] => True
  | k :: r => IsE d ∧ ∃ p, (pts d)[k]? = some p ∧ IsAt p r
def nD (k : Nat) : D := .int (k : Int)
def rowD (r : List Nat) : D := .tuple (r.map nD)
def wayD (m f : Str) (r : List Nat) : D := .tuple (.str m :: .str f :: r.map nD)
abbrev Fu := Str × List Str × D
abbrev Pg := List (Str × List Fu)
def fnD (f : Fu) : D := .tuple [.str f.1, .tuple (f.2.1.map .str), f.2.2]
def modD (m : Str × List Fu) : D := .tuple [.str m.1, .tuple (m.2.map fnD)]
def progD (p : Pg) : D := .tuple (p.map modD)
def fnsP (p : Pg) : List (Str × Fu) := p.flatMap fun m => m.2.map fun f => (m.1, f)
def fnrD (r : Str × Fu) : D := .tuple [.str r.1, .str r.2.1, .tuple (r.2.2.1.map .str), r.2.2.2]
/-- the function of a program that a name leads to -/
def Fnd (p : Pg) (m f : Str) (g : Fu) : Prop := ∃ pre post, fnsP p = pre ++ (m, g) :: post ∧ g.1 = f ∧ ∀ r ∈ pre, ¬ (r.1 = m ∧ r.2.1 = f)
theorem at_functions {p : Pg} (hp : (fnsP p).length ≤ 1000) : At 1 1 [progD p] (.ok (.list ((fnsP p).map fnrD)) []) := by
  refine at_of (d := d_functions) rfl fun n hn => ?_
  simp [runDf, d_functions, progD, itemsK, okLen, isMut]
  generalize hL : loopF _ _ _ _ = L
  have h : ∃ e', L = .ok .nx e' ∧ ∃ a b, e' = [some (progD p), some (.list ((fnsP p).map fnrD)), a, b, none] := by
    subst hL
    refine loopF_map modD (fun q e => ∃ a b, e = [some (progD p), some (.list ((fnsP q).map fnrD)), a, b, none]) ⟨_, _, rfl⟩ ?_
    intro done x more e hx ⟨a, b, he⟩
    subst he
    refine ⟨[some (progD p), some (.list ((fnsP done).map fnrD)), some (.str x.1), some (.tuple (x.2.map fnD)), none], [some (progD p), some (.list ((fnsP (done ++ [x])).map fnrD)), some (.str x.1), some (.tuple (x.2.map fnD)), none], by simp [modD, progD], .inl ?_, ⟨_, _, rfl⟩⟩
    have hl : (fnsP p).length = (fnsP done).length + (x.2.length + (fnsP more).length) := by
      rw [hx]
      simp [fnsP]
    have h1 : x.2.length ≤ 16777216 := by omega
    have h2 : (fnsP done).length + x.2.length ≤ 16777216 := by omega
    simp
    rw [loopC_map _ (fun d => .tuple (.str x.1 :: (match d with | .tuple r => r | _ => []))) _ _ ?_]
    · simp [h1, h2]
      simp [fnsP, fnD, fnrD, Function.comp_def]
    · intro d hd
      obtain ⟨f, hf, rfl⟩ := List.mem_map.mp hd
      simp [fnD]
  obtain ⟨e', rfl, a, b, rfl⟩ := h
  simp
end K06.Pu

namespace K06.Pu
open K06 PySem Mp
@[simp] theorem io_0 (n : Nat) : (P n).io 0 = [] := rfl
@[simp] theorem io_1 (n : Nat) : (P n).io 1 = [] := rfl
@[simp] theorem io_2 (n : Nat) : (P n).io 2 = [] := rfl
@[simp] theorem io_3 (n : Nat) : (P n).io 3 = [] := rfl
@[simp] theorem io_4 (n : Nat) : (P n).io 4 = [] := rfl
@[simp] theorem io_5 (n : Nat) : (P n).io 5 = [] := rfl
@[simp] theorem io_6 (n : Nat) : (P n).io 6 = [] := rfl
@[simp] theorem io_7 (n : Nat) : (P n).io 7 = [] := rfl
@[simp] theorem io_8 (n : Nat) : (P n).io 8 = [] := rfl
@[simp] theorem io_9 (n : Nat) : (P n).io 9 = [] := rfl
@[simp] theorem io_10 (n : Nat) : (P n).io 10 = [] := rfl
@[simp] theorem io_11 (n : Nat) : (P n).io 11 = [] := rfl
@[simp] theorem io_12 (n : Nat) : (P n).io 12 = [] := rfl
@[simp] theorem io_13 (n : Nat) : (P n).io 13 = [] := rfl
@[simp] theorem io_14 (n : Nat) : (P n).io 14 = [] := rfl
@[simp] theorem io_15 (n : Nat) : (P n).io 15 = [1] := rfl
@[simp] theorem io_16 (n : Nat) : (P n).io 16 = [] := rfl
@[simp] theorem io_17 (n : Nat) : (P n).io 17 = [] := rfl
@[simp] theorem io_18 (n : Nat) : (P n).io 18 = [] := rfl
@[simp] theorem io_19 (n : Nat) : (P n).io 19 = [1] := rfl
@[simp] theorem io_20 (n : Nat) : (P n).io 20 = [1] := rfl
@[simp] theorem io_21 (n : Nat) : (P n).io 21 = [1] := rfl
@[simp] theorem io_22 (n : Nat) : (P n).io 22 = [1] := rfl
@[simp] theorem io_23 (n : Nat) : (P n).io 23 = [1] := rfl
@[simp] theorem io_24 (n : Nat) : (P n).io 24 = [] := rfl
@[simp] theorem io_25 (n : Nat) : (P n).io 25 = [] := rfl
@[simp] theorem io_26 (n : Nat) : (P n).io 26 = [] := rfl
@[simp] theorem io_27 (n : Nat) : (P n).io 27 = [] := rfl
@[simp] theorem io_28 (n : Nat) : (P n).io 28 = [] := rfl
@[simp] theorem io_29 (n : Nat) : (P n).io 29 = [] := rfl
@[simp] theorem io_30 (n : Nat) : (P n).io 30 = [] := rfl
@[simp] theorem io_31 (n : Nat) : (P n).io 31 = [] := rfl
@[simp] def sx_rereadIo_1 := @Mp.rereadIo.eq_1
@[simp] def sx_rereadIo_2 := @Mp.rereadIo.eq_2
@[simp] def sx_putIo_1 := @Mp.putIo.eq_1
@[simp] def sx_putIo_2 := @Mp.putIo.eq_2
@[simp] def sx_putIo_3 := @Mp.putIo.eq_3
@[simp] def sx_slotOf := @Mp.slotOf.eq_def
@[simp] def sx_isTy := @Mp.isTy.eq_def
@[simp] def sx_isNone := @Mp.isNone.eq_def
@[simp] theorem cmp_isn (a : D) : Mp.cmp .isn a .none = some (Mp.isNone a) := by simp [Mp.cmp]
@[simp] theorem cmp_nis (a : D) : Mp.cmp .nis a .none = some (!Mp.isNone a) := by simp [Mp.cmp]
@[simp] theorem cmp_lt_int (x y : Int) : Mp.cmp .lt (.int x) (.int y) = some (decide (x < y)) := by simp [Mp.cmp]
@[simp] theorem cmp_le_int (x y : Int) : Mp.cmp .le (.int x) (.int y) = some (decide (x ≤ y)) := by simp [Mp.cmp]
@[simp] theorem cmp_gt_int (x y : Int) : Mp.cmp .gt (.int x) (.int y) = some (decide (y < x)) := by simp [Mp.cmp]
@[simp] theorem cmp_ge_int (x y : Int) : Mp.cmp .ge (.int x) (.int y) = some (decide (y ≤ x)) := by simp [Mp.cmp]
theorem cut_from (xs : List D) : Mp.cut xs (some 2) none = xs.drop 2 := by
  have e : HT.sIx xs.length 0 (some 2) = min 2 xs.length := HT.sIx_nat _ _ 2
  unfold Mp.cut
  rw [e, HT.sIx_none]
  rcases Nat.lt_or_ge xs.length 2 with h | h
  · rw [Nat.min_eq_right (by omega), List.drop_eq_nil_of_le (as := xs) (i := 2) (by omega)]
    simp
  · rw [Nat.min_eq_left h, List.take_of_length_le (by simp)]
theorem cut_to2 (xs : List D) : Mp.cut xs none (some 2) = xs.take 2 := by
  have e : HT.sIx xs.length xs.length (some 2) = min 2 xs.length := HT.sIx_nat _ _ 2
  unfold Mp.cut
  rw [e, HT.sIx_none]
  rcases Nat.lt_or_ge xs.length 2 with h | h
  · rw [Nat.min_eq_right (by omega), List.take_of_length_le (i := 2) (by omega)]
    simp
  · rw [Nat.min_eq_left h]
    simp
@[simp] theorem slice_from (xs : List D) : Mp.slice (.tuple xs) (some 2) none = some (.tuple (xs.drop 2)) := by rw [← cut_from]; rfl
@[simp] theorem slice_to2 (xs : List D) : Mp.slice (.tuple xs) none (some 2) = some (.tuple (xs.take 2)) := by rw [← cut_to2]; rfl
@[simp] theorem bf_list_t (xs : List D) : Mp.bf .list [.tuple xs] = some (.list xs) := rfl
@[simp] theorem bf_list_l (xs : List D) : Mp.bf .list [.list xs] = some (.list xs) := rfl
@[simp] theorem bf_tuple_t (xs : List D) : Mp.bf .tuple [.tuple xs] = some (.tuple xs) := rfl
@[simp] theorem bf_tuple_l (xs : List D) : Mp.bf .tuple [.list xs] = some (.tuple xs) := rfl
@[simp] theorem bf_len_t (xs : List D) : Mp.bf .len [.tuple xs] = some (.int xs.length) := rfl
@[simp] theorem bf_len_l (xs : List D) : Mp.bf .len [.list xs] = some (.int xs.length) := rfl
@[simp] theorem bf_all (xs : List D) : Mp.bf .all [.list xs] = (boolsOf xs).map fun bs => .bool (bs.all id) := rfl

theorem at_function {p : Pg} {m f : Str} {g : Fu} (hp : (fnsP p).length ≤ 1000) (h : Fnd p m f g) : At 2 2 [progD p, .str m, .str f] (.ok (.tuple [.tuple (g.2.1.map .str), g.2.2]) []) := by
  refine at_of (d := d_function) rfl fun n hn => ?_
  obtain ⟨pre, post, hx, hf, hpre⟩ := h
  simp [runDf, d_function, at_functions hp n hn]
  generalize hL : loopF _ _ _ _ = L
  have h : ∃ e', L = .ok (.ret (.tuple [.tuple (g.2.1.map .str), g.2.2])) e' := by
    subst hL
    rw [hx]
    refine loopF_met fnrD (fun e => ∃ a, e = [some (progD p), some (.str m), some (.str f), a]) ⟨_, rfl⟩ ?_ ?_
    · rintro y hy e ⟨a, rfl⟩
      refine ⟨_, [some (progD p), some (.str m), some (.str f), some (fnrD y)], rfl, ?_, ⟨_, rfl⟩⟩
      have := hpre y hy
      by_cases h1 : y.1 = m
      · have h2 : ¬ y.2.1 = f := fun h => this ⟨h1, h⟩
        simp [fnrD, h1, h2]
      · simp [fnrD, h1]
    · rintro e ⟨a, rfl⟩
      refine ⟨_, [some (progD p), some (.str m), some (.str f), some (fnrD (m, g))], rfl, ?_⟩
      simp [fnrD, hf]
  obtain ⟨e', rfl⟩ := h
  simp

theorem at_is_spot {k n : Nat} (h : k < n) : At 1 3 [nD k, nD n] (.ok (.bool true) []) := by
  refine at_of (d := d_is_spot) rfl fun m hm => ?_
  simp [runDf, d_is_spot, nD, h]

theorem atR_snoc (d : D) (r : List Nat) (k : Nat) : atR d (r ++ [k]) = (pts (atR d r))[k]?.getD .none := by
  simp [atR]
theorem IsAt.at : ∀ {r : List Nat} {d : D} {pre : List Nat} {k : Nat} {more : List Nat}, IsAt d r → r = pre ++ k :: more → IsE (atR d pre) ∧ (pts (atR d pre))[k]? = some (atR d (pre ++ [k]))
  | _, d, [], k, more, h, rfl => by
    obtain ⟨h1, p, hp, _⟩ := h
    exact ⟨h1, by simp [atR, hp]⟩
  | _, d, j :: pre, k, more, h, rfl => by
    obtain ⟨h1, p, hp, h2⟩ := h
    have := IsAt.at h2 rfl (pre := pre)
    simp only [atR, List.foldl_cons, List.cons_append, hp, Option.getD_some] at this ⊢
    exact this
theorem at_part_at {d : D} {r : List Nat} (h : IsAt d r) : At 2 4 [d, rowD r] (.ok (atR d r) []) := by
  refine at_of (d := d_part_at) rfl fun n hn => ?_
  simp [runDf, d_part_at, rowD]
  generalize hL : loopF _ _ _ _ = L
  have h : ∃ e', L = .ok .nx e' ∧ ∃ a b, e' = [some (atR d r), some (rowD r), a, b] := by
    subst hL
    refine loopF_map nD (fun q e => ∃ a b, e = [some (atR d q), some (rowD r), a, b]) ⟨_, _, rfl⟩ ?_
    rintro done k more e hx ⟨a, b, rfl⟩
    obtain ⟨h1, h2⟩ := h.at hx
    refine ⟨_, [some (atR d (done ++ [k])), some (rowD r), some (nD k), some (.list (pts (atR d done)))], rfl, .inl ?_, ⟨_, _, rfl⟩⟩
    obtain ⟨h3, h4⟩ := List.getElem?_eq_some_iff.mp h2
    have hi : index (.list (pts (atR d done))) (nD k) = some (atR d (done ++ [k])) := by
      rw [nD, index_ln, h2]
    have hs := at_is_spot h3 n hn
    rw [nD, nD] at hs
    simp [at_parts h1 n hn, hi, nD]
    simp [hs]
    rw [← nD, hi]
    simp
  obtain ⟨e', rfl, a, b, rfl⟩ := h
  simp
theorem at_at_way {p : Pg} {m f : Str} {g : Fu} {r : List Nat} (hp : (fnsP p).length ≤ 1000) (h : Fnd p m f g) (ha : IsAt g.2.2 r) : At 3 5 [progD p, wayD m f r] (.ok (atR g.2.2 r) []) := by
  refine at_of (d := d_at_way) rfl fun n hn => ?_
  have hr := at_part_at ha n hn
  rw [rowD] at hr
  have h0 : ¬ ((r.length : Int) + 1 + 1 < 2) := by omega
  simp [runDf, d_at_way, wayD, loopC, boolsOf, at_function hp h n hn, hr, h0]
end K06.Pu

namespace K06.Pu
open K06 PySem Mp
/-! binders round an expression, by names -/
abbrev Rho := Str → Option D
def SK (b : Nat) (kvs : List (D × D)) (ρ : Rho) : Prop := kvs.length ≤ b ∧ (∀ kv ∈ kvs, ∃ x, kv.1 = .str x) ∧ ∀ x, dget kvs (.str x) = ρ x
def Rho.set (ρ : Rho) (k : Str) (v : D) : Rho := fun x => if k = x then some v else ρ x
theorem SK.keys {b : Nat} {kvs : List (D × D)} {ρ : Rho} (h : SK b kvs ρ) : (kvs.all fun kv => Mp.keyOk kv.1) = true := by
  rw [List.all_eq_true]
  intro kv hkv
  obtain ⟨x, hx⟩ := h.2.1 kv hkv
  rw [hx]
  rfl
theorem SK.dictOk {b : Nat} {kvs : List (D × D)} {ρ : Rho} (h : SK b kvs ρ) (x : Str) : Mp.dictOk kvs (.str x) = true := by
  unfold Mp.dictOk
  rw [h.keys]
  rfl
theorem dget_dput (k : Str) (v : D) (x : Str) : ∀ kvs : List (D × D), (∀ kv ∈ kvs, ∃ x, kv.1 = .str x) → dget (dput kvs (.str k) v) (.str x) = if k = x then some v else dget kvs (.str x) := by
  intro kvs hk
  have hmap : ∀ kvs : List (D × D), (∀ kv ∈ kvs, ∃ x, kv.1 = .str x) → (kvs.any fun kv => PyData.eqv kv.1 (.str k)) = true → dget (kvs.map fun kv => if PyData.eqv kv.1 (.str k) then (kv.1, v) else kv) (.str x) = if k = x then some v else dget kvs (.str x) := by
    intro kvs
    induction kvs with
    | nil => intro _ h; exact absurd h (by simp)
    | cons kv r ih =>
      intro hk ha
      obtain ⟨y, hy⟩ := hk kv List.mem_cons_self
      obtain ⟨a, w⟩ := kv
      simp only at hy
      subst hy
      by_cases hyk : y = k
      · subst hyk
        simp only [List.map_cons, eqv_str, decide_true, if_true, dget_cons]
        by_cases hyx : y = x
        · simp [hyx]
        · simp only [hyx, if_false]
          have hr : ∀ kv ∈ r, ∃ x, kv.1 = .str x := fun z hz => hk z (List.mem_cons_of_mem _ hz)
          clear ih ha hk
          induction r with
          | nil => rfl
          | cons z r ih =>
            obtain ⟨t, ht⟩ := hr z List.mem_cons_self
            obtain ⟨z1, z2⟩ := z
            simp only at ht
            subst ht
            have ih' := ih fun q hq => hr q (List.mem_cons_of_mem _ hq)
            simp only [List.map_cons, eqv_str]
            by_cases hty : t = y
            · subst hty
              simp only [decide_true, if_true, dget_cons, hyx, if_false]
              exact ih'
            · simp only [hty, decide_false, Bool.false_eq_true, if_false, dget_cons]
              rw [ih']
      · rw [List.any_cons, eqv_str] at ha
        simp only [hyk, decide_false, Bool.false_or] at ha
        simp only [List.map_cons, eqv_str, hyk, decide_false, Bool.false_eq_true, if_false, dget_cons]
        rw [ih (fun q hq => hk q (List.mem_cons_of_mem _ hq)) ha]
        by_cases hyx : y = x
        · have : ¬ k = x := fun h => hyk (hyx.trans h.symm)
          simp [hyx, this]
        · simp [hyx]
  unfold dput
  by_cases ha : (kvs.any fun kv => PyData.eqv kv.1 (.str k)) = true
  · rw [if_pos ha]
    exact hmap kvs hk ha
  · rw [if_neg ha]
    clear hmap
    induction kvs with
    | nil => rw [List.nil_append, dget_cons]
    | cons kv r ih =>
      obtain ⟨y, hy⟩ := hk kv List.mem_cons_self
      obtain ⟨a, w⟩ := kv
      simp only at hy
      subst hy
      rw [List.any_cons, eqv_str] at ha
      have hyk : ¬ y = k := fun h => ha (by simp [h])
      simp only [hyk, decide_false, Bool.false_or] at ha
      rw [List.cons_append, dget_cons, dget_cons, ih (fun q hq => hk q (List.mem_cons_of_mem _ hq)) ha]
      by_cases hyx : y = x
      · have : ¬ k = x := fun h => hyk (hyx.trans h.symm)
        simp [hyx, this]
      · simp [hyx]
theorem SK.put {b : Nat} {kvs : List (D × D)} {ρ : Rho} (h : SK b kvs ρ) (k : Str) (v : D) : SK (b + 1) (dput kvs (.str k) v) (ρ.set k v) := by
  refine ⟨?_, ?_, ?_⟩
  · have := h.1
    unfold dput
    split <;> simp <;> omega
  · intro kv hkv
    unfold dput at hkv
    split at hkv
    · obtain ⟨q, hq, rfl⟩ := List.mem_map.mp hkv
      obtain ⟨x, hx⟩ := h.2.1 q hq
      split
      · exact ⟨x, hx⟩
      · exact ⟨x, hx⟩
    · rcases List.mem_append.mp hkv with hkv | hkv
      · exact h.2.1 kv hkv
      · rw [List.mem_singleton.mp hkv]
        exact ⟨k, rfl⟩
  · intro x
    rw [dget_dput k v x kvs h.2.1, h.2.2 x]
    rfl
theorem SK.le {b b' : Nat} {kvs : List (D × D)} {ρ : Rho} (h : SK b kvs ρ) (hb : b ≤ b') : SK b' kvs ρ := ⟨Nat.le_trans h.1 hb, h.2⟩
def upd (κ : Kd) (k : Nat) (w : D) (ρ : Rho) : Rho := match κ, k with
  | .lt x, 1 => ρ.set x (.tuple [.str "let", w])
  | .tm x y, 2 => (ρ.set x (.tuple [.str "count", w])).set y (.tuple [.str "sum", w])
  | _, _ => ρ
@[simp] theorem nD_eq (k : Nat) (i : Int) : Mp.cmp .eq (nD k) (.int i) = some (decide ((k : Int) = i)) := cmp_eq_int _ _
theorem at_more_round {e w : D} {b : Nat} {kvs : List (D × D)} {ρ : Rho} {k : Nat} (he : IsE e) (h : SK b kvs ρ) (hb : b ≤ 1000) : ∃ kvs', SK (b + 2) kvs' (upd (kd e) k w ρ) ∧ At 1 6 [e, w, .dict kvs, nD k] (.ok (.dict kvs') []) := by
  have hbf : bf .dict [.dict kvs] = some (.dict kvs) := by
    simp only [bf]
    rw [if_pos h.keys]
  have hput : ∀ {b : Nat} {kvs : List (D × D)} {ρ : Rho} (k : Str) (v : D), b ≤ 2000 → SK b kvs ρ → putOp (.dict kvs) (.str k) v = some (.dict (dput kvs (.str k) v)) := by
    intro b kvs ρ k v hb h
    have := h.1
    simp only [putOp]
    rw [h.keys, if_pos]
    simp [Mp.keyOk]
    omega
  by_cases hl : ∃ x, kd e = .lt x ∧ k = 1
  · obtain ⟨x, hx, rfl⟩ := hl
    refine ⟨_, by rw [hx]; exact (h.put x _).le (by omega), at_of (d := d_more_round) rfl fun n hn => ?_⟩
    have he' : Hd e (.lt x) (pts e) := hx ▸ he
    revert he'
    generalize pts e = ps
    intro he'
    cases he'
    simp [runDf, d_more_round, hbf, nD, hput _ _ (by omega) h]
  by_cases ht : ∃ x y, kd e = .tm x y ∧ k = 2
  · obtain ⟨x, y, hx, rfl⟩ := ht
    refine ⟨_, by rw [hx]; exact ((h.put x _).put y _).le (by omega), at_of (d := d_more_round) rfl fun n hn => ?_⟩
    have he' : Hd e (.tm x y) (pts e) := hx ▸ he
    revert he'
    generalize pts e = ps
    intro he'
    cases he'
    simp [runDf, d_more_round, hbf, nD, hput _ _ (by omega) h, hput _ _ (Nat.le_trans (Nat.add_le_add_right hb 1) (by omega)) (h.put x _)]
  · have hu : upd (kd e) k w ρ = ρ := by
      unfold upd
      split
      · rename_i x h1
        exact absurd ⟨x, h1, rfl⟩ hl
      · rename_i x y h1
        exact absurd ⟨x, y, h1, rfl⟩ ht
      · rfl
    refine ⟨kvs, by rw [hu]; exact h.le (by omega), at_of (d := d_more_round) rfl fun n hn => ?_⟩
    have he2 := he
    unfold IsE at he2
    revert he2 hl ht
    generalize kd e = κ
    generalize pts e = ps
    intro hl ht he2
    cases he2 <;> simp [runDf, d_more_round, hbf]
    · have : ¬ (k : Int) = 1 := fun h => hl ⟨_, rfl, by omega⟩
      simp [this]
    · have : ¬ (k : Int) = 2 := fun h => ht ⟨_, _, rfl, by omega⟩
      simp [this]
end K06.Pu

namespace K06.Pu
open K06 PySem Mp
theorem IsE.form {d : D} (h : IsE d) : (∃ x, kd d = .use x ∧ pts d = [] ∧ d = .tuple [.str "use", .str x]) ∨ (∃ h r, d = .tuple (.str h :: r) ∧ ¬ h = "use" ∧ ∀ x, kd d ≠ .use x) := by
  unfold IsE at h
  revert h
  generalize kd d = κ
  generalize pts d = ps
  intro h
  cases h with
  | use x => exact .inl ⟨x, rfl, rfl, rfl⟩
  | _ => exact .inr ⟨_, _, rfl, by simp, fun x h => by cases h⟩
def usesIn (m f : Str) : Nat → D → List Nat → Rho → List (List Nat × Option D)
  | 0, _, _, _ => []
  | n + 1, d, pre, ρ => match kd d with
    | .use x => [(pre, ρ x)]
    | κ => (pts d).zipIdx.flatMap fun p => usesIn m f n p.1 (pre ++ [p.2]) (upd κ p.2 (wayD m f pre) ρ)
theorem sum_le_mul {α : Type} (g : α → Nat) (b : Nat) : ∀ xs : List α, (∀ x ∈ xs, g x ≤ b) → (xs.map g).sum ≤ xs.length * b
  | [], _ => by simp
  | x :: xs, h => by
    have h1 := sum_le_mul g b xs fun y hy => h y (List.mem_cons_of_mem _ hy)
    have h2 := h x List.mem_cons_self
    rw [List.map_cons, List.sum_cons, List.length_cons, Nat.succ_mul]
    omega
theorem usesIn_len {m f : Str} : ∀ {n : Nat} {Γ : List Str} {d : D} {pre : List Nat} {ρ : Rho}, WF n Γ d → (usesIn m f n d pre ρ).length ≤ 4 ^ n
  | 0, _, _, _, _, h => h.elim
  | n + 1, Γ, d, pre, ρ, h => by
    obtain ⟨h1, h2, h2', h3, h4⟩ := h
    have key : ((pts d).zipIdx.flatMap fun p => usesIn m f n p.1 (pre ++ [p.2]) (upd (kd d) p.2 (wayD m f pre) ρ)).length ≤ 4 ^ (n + 1) := by
      rw [List.length_flatMap]
      have := sum_le_mul (fun p : D × Nat => (usesIn m f n p.1 (pre ++ [p.2]) (upd (kd d) p.2 (wayD m f pre) ρ)).length) (4 ^ n) (pts d).zipIdx (fun p hp => usesIn_len (h4 p.2 p.1 (by
        obtain ⟨a, k⟩ := p
        have := List.mem_zipIdx' hp
        simp only at this ⊢
        exact this.2 ▸ (List.getElem?_eq_getElem this.1))))
      rw [List.length_zipIdx] at this
      have h5 : (pts d).length * 4 ^ n ≤ 3 * 4 ^ n := Nat.mul_le_mul_right _ h3
      rw [Nat.pow_succ]
      omega
    unfold usesIn
    split
    · have := Nat.one_le_pow (n + 1) 4 (by omega)
      simpa using this
    · exact key
def useD (m f : Str) (u : List Nat × Option D) : D := .tuple [wayD m f u.1, u.2.getD .none]
theorem flatMap_zip_len {α β : Type} (g : α × Nat → List β) (a : List α) (x : α) (c : List α) : ((a ++ x :: c).zipIdx.flatMap g).length = (a.zipIdx.flatMap g).length + ((g (x, a.length)).length + ((c.zipIdx (a.length + 1)).flatMap g).length) := by
  rw [List.zipIdx_append, List.flatMap_append, List.length_append, List.zipIdx_cons, List.flatMap_cons, List.length_append]
  simp
theorem zip_pre {α : Type} (xs : List α) (x : α) (ys : List α) : (xs ++ x :: ys)[xs.length]? = some x := by simp
theorem at_uses_in {m f : Str} : ∀ {n : Nat} {Γ : List Str} {d : D} {pre : List Nat} {b : Nat} {kvs : List (D × D)} {ρ : Rho}, WF n Γ d → n ≤ 10 → SK b kvs ρ → b + 2 * n ≤ 900 → pre.length + n ≤ 1000 →
    At (n + 1) 7 [d, wayD m f pre, .dict kvs] (.ok (.list ((usesIn m f n d pre ρ).map (useD m f))) [])
  | 0, _, _, _, _, _, _, h, _, _, _, _ => h.elim
  | n + 1, Γ, d, pre, b, kvs, ρ, h, hn, hS, hb, hp => by
    have hlen := usesIn_len (m := m) (f := f) (pre := pre) (ρ := ρ) h
    have hpow : 4 ^ (n + 1) ≤ 4 ^ 10 := Nat.pow_le_pow_right (by omega) hn
    obtain ⟨h1, h2, h2', h3, h4⟩ := h
    refine at_of (d := d_uses_in) rfl fun N hN => ?_
    rcases h1.form with ⟨x, hk, hps, hd⟩ | ⟨hd, r, he, hu, hk⟩
    · subst hd
      simp [runDf, d_uses_in, mtId, Mp.mt, hS.dictOk, hS.2.2, usesIn, hk, useD]
    · have hU : usesIn m f (n + 1) d pre ρ = (pts d).zipIdx.flatMap fun p => usesIn m f n p.1 (pre ++ [p.2]) (upd (kd d) p.2 (wayD m f pre) ρ) := by
        rw [usesIn]
        split
        · rename_i x hx
          exact absurd hx (hk x)
        · rfl
      rw [hU] at hlen ⊢
      have hparts := at_parts h1 N (by omega)
      have hd0 : index d (.int 0) = some (.str hd) := by rw [he]; simp
      simp [runDf, d_uses_in, hd0, hu, hparts]
      generalize hL : loopF _ _ _ _ = L
      have key : ∃ e', L = .ok .nx e' ∧ ∃ a c, e' = [some d, some (wayD m f pre), some (.dict kvs), some (.list (((pts d).zipIdx.flatMap fun p => usesIn m f n p.1 (pre ++ [p.2]) (upd (kd d) p.2 (wayD m f pre) ρ)).map (useD m f))), a, c] := by
        subst hL
        refine loopF_enum (fun k x => .tuple [.int (k : Int), x]) (fun q e => ∃ a c, e = [some d, some (wayD m f pre), some (.dict kvs), some (.list ((q.zipIdx.flatMap fun p => usesIn m f n p.1 (pre ++ [p.2]) (upd (kd d) p.2 (wayD m f pre) ρ)).map (useD m f))), a, c]) ⟨_, _, rfl⟩ ?_
        rintro done p more e hx ⟨a, c, rfl⟩
        refine ⟨_, [some d, some (wayD m f pre), some (.dict kvs), some (.list (((done ++ [p]).zipIdx.flatMap fun p => usesIn m f n p.1 (pre ++ [p.2]) (upd (kd d) p.2 (wayD m f pre) ρ)).map (useD m f))), some (.int done.length), some p], rfl, .inl ?_, ⟨_, _, rfl⟩⟩
        have hat : (pts d)[done.length]? = some p := by rw [hx]; exact zip_pre _ _ _
        obtain ⟨kvs', hS', hm⟩ := at_more_round (w := wayD m f pre) (k := done.length) h1 hS (by omega)
        have hm := hm N (by omega)
        have hw := at_uses_in (m := m) (f := f) (pre := pre ++ [done.length]) (h4 _ _ hat) (by omega) hS' (by omega) (by simp; omega) N (by omega)
        rw [hx, flatMap_zip_len] at hlen
        have hle := Nat.le_trans (Nat.le_add_right _ _) ((Nat.add_assoc _ _ _).symm ▸ hlen)
        have hle := Nat.le_trans hle (Nat.le_trans hpow (by decide : 4 ^ 10 ≤ 16777216))
        have hwd : Mp.bin .add (wayD m f pre) (.tuple [.int (done.length : Int)]) = some (wayD m f (pre ++ [done.length])) := by
          simp [wayD, nD]
          omega
        simp [hwd]
        rw [nD] at hm
        simp [hm, hw]
        rw [if_pos (by rw [← List.length_flatMap]; exact hle)]
        simp [List.zipIdx_append]
      obtain ⟨e', rfl, a, c, rfl⟩ := key
      simp
end K06.Pu

namespace K06.Pu
open K06 PySem Mp
def parD (m f : Str) (k : Nat) : D := .tuple [.str "param", .str m, .str f, nD k]
def rho0 (m f : Str) (ps : List Str) : Rho := ps.zipIdx.foldl (fun ρ p => ρ.set p.1 (parD m f p.2)) fun _ => none
theorem SK.fold {α : Type} (k : α → Str) (v : α → D) : ∀ (l : List α) {b : Nat} {kvs : List (D × D)} {ρ : Rho}, SK b kvs ρ → SK (b + l.length) ((l.map fun a => ((.str (k a) : D), v a)).foldl (fun a kv => dput a kv.1 kv.2) kvs) (l.foldl (fun ρ p => ρ.set (k p) (v p)) ρ)
  | [], _, _, _, h => h
  | a :: l, b, kvs, ρ, h => by
    have := SK.fold k v l (h.put (k a) (v a))
    rw [List.length_cons, show b + (l.length + 1) = b + 1 + l.length from by omega]
    exact this
theorem pairsOf_map {α : Type} (k : α → Str) (v : α → D) : ∀ l : List α, pairsOf (l.map fun a => .tuple [.str (k a), v a]) = some (l.map fun a => (.str (k a), v a))
  | [] => rfl
  | a :: l => by
    rw [List.map_cons, List.map_cons, pairsOf, pairsOf_map k v l]
    rfl
theorem at_params_round (m f : Str) {ps : List Str} (hp : ps.length ≤ 1000) : ∃ kvs, SK ps.length kvs (rho0 m f ps) ∧ At 1 8 [.str m, .str f, .tuple (ps.map .str)] (.ok (.dict kvs) []) := by
  refine ⟨(ps.zipIdx.map fun p => ((.str p.1 : D), parD m f p.2)).foldl (fun a kv => dput a kv.1 kv.2) [], ?_, at_of (d := d_params_round) rfl fun n hn => ?_⟩
  rotate_left
  · simp [runDf, d_params_round]
    rw [loopC_map _ (fun d => match d with | .tuple [i, a] => .tuple [a, .tuple [.str "param", .str m, .str f, i]] | _ => .none) _ _ ?_]
    · have h1 : ps.length ≤ 16777216 := by omega
      have e : (List.map (fun d : D => match d with | .tuple [i, a] => PyData.tuple [a, .tuple [.str "param", .str m, .str f, i]] | _ => .none) ((ps.map PyData.str).zipIdx.map fun p => .tuple [.int (p.2 : Int), p.1])) = ps.zipIdx.map fun p => .tuple [.str p.1, parD m f p.2] := by
        rw [List.zipIdx_map]
        simp [Function.comp_def, parD, nD]
      simp only [e]
      have e2 : bf .dict [.list (ps.zipIdx.map fun p => .tuple [.str p.1, parD m f p.2])] = some (.dict ((ps.zipIdx.map fun p => ((.str p.1 : D), parD m f p.2)).foldl (fun a kv => dput a kv.1 kv.2) [])) := by
        rw [bf, pairsOf_map (fun p : Str × Nat => p.1) (fun p => parD m f p.2)]
        rfl
      simp [h1, e2]
    · intro d hd
      rw [List.zipIdx_map] at hd
      simp only [List.map_map] at hd
      obtain ⟨q, hq, rfl⟩ := List.mem_map.mp hd
      simp
  · have := SK.fold (fun p : Str × Nat => p.1) (fun p => parD m f p.2) ps.zipIdx (b := 0) (kvs := []) (ρ := fun _ => none) ⟨Nat.le_refl _, (fun kv h => absurd h List.not_mem_nil), fun x => rfl⟩
    rw [Nat.zero_add, List.length_zipIdx] at this
    exact this
def envAt (m f : Str) : D → List Nat → Rho → List Nat → Rho
  | _, _, ρ, [] => ρ
  | d, pre, ρ, k :: r => envAt m f ((pts d)[k]?.getD .none) (pre ++ [k]) (upd (kd d) k (wayD m f pre) ρ) r
theorem envAt_snoc (m f : Str) : ∀ (r : List Nat) (d : D) (pre : List Nat) (ρ : Rho) (k : Nat), envAt m f d pre ρ (r ++ [k]) = upd (kd (atR d r)) k (wayD m f (pre ++ r)) (envAt m f d pre ρ r)
  | [], d, pre, ρ, k => by simp [envAt, atR]
  | j :: r, d, pre, ρ, k => by
    rw [List.cons_append, envAt, envAt_snoc m f r, envAt]
    simp [atR]
/-- the function's form -/
structure Ok (p : Pg) (m f : Str) (g : Fu) : Prop where
  len : (fnsP p).length ≤ 1000
  fnd : Fnd p m f g
  ps : g.2.1.length ≤ 100
theorem at_ex {c f : Nat} {d : Df} {ds : List D} {Q : Ret → Prop} (h : T f = some d) (hr : ∀ n, c ≤ n → Q (runDf (P n) d ds)) : ∀ n, c + 1 ≤ n → Q ((P n).F f ds) := by
  intro n hn
  obtain ⟨m, rfl⟩ : ∃ m, n = m + 1 := ⟨n - 1, by omega⟩
  have := hr m (by omega)
  rw [← run_succ h ds] at this
  exact this
theorem at_round_way {p : Pg} {m f : Str} {g : Fu} {r : List Nat} (h : Ok p m f g) (ha : IsAt g.2.2 r) (hr : r.length ≤ 100) : ∀ n, 3 ≤ n → ∃ kvs, SK 1000 kvs (envAt m f g.2.2 [] (rho0 m f g.2.1) r) ∧ (P n).F 9 [progD p, wayD m f r] = .ok (.dict kvs) [] := by
  refine at_ex (Q := fun R => ∃ kvs, SK 1000 kvs (envAt m f g.2.2 [] (rho0 m f g.2.1) r) ∧ R = .ok (.dict kvs) []) (d := d_round_way) rfl fun n hn => ?_
  obtain ⟨kvs0, hS0, hp0⟩ := at_params_round m f (ps := g.2.1) (by have := h.ps; omega)
  have hps := h.ps
  simp [runDf, d_round_way, wayD, at_function h.len h.fnd n hn, hp0 n (by omega)]
  generalize hL : loopF _ _ _ _ = L
  have key : ∃ e', L = .ok .nx e' ∧ ∃ kvs j, SK (100 + 2 * r.length) kvs (envAt m f g.2.2 [] (rho0 m f g.2.1) r) ∧ e' = [some (progD p), some (wayD m f r), some (.dict kvs), some (wayD m f r), j, some (.str m), some (.str f), some (.tuple (g.2.1.map .str)), some (atR g.2.2 r)] := by
    subst hL
    refine loopF_map nD (fun q e => ∃ kvs j, SK (100 + 2 * q.length) kvs (envAt m f g.2.2 [] (rho0 m f g.2.1) q) ∧ e = [some (progD p), some (wayD m f r), some (.dict kvs), some (wayD m f q), j, some (.str m), some (.str f), some (.tuple (g.2.1.map .str)), some (atR g.2.2 q)]) ⟨kvs0, none, hS0.le (by simp; omega), rfl⟩ ?_
    rintro done k more e hx ⟨kvs, j, hS, rfl⟩
    have hd : done.length ≤ 100 := by
      rw [hx] at hr
      simp at hr
      omega
    obtain ⟨h1, h2⟩ := ha.at hx
    obtain ⟨kvs', hS', hm⟩ := at_more_round (w := wayD m f done) (k := k) h1 hS (by omega)
    have hm := hm n (by omega)
    have hpt := at_parts h1 n (by omega)
    refine ⟨_, [some (progD p), some (wayD m f r), some (.dict kvs'), some (wayD m f (done ++ [k])), some (nD k), some (.str m), some (.str f), some (.tuple (g.2.1.map .str)), some (atR g.2.2 (done ++ [k]))], rfl, .inl ?_, kvs', _, ?_, rfl⟩
    · have hi : index (.list (pts (atR g.2.2 done))) (nD k) = some (atR g.2.2 (done ++ [k])) := by
        rw [nD, index_ln, h2]
      have hwd : Mp.bin .add (wayD m f done) (.tuple [nD k]) = some (wayD m f (done ++ [k])) := by
        simp [wayD]
        omega
      simp [hm, hpt, hi, hwd]
    · rw [envAt_snoc, List.nil_append, List.length_append, List.length_singleton, Nat.mul_add, ← Nat.add_assoc]
      exact hS'
  obtain ⟨e', rfl, kvs, j, hS, rfl⟩ := key
  refine ⟨kvs, hS.le (by omega), ?_⟩
  simp
theorem at_all_uses {p : Pg} {m f : Str} {g : Fu} {n : Nat} {Γ : List Str} (h : Ok p m f g) (hw : WF n Γ g.2.2) (hn : n ≤ 10) : At (n + 3) 10 [progD p, .str m, .str f] (.ok (.list ((usesIn m f n g.2.2 [] (rho0 m f g.2.1)).map (useD m f))) []) := by
  refine at_of (d := d_all_uses) rfl fun N hN => ?_
  have hps := h.ps
  obtain ⟨kvs0, hS0, hp0⟩ := at_params_round m f (ps := g.2.1) (by omega)
  have hu := at_uses_in (m := m) (f := f) (pre := []) hw hn hS0 (by omega) (by simp; omega) N (by omega)
  rw [wayD, List.map_nil] at hu
  simp [runDf, d_all_uses, at_function h.len h.fnd N (by omega), hp0 N (by omega), hu]
theorem at_binder_of {p : Pg} {m f : Str} {g : Fu} {r : List Nat} {x : Str} {v : D} (h : Ok p m f g) (ha : IsAt g.2.2 r) (hr : r.length ≤ 100) (hu : atR g.2.2 r = .tuple [.str "use", .str x]) (hv : envAt m f g.2.2 [] (rho0 m f g.2.1) r x = some v) : At 4 11 [progD p, wayD m f r] (.ok v []) := by
  refine at_of (d := d_binder_of) rfl fun n hn => ?_
  obtain ⟨kvs, hS, hF⟩ := at_round_way h ha hr n hn
  have hw := at_at_way h.len h.fnd ha n hn
  rw [hu] at hw
  simp [runDf, d_binder_of, hF, hw, hS.dictOk, hS.2.2, hv]
end K06.Pu

namespace K06.Pu
open K06 PySem Mp
theorem flatMap_same {α β : Type} {f g : α → List β} : ∀ {l : List α}, (∀ a ∈ l, f a = g a) → l.flatMap f = l.flatMap g
  | [], _ => rfl
  | a :: l, h => by rw [List.flatMap_cons, List.flatMap_cons, h a List.mem_cons_self, flatMap_same fun b hb => h b (List.mem_cons_of_mem _ hb)]
theorem zipIdx_at {α : Type} {xs : List α} {p : α × Nat} (h : p ∈ xs.zipIdx) : xs[p.2]? = some p.1 := by
  obtain ⟨a, k⟩ := p
  have := List.mem_zipIdx' h
  simp only at this ⊢
  exact this.2 ▸ (List.getElem?_eq_getElem this.1)
def Kd.isUse : Kd → Bool
  | .use _ => true
  | _ => false
def Kd.nm : Kd → Str
  | .use x => x
  | _ => ⟨#[]⟩
theorem usesIn_eq {m f : Str} : ∀ {n : Nat} {Γ : List Str} {d : D} {pre : List Nat} {ρ : Rho}, WF n Γ d → usesIn m f n d pre ρ = ((rows n d).filter fun r => (kd (atR d r)).isUse).map fun r => (pre ++ r, envAt m f d pre ρ r (kd (atR d r)).nm)
  | 0, _, _, _, _, h => h.elim
  | n + 1, Γ, d, pre, ρ, h => by
    obtain ⟨h1, h2, h2', h3, h4⟩ := h
    rcases h1.form with ⟨x, hk, hps, hd⟩ | ⟨hd, r, he, hu, hk⟩
    · simp [usesIn, rows, hk, hps, atR, Kd.isUse, Kd.nm, envAt]
    · have h0 : (kd d).isUse = false := by
        cases hx : kd d with
        | use x => exact absurd hx (hk x)
        | _ => rfl
      have hU : usesIn m f (n + 1) d pre ρ = (pts d).zipIdx.flatMap fun p => usesIn m f n p.1 (pre ++ [p.2]) (upd (kd d) p.2 (wayD m f pre) ρ) := by
        rw [usesIn]
        split
        · rename_i x hx
          exact absurd hx (hk x)
        · rfl
      rw [hU, rows, List.filter_cons]
      simp only [atR, List.foldl_nil, h0, Bool.false_eq_true, if_false]
      rw [List.filter_flatMap, List.map_flatMap]
      refine flatMap_same fun p hp => ?_
      have hat := zipIdx_at hp
      rw [usesIn_eq (h4 _ _ hat), List.filter_map, List.map_map]
      simp only [Function.comp_def, List.foldl_cons, hat, Option.getD_some, atR, envAt, List.append_assoc, List.singleton_append]
def NdR (ρ : Rho) : Prop := ∀ x v, ρ x = some v → nd v = true ∧ v.depth ≤ 2
theorem NdR.set {ρ : Rho} (h : NdR ρ) {k : Str} {v : D} (hv : nd v = true ∧ v.depth ≤ 2) : NdR (ρ.set k v) := by
  intro x w hw
  unfold Rho.set at hw
  split at hw
  · cases hw
    exact hv
  · exact h x w hw
theorem nd_ints : ∀ r : List Nat, PyData.hasDictAll (r.map nD) = false
  | [] => rfl
  | k :: r => by rw [List.map_cons, PyData.hasDictAll, nd_ints r]; rfl
theorem depth_ints : ∀ r : List Nat, PyData.depthAll (r.map nD) = 0
  | [] => rfl
  | k :: r => by rw [List.map_cons, PyData.depthAll, depth_ints r]; rfl
theorem nd_way (m f : Str) (r : List Nat) : nd (wayD m f r) = true ∧ (wayD m f r).depth = 1 := by
  constructor
  · simp [nd, wayD, PyData.hasDict, PyData.hasDictAll, nd_ints]
  · simp [wayD, PyData.depth, PyData.depthAll, depth_ints]
theorem nd_bnd (w : Str) (m f : Str) (r : List Nat) : nd (.tuple [.str w, wayD m f r]) = true ∧ (PyData.tuple [.str w, wayD m f r]).depth ≤ 2 := by
  have h := nd_way m f r
  constructor
  · have h1 := h.1
    simp only [nd, Bool.not_eq_true'] at h1
    simp [nd, PyData.hasDict, PyData.hasDictAll, h1]
  · simp [PyData.depth, PyData.depthAll, h.2]
theorem nd_par (m f : Str) (k : Nat) : nd (parD m f k) = true ∧ (parD m f k).depth ≤ 2 := by
  constructor
  · simp [nd, parD, nD, PyData.hasDict, PyData.hasDictAll]
  · simp [parD, nD, PyData.depth, PyData.depthAll]
theorem NdR.upd {ρ : Rho} (h : NdR ρ) (κ : Kd) (k : Nat) (m f : Str) (r : List Nat) : NdR (upd κ k (wayD m f r) ρ) := by
  unfold Pu.upd
  split
  · exact h.set (nd_bnd _ _ _ _)
  · exact (h.set (nd_bnd _ _ _ _)).set (nd_bnd _ _ _ _)
  · exact h
theorem NdR.rho0 (m f : Str) (ps : List Str) : NdR (rho0 m f ps) := by
  unfold Pu.rho0
  have : ∀ (l : List (Str × Nat)) (ρ : Rho), NdR ρ → NdR (l.foldl (fun ρ p => ρ.set p.1 (parD m f p.2)) ρ) := by
    intro l
    induction l with
    | nil => exact fun _ h => h
    | cons a l ih => exact fun ρ h => ih _ (h.set (nd_par _ _ _))
  exact this _ _ fun x v h => by cases h
theorem NdR.envAt {m f : Str} : ∀ {r : List Nat} {d : D} {pre : List Nat} {ρ : Rho}, NdR ρ → NdR (envAt m f d pre ρ r)
  | [], _, _, _, h => h
  | k :: r, d, pre, ρ, h => NdR.envAt (r := r) (h.upd _ _ _ _ _)
/-- a function's binders and their names -/
inductive Bnd (m f : Str) (g : Fu) : D → Str → Prop
  | par {k : Nat} {x : Str} : g.2.1[k]? = some x → Bnd m f g (parD m f k) x
  | lt {r : List Nat} {x : Str} : IsAt g.2.2 r → IsE (atR g.2.2 r) → r.length ≤ 100 → kd (atR g.2.2 r) = .lt x → Bnd m f g (.tuple [.str "let", wayD m f r]) x
  | cnt {r : List Nat} {x y : Str} : IsAt g.2.2 r → IsE (atR g.2.2 r) → r.length ≤ 100 → kd (atR g.2.2 r) = .tm x y → Bnd m f g (.tuple [.str "count", wayD m f r]) x
  | sum {r : List Nat} {x y : Str} : IsAt g.2.2 r → IsE (atR g.2.2 r) → r.length ≤ 100 → kd (atR g.2.2 r) = .tm x y → Bnd m f g (.tuple [.str "sum", wayD m f r]) y
theorem Bnd.nd {m f : Str} {g : Fu} {b : D} {x : Str} (h : Bnd m f g b x) : Mp.nd b = true ∧ b.depth ≤ 2 := by
  cases h with
  | par _ => exact nd_par _ _ _
  | lt _ _ _ _ => exact nd_bnd _ _ _ _
  | cnt _ _ _ _ => exact nd_bnd _ _ _ _
  | sum _ _ _ _ => exact nd_bnd _ _ _ _
@[simp] theorem nin4 (x a b c d : Str) : Mp.cmp .nin (.str x) (.tuple [.str a, .str b, .str c, .str d]) = some (!(decide (a = x) || (decide (b = x) || (decide (c = x) || decide (d = x))))) := by
  simp [Mp.cmp, isIn, okEq, nd, PyData.hasDict, PyData.depth, eqv_str]
@[simp] theorem nin2 (x a b : Str) : Mp.cmp .nin (.str x) (.tuple [.str a, .str b]) = some (!(decide (a = x) || (decide (b = x)))) := by
  simp [Mp.cmp, isIn, okEq, nd, PyData.hasDict, PyData.depth, eqv_str]
@[simp] theorem in2 (x a b : Str) : Mp.cmp .in_ (.str x) (.tuple [.str a, .str b]) = some (decide (a = x) || (decide (b = x))) := by
  simp [Mp.cmp, isIn, okEq, nd, PyData.hasDict, PyData.depth, eqv_str]
theorem IsE.lt {d : D} {x : Str} (h : IsE d) (hk : kd d = .lt x) : ∃ a b, d = .tuple [.str "let", .str x, a, b] := by
  have h' : Hd d (.lt x) (pts d) := hk ▸ h
  revert h'
  generalize pts d = ps
  intro h'
  cases h'
  exact ⟨_, _, rfl⟩
theorem IsE.tm {d : D} {x y : Str} (h : IsE d) (hk : kd d = .tm x y) : ∃ n a b, d = .tuple [.str "times", n, .str x, .str y, a, b] := by
  have h' : Hd d (.tm x y) (pts d) := hk ▸ h
  revert h'
  generalize pts d = ps
  intro h'
  cases h'
  exact ⟨_, _, _, rfl⟩
theorem slice_par (a b c d : D) : Mp.slice (.tuple [a, b, c, d]) (some 1) (some 3) = some (.tuple [b, c]) := by
  have e : HT.sIx 4 0 (some 1) = min 1 4 := HT.sIx_nat 4 0 1
  have e2 : HT.sIx 4 4 (some 3) = min 3 4 := HT.sIx_nat 4 4 3
  simp only [Mp.slice, Mp.cut, List.length_cons, List.length_nil, Nat.zero_add, Nat.reduceAdd, e, e2]
  rfl
theorem at_home_of {p : Pg} {m f : Str} {g : Fu} {b : D} {x : Str} (h : Ok p m f g) (hb : Bnd m f g b x) : At 4 12 [progD p, b] (.ok (.tuple [.str m, .str f]) []) := by
  refine at_of (d := d_home_of) rfl fun n hn => ?_
  cases hb with
  | @par k x hk =>
    obtain ⟨h3, h4⟩ := List.getElem?_eq_some_iff.mp hk
    have hs := at_is_spot h3 n (by omega)
    rw [nD, nD] at hs
    simp [runDf, d_home_of, parD, nD, at_function h.len h.fnd n (by omega), hs, slice_par]
  | @lt r x ha he hr hk =>
    obtain ⟨a, b, hd⟩ := he.lt hk
    have hw := at_at_way h.len h.fnd ha n hn
    rw [hd, wayD] at hw
    simp [runDf, d_home_of, wayD, hw, dispD, pairUp, Mp.keyOk, dput, eqv_str, dictOk, dget_cons]
  | @cnt r x y ha he hr hk =>
    obtain ⟨a, b, c, hd⟩ := he.tm hk
    have hw := at_at_way h.len h.fnd ha n hn
    rw [hd, wayD] at hw
    simp [runDf, d_home_of, wayD, hw, dispD, pairUp, Mp.keyOk, dput, eqv_str, dictOk, dget_cons]
  | @sum r x y ha he hr hk =>
    obtain ⟨a, b, c, hd⟩ := he.tm hk
    have hw := at_at_way h.len h.fnd ha n hn
    rw [hd, wayD] at hw
    simp [runDf, d_home_of, wayD, hw, dispD, pairUp, Mp.keyOk, dput, eqv_str, dictOk, dget_cons]
theorem at_name_of {p : Pg} {m f : Str} {g : Fu} {b : D} {x : Str} (h : Ok p m f g) (hb : Bnd m f g b x) : At 4 14 [progD p, b] (.ok (.str x) []) := by
  refine at_of (d := d_name_of) rfl fun n hn => ?_
  cases hb with
  | @par k x hk =>
    have hi : index (.tuple (g.2.1.map .str)) (nD k) = some (.str x) := by
      rw [nD, index_tn]
      simp [hk]
    rw [nD] at hi
    simp [runDf, d_name_of, parD, nD, at_function h.len h.fnd n (by omega), hi]
  | @lt r x ha he hr hk =>
    obtain ⟨a, b, hd⟩ := he.lt hk
    have hw := at_at_way h.len h.fnd ha n hn
    rw [hd, wayD] at hw
    simp [runDf, d_name_of, wayD, hw, dispD, pairUp, Mp.keyOk, dput, eqv_str, dictOk, dget_cons]
  | @cnt r x y ha he hr hk =>
    obtain ⟨a, b, c, hd⟩ := he.tm hk
    have hw := at_at_way h.len h.fnd ha n hn
    rw [hd, wayD] at hw
    simp [runDf, d_name_of, wayD, hw, dispD, pairUp, Mp.keyOk, dput, eqv_str, dictOk, dget_cons]
  | @sum r x y ha he hr hk =>
    obtain ⟨a, b, c, hd⟩ := he.tm hk
    have hw := at_at_way h.len h.fnd ha n hn
    rw [hd, wayD] at hw
    simp [runDf, d_name_of, wayD, hw, dispD, pairUp, Mp.keyOk, dput, eqv_str, dictOk, dget_cons]
theorem okEq_of {a b : D} (ha : nd a = true) (hb : nd b = true ∧ b.depth ≤ 2) : okEq a b = true := by
  have := Nat.le_trans (Nat.min_le_right a.depth b.depth) hb.2
  simp only [okEq, ha, hb.1, Bool.true_and, decide_eq_true_eq]
  omega
theorem cmp_eq_of {a b : D} (ha : nd a = true) (hb : nd b = true ∧ b.depth ≤ 2) : Mp.cmp .eq a b = some (PyData.eqv a b) := by
  simp [Mp.cmp, okEq_of ha hb]
theorem nd_or {ρ : Rho} (h : NdR ρ) (x : Str) : nd ((ρ x).getD .none) = true := by
  cases hx : ρ x with
  | none => rfl
  | some v => exact (h x v hx).1
theorem at_uses_of {p : Pg} {m f : Str} {g : Fu} {b : D} {x : Str} {n : Nat} {Γ : List Str} (h : Ok p m f g) (hw : WF n Γ g.2.2) (hn : n ≤ 10) (hb : Bnd m f g b x) :
    At (n + 5) 13 [progD p, b] (.ok (.list (((usesIn m f n g.2.2 [] (rho0 m f g.2.1)).filter fun u => PyData.eqv (u.2.getD .none) b).map fun u => wayD m f u.1)) []) := by
  refine at_of (d := d_uses_of) rfl fun N hN => ?_
  have hlen := usesIn_len (m := m) (f := f) (pre := []) (ρ := rho0 m f g.2.1) hw
  have hpow : 4 ^ n ≤ 4 ^ 10 := Nat.pow_le_pow_right (by omega) hn
  have hl2 := List.length_filter_le (fun u : List Nat × Option D => PyData.eqv (u.2.getD .none) b) (usesIn m f n g.2.2 [] (rho0 m f g.2.1))
  simp [runDf, d_uses_of, at_home_of h hb N (by omega), at_all_uses h hw hn N (by omega)]
  rw [loopC_fm _ (fun d => match d with | .tuple [w, o] => if PyData.eqv o b then some w else none | _ => none) _ _ ?_]
  · have e : (List.map (useD m f) (usesIn m f n g.2.2 [] (rho0 m f g.2.1))).filterMap (fun d => match d with | .tuple [w, o] => if PyData.eqv o b then some w else none | _ => none) = ((usesIn m f n g.2.2 [] (rho0 m f g.2.1)).filter fun u => PyData.eqv (u.2.getD .none) b).map fun u => wayD m f u.1 := by
      rw [List.filterMap_map, ← List.filterMap_eq_map, List.filterMap_filter]
      congr 1
    simp only [e]
    have h1 : ((usesIn m f n g.2.2 [] (rho0 m f g.2.1)).filter fun u => PyData.eqv (u.2.getD .none) b).length ≤ 16777216 := by omega
    simp [h1]
  · intro d hd
    obtain ⟨u, hu, rfl⟩ := List.mem_map.mp hd
    rw [usesIn_eq hw] at hu
    obtain ⟨r, hr, rfl⟩ := List.mem_map.mp hu
    have ho := cmp_eq_of (nd_or (NdR.envAt (m := m) (f := f) (r := r) (d := g.2.2) (pre := []) (NdR.rho0 m f g.2.1)) (kd (atR g.2.2 r)).nm) hb.nd
    simp [useD, ho]
    cases PyData.eqv ((envAt m f g.2.2 [] (rho0 m f g.2.1) r (kd (atR g.2.2 r)).nm).getD .none) b <;> simp
end K06.Pu

namespace K06.Pu
open K06 PySem Mp
/-! the law's own going -/
theorem at_lspots (h : Str) (r : List D) : At 1 24 [.tuple (.str h :: r)] (.ok ((dget [(.str "op", .tuple [.int 2, .int 3]), (.str "let", .tuple [.int 2, .int 3]), (.str "if", .tuple [.int 1, .int 2, .int 3]), (.str "tell", .tuple [.int 1, .int 2]), (.str "stop", .tuple [.int 1]), (.str "times", .tuple [.int 1, .int 4, .int 5])] (.str h)).getD (.tuple [])) []) := by
  refine at_of (d := d__law_spots) rfl fun n hn => ?_
  simp [runDf, d__law_spots, dispD, pairUp, Mp.keyOk, dput, eqv_str, mtId, Mp.mt, dictOk]
@[simp] theorem dget_nil (k : D) : dget [] k = none := rfl
theorem at_lparts {d : D} {κ : Kd} {ps : List D} (h : Hd d κ ps) : At 2 25 [d] (.ok (.list ps) []) := by
  refine at_of (d := d__law_parts) rfl fun n hn => ?_
  have hs := fun (h : Str) (r : List D) => at_lspots h r n hn
  cases h <;> simp [runDf, d__law_parts, hs, dget_cons, loopC, Mp.itemsK]
theorem rows_len : ∀ {n : Nat} {Γ : List Str} {d : D}, WF n Γ d → (rows n d).length ≤ 4 ^ n
  | 0, _, _, h => h.elim
  | n + 1, Γ, d, h => by
    obtain ⟨h1, h2, h2', h3, h4⟩ := h
    rw [rows, List.length_cons, List.length_flatMap]
    have := sum_le_mul (fun p : D × Nat => ((rows n p.1).map (p.2 :: ·)).length) (4 ^ n) (pts d).zipIdx (fun p hp => by
      rw [List.length_map]
      exact rows_len (h4 _ _ (zipIdx_at hp)))
    rw [List.length_zipIdx] at this
    have h5 : (pts d).length * 4 ^ n ≤ 3 * 4 ^ n := Nat.mul_le_mul_right _ h3
    have h6 := Nat.one_le_pow n 4 (by omega)
    rw [Nat.pow_succ]
    omega
theorem rows_at : ∀ {n : Nat} {Γ : List Str} {d : D}, WF n Γ d → ∀ r ∈ rows n d, IsAt d r ∧ r.length < n
  | 0, _, _, h, _, _ => h.elim
  | n + 1, Γ, d, h, r, hr => by
    obtain ⟨h1, h2, h2', h3, h4⟩ := h
    rw [rows] at hr
    rcases List.mem_cons.mp hr with rfl | hr
    · exact ⟨trivial, by simp⟩
    · obtain ⟨p, hp, hr⟩ := List.mem_flatMap.mp hr
      obtain ⟨q, hq, rfl⟩ := List.mem_map.mp hr
      obtain ⟨ha, hl⟩ := rows_at (h4 _ _ (zipIdx_at hp)) q hq
      exact ⟨⟨h1, p.1, zipIdx_at hp, ha⟩, by simp; omega⟩
theorem upd_else {κ : Kd} {k : Nat} {w : D} {ρ : Rho} (h1 : ∀ x, κ = .lt x → k = 1 → False) (h2 : ∀ x y, κ = .tm x y → k = 2 → False) : upd κ k w ρ = ρ := by
  unfold upd
  split
  · exact absurd rfl (h1 _ rfl)
  · exact absurd rfl (h2 _ _ rfl)
  · rfl
theorem WF.at {m f : Str} : ∀ {r : List Nat} {n : Nat} {Γ : List Str} {d : D} (pre : List Nat), WF n Γ d → IsAt d r → ∃ n' Γ', n' + r.length = n ∧ WF n' Γ' (atR d r) ∧ ∀ ρ : Rho, (∀ y ∈ Γ, (ρ y).isSome = true) → ∀ y ∈ Γ', (envAt m f d pre ρ r y).isSome = true
  | [], n, Γ, d, pre, h, _ => ⟨n, Γ, rfl, h, fun ρ h => h⟩
  | k :: r, 0, _, _, _, h, _ => h.elim
  | k :: r, n + 1, Γ, d, pre, h, ha => by
    obtain ⟨h1, h2, h2', h3, h4⟩ := h
    obtain ⟨_, p, hp, ha⟩ := ha
    obtain ⟨n', Γ', hn, hw, hr⟩ := WF.at (m := m) (f := f) (pre ++ [k]) (h4 k p hp) ha
    refine ⟨n', Γ', by rw [List.length_cons]; omega, ?_, fun ρ hρ y hy => ?_⟩
    · simp only [atR, List.foldl_cons, hp, Option.getD_some] at hw ⊢
      exact hw
    · rw [envAt, hp, Option.getD_some]
      refine hr _ ?_ y hy
      intro z hz
      unfold Kd.sc at hz
      split at hz
      · rename_i x hk
        rw [hk]
        show ((ρ.set x _) z).isSome = true
        unfold Rho.set
        by_cases hxz : x = z
        · simp [hxz]
        · simp only [hxz, if_false]
          rcases List.mem_cons.mp hz with rfl | hz
          · exact absurd rfl hxz
          · exact hρ z hz
      · rename_i x y' hk
        rw [hk]
        show (((ρ.set x _).set y' _) z).isSome = true
        unfold Rho.set
        by_cases hyz : y' = z
        · simp [hyz]
        · simp only [hyz, if_false]
          by_cases hxz : x = z
          · simp [hxz]
          · simp only [hxz, if_false]
            rcases List.mem_cons.mp hz with rfl | hz
            · exact absurd rfl hxz
            · rcases List.mem_cons.mp hz with rfl | hz
              · exact absurd rfl hyz
              · exact hρ z hz
      · rename_i g1 g2
        rw [upd_else g1 g2]
        exact hρ z hz
theorem at_lrows : ∀ {n : Nat} {Γ : List Str} {d : D}, WF n Γ d → n ≤ 10 → At (n + 2) 26 [d] (.ok (.list ((rows n d).map rowD)) [])
  | 0, _, _, h, _ => h.elim
  | n + 1, Γ, d, h, hn => by
    have hlen := rows_len h
    have hpow : 4 ^ (n + 1) ≤ 4 ^ 10 := Nat.pow_le_pow_right (by omega) hn
    obtain ⟨h1, h2, h2', h3, h4⟩ := h
    refine at_of (d := d__law_rows) rfl fun N hN => ?_
    simp [runDf, d__law_rows, at_lparts h1 N (by omega)]
    generalize hL : loopF _ _ _ _ = L
    have key : ∃ e', L = .ok .nx e' ∧ ∃ a c, e' = [some d, some (.list (([] :: (pts d).zipIdx.flatMap fun p => (rows n p.1).map (p.2 :: ·)).map rowD)), a, c, none] := by
      subst hL
      refine loopF_enum (fun k x => .tuple [.int (k : Int), x]) (fun q e => ∃ a c, e = [some d, some (.list (([] :: q.zipIdx.flatMap fun p => (rows n p.1).map (p.2 :: ·)).map rowD)), a, c, none]) ⟨_, _, rfl⟩ ?_
      rintro done p more e hx ⟨a, c, rfl⟩
      refine ⟨_, [some d, some (.list (([] :: (done ++ [p]).zipIdx.flatMap fun p => (rows n p.1).map (p.2 :: ·)).map rowD)), some (.int done.length), some p, none], rfl, .inl ?_, ⟨_, _, rfl⟩⟩
      have hat : (pts d)[done.length]? = some p := by rw [hx]; exact zip_pre _ _ _
      have hw := at_lrows (h4 _ _ hat) (by omega) N (by omega)
      have hlp := rows_len (h4 _ _ hat)
      have hpow' : 4 ^ n ≤ 4 ^ 10 := Nat.pow_le_pow_right (by omega) (by omega)
      rw [rows, List.length_cons, hx, flatMap_zip_len, List.length_map] at hlen
      have hle := Nat.le_trans (Nat.add_le_add_right (Nat.le_trans (Nat.le_add_right _ _) (Nat.le_of_eq (Nat.add_assoc _ _ _))) 1) hlen
      have hle := Nat.le_trans hle (Nat.le_trans hpow (by decide : 4 ^ 10 ≤ 16777216))
      simp [hw]
      rw [loopC_map _ (fun q => .tuple (.int done.length :: (match q with | .tuple r => r | _ => []))) _ _ ?_]
      · have g1 : (rows n p).length ≤ 16777216 := by omega
        simp [g1]
        rw [if_pos (by rw [Nat.add_right_comm, ← List.length_flatMap]; simpa using hle)]
        simp [List.zipIdx_append, rowD, nD, Function.comp_def]
      · intro q hq
        obtain ⟨r, hr, rfl⟩ := List.mem_map.mp hq
        have hl := (rows_at (h4 _ _ hat) r hr).2
        have g2 : 1 + r.length ≤ 16777216 := by omega
        simp [rowD, g2]
    obtain ⟨e', rfl, a, c, rfl⟩ := key
    simp [rows]
end K06.Pu

namespace K06.Pu
open K06 PySem Mp
/-- the first function that a name leads to, module by module -/
def Fnd2 (p : Pg) (m f : Str) (g : Fu) : Prop := ∃ (pre post : Pg) (fs fs' : List Fu), p = pre ++ (m, fs ++ g :: fs') :: post ∧ g.1 = f ∧ (∀ md ∈ pre, ∀ h ∈ md.2, ¬ (md.1 = m ∧ h.1 = f)) ∧ ∀ h ∈ fs, ¬ h.1 = f
theorem Fnd2.fnd {p : Pg} {m f : Str} {g : Fu} (h : Fnd2 p m f g) : Fnd p m f g := by
  obtain ⟨pre, post, fs, fs', rfl, hf, h1, h2⟩ := h
  refine ⟨fnsP pre ++ fs.map fun f => (m, f), (fs'.map fun f => (m, f)) ++ fnsP post, by simp [fnsP], hf, ?_⟩
  intro r hr
  rcases List.mem_append.mp hr with hr | hr
  · obtain ⟨md, hmd, hr⟩ := List.mem_flatMap.mp hr
    obtain ⟨q, hq, rfl⟩ := List.mem_map.mp hr
    exact h1 md hmd q hq
  · obtain ⟨q, hq, rfl⟩ := List.mem_map.mp hr
    exact fun hh => h2 q hq hh.2
theorem first_in {α : Type} (Q : α → Prop) : ∀ {l : List α}, (∃ a ∈ l, Q a) → ∃ pre a post, l = pre ++ a :: post ∧ Q a ∧ ∀ b ∈ pre, ¬ Q b
  | [], h => by
    obtain ⟨a, ha, _⟩ := h
    cases ha
  | b :: l, h => by
    by_cases hb : Q b
    · exact ⟨[], b, l, rfl, hb, fun _ h => by cases h⟩
    · obtain ⟨a, ha, hq⟩ := h
      rcases List.mem_cons.mp ha with rfl | ha
      · exact absurd hq hb
      · obtain ⟨pre, a, post, hl, hq, hp⟩ := first_in Q (l := l) ⟨a, ha, hq⟩
        refine ⟨b :: pre, a, post, by rw [hl]; rfl, hq, fun c hc => ?_⟩
        rcases List.mem_cons.mp hc with rfl | hc
        · exact hb
        · exact hp c hc
theorem fnd2_ex {p : Pg} {m f : Str} {fs : List Fu} {g : Fu} (h : (m, fs) ∈ p) (hg : g ∈ fs) (hf : g.1 = f) : ∃ g', Fnd2 p m f g' ∧ ∃ md ∈ p, g' ∈ md.2 := by
  obtain ⟨pre, md, post, hp, ⟨hm, hx⟩, hpre⟩ := first_in (fun md : Str × List Fu => md.1 = m ∧ ∃ g ∈ md.2, g.1 = f) ⟨(m, fs), h, rfl, g, hg, hf⟩
  obtain ⟨a, g', b, hl, hgf, hfs⟩ := first_in (fun g : Fu => g.1 = f) hx
  refine ⟨g', ⟨pre, post, a, b, ?_, hgf, ?_, hfs⟩, md, by rw [hp]; simp, by rw [hl]; simp⟩
  · rw [hp]
    congr 2
    obtain ⟨m', l⟩ := md
    simp only at hm hl
    rw [hm, hl]
  · intro md' hmd q hq hh
    exact hpre md' hmd ⟨hh.1, q, hq, hh.2⟩
theorem cmp_pair (a b c d : Str) : Mp.cmp .eq (.tuple [.str a, .str b]) (.tuple [.str c, .str d]) = some (decide (a = c ∧ b = d)) := by
  simp [Mp.cmp, okEq, nd, PyData.hasDict, PyData.hasDictAll, PyData.depth, PyData.depthAll, PyData.eqv, PyData.eqvAll]
  rw [Bool.eq_iff_iff]
  simp
/-- a turn, by what its body ends with -/
theorem ex_step {tg : Tg} {d : D} {e e1 : En} {body : En → Out Fl} {Q : En → Prop} (ha : Mp.assign tg d e = some e1) (h : ∀ R, body e1 = R → ∃ e2, R = .ok .nx e2 ∧ Q e2) : ∃ e1 e2, Mp.assign tg d e = some e1 ∧ body e1 = .ok .nx e2 ∧ Q e2 := by
  obtain ⟨e2, hb, hq⟩ := h _ rfl
  exact ⟨e1, e2, ha, hb, hq⟩
theorem ex_step' {tg : Tg} {d : D} {e e1 : En} {body : En → Out Fl} {Q : En → Prop} (ha : Mp.assign tg d e = some e1) (h : ∀ R, body e1 = R → ∃ e2, R = .ok .nx e2 ∧ Q e2) : ∃ e1 e2, Mp.assign tg d e = some e1 ∧ (body e1 = .ok .nx e2 ∨ body e1 = .ok .cnt e2) ∧ Q e2 := by
  obtain ⟨e2, hb, hq⟩ := h _ rfl
  exact ⟨e1, e2, ha, .inl hb, hq⟩
theorem ex_ret {tg : Tg} {d v : D} {e e1 : En} {body : En → Out Fl} (ha : Mp.assign tg d e = some e1) (h : ∀ R, body e1 = R → ∃ e2, R = .ok (.ret v) e2) : ∃ e1 e2, Mp.assign tg d e = some e1 ∧ body e1 = .ok (.ret v) e2 := by
  obtain ⟨e2, hb⟩ := h _ rfl
  exact ⟨e1, e2, ha, hb⟩
theorem loopF_skip {α : Type} {tg : Tg} {body : En → Out Fl} (φ : α → D) (I : En → Prop) {xs : List α} {e : En} (h0 : I e) (hp : ∀ y ∈ xs, ∀ e, I e → ∃ e1 e2, Mp.assign tg (φ y) e = some e1 ∧ body e1 = .ok .nx e2 ∧ I e2) : ∃ e', loopF tg body (xs.map φ) e = .ok .nx e' ∧ I e' := by
  refine loopF_map φ (fun _ => I) h0 fun done x more e hx hi => ?_
  obtain ⟨e1, e2, h1, h2, h3⟩ := hp x (by rw [hx]; simp) e hi
  exact ⟨e1, e2, h1, .inl h2, h3⟩
theorem at_found {p : Pg} {m f : Str} {g : Fu} (h : Fnd2 p m f g) : At 1 27 [progD p, .str m, .str f] (.ok (fnD g) []) := by
  refine at_of (d := d__law_found) rfl fun n hn => ?_
  obtain ⟨pre, post, fs, fs', hx, hf, h1, h2⟩ := h
  simp [runDf, d__law_found, progD]
  generalize hL : loopF _ _ _ _ = L
  have key : ∃ e', L = .ok (.ret (fnD g)) e' := by
    subst hL
    rw [hx]
    refine loopF_met modD (fun e => ∃ a b c, e = [some (progD p), some (.str m), some (.str f), a, b, c]) ⟨none, none, none, by rw [hx]; rfl⟩ ?_ ?_
    · rintro md hmd e ⟨a, b, c, rfl⟩
      refine ex_step rfl fun R hR => ?_
      simp [modD] at hR
      generalize hL : loopF _ _ _ _ = L at hR
      have : ∃ e', L = .ok .nx e' ∧ ∃ c, e' = [some (progD p), some (.str m), some (.str f), some (.str md.1), some (.tuple (md.2.map fnD)), c] := by
        subst hL
        refine loopF_skip fnD (fun e => ∃ c, e = [some (progD p), some (.str m), some (.str f), some (.str md.1), some (.tuple (md.2.map fnD)), c]) ⟨_, rfl⟩ ?_
        rintro y hy e ⟨c, rfl⟩
        refine ⟨_, [some (progD p), some (.str m), some (.str f), some (.str md.1), some (.tuple (md.2.map fnD)), some (fnD y)], rfl, ?_, ⟨_, rfl⟩⟩
        have := h1 md hmd y hy
        simp [fnD, cmp_pair, this]
      obtain ⟨e', rfl, c, rfl⟩ := this
      simp at hR
      subst hR
      exact ⟨_, rfl, _, _, _, rfl⟩
    · rintro e ⟨a, b, c, rfl⟩
      refine ex_ret rfl fun R hR => ?_
      simp [modD] at hR
      generalize hL : loopF _ _ _ _ = L at hR
      have : ∃ e', L = .ok (.ret (fnD g)) e' := by
        subst hL
        rw [← List.map_cons, ← List.map_append]
        refine loopF_met fnD (fun e => ∃ c, e = [some (progD p), some (.str m), some (.str f), some (.str m), some (.tuple ((fs ++ g :: fs').map fnD)), c]) ⟨c, by simp⟩ ?_ ?_
        · rintro y hy e ⟨c, rfl⟩
          refine ⟨_, [some (progD p), some (.str m), some (.str f), some (.str m), some (.tuple ((fs ++ g :: fs').map fnD)), some (fnD y)], rfl, ?_, ⟨_, rfl⟩⟩
          have := h2 y hy
          simp [fnD, cmp_pair, this]
        · rintro e ⟨c, rfl⟩
          refine ⟨_, [some (progD p), some (.str m), some (.str f), some (.str m), some (.tuple ((fs ++ g :: fs').map fnD)), some (fnD g)], rfl, ?_⟩
          simp [fnD, cmp_pair, hf]
      obtain ⟨e', rfl⟩ := this
      simp at hR
      subst hR
      exact ⟨_, rfl⟩
  obtain ⟨e', rfl⟩ := key
  simp
end K06.Pu

namespace K06.Pu
open K06 PySem Mp
theorem at_lat {d : D} {r : List Nat} (h : IsAt d r) : At 3 28 [d, rowD r] (.ok (atR d r) []) := by
  refine at_of (d := d__law_at) rfl fun n hn => ?_
  simp [runDf, d__law_at, rowD]
  generalize hL : loopF _ _ _ _ = L
  have h : ∃ e', L = .ok .nx e' ∧ ∃ a, e' = [some (atR d r), some (rowD r), a] := by
    subst hL
    refine loopF_map nD (fun q e => ∃ a, e = [some (atR d q), some (rowD r), a]) ⟨_, rfl⟩ ?_
    rintro done k more e hx ⟨a, rfl⟩
    obtain ⟨h1, h2⟩ := h.at hx
    refine ⟨_, [some (atR d (done ++ [k])), some (rowD r), some (nD k)], rfl, .inl ?_, ⟨_, rfl⟩⟩
    have hi : index (.list (pts (atR d done))) (nD k) = some (atR d (done ++ [k])) := by
      rw [nD, index_ln, h2]
    simp [at_lparts h1 n hn, hi]
  obtain ⟨e', rfl, a, rfl⟩ := h
  simp
/-- what is met first, going down a row of turns -/
def near (hit : Nat → List Nat → Option D) : List Nat → Option D
  | [] => none
  | k :: rr => match hit k rr with
    | some v => some v
    | none => near hit rr
theorem loopW_down {c : En → Out D} {body : En → Out Fl} (hit : Nat → List Nat → Option D) (E : List Nat → En → Prop) (h0 : ∀ e, E [] e → ∃ e', c e = .ok (.bool false) e' ∧ E [] e')
    (hs : ∀ k rr e, E (k :: rr) e → ∃ e1, c e = .ok (.bool true) e1 ∧ match hit k rr with | some v => ∃ e2, body e1 = .ok (.ret v) e2 | none => ∃ e2, body e1 = .ok .nx e2 ∧ E rr e2) :
    ∀ (rr : List Nat) (fuel : Nat) (e : En), rr.length < fuel → E rr e → match near hit rr with | some v => ∃ e', loopW c body fuel e = .ok (.ret v) e' | none => ∃ e', loopW c body fuel e = .ok .nx e' ∧ E [] e'
  | [], 0, _, hf, _ => absurd hf (by simp)
  | [], fuel + 1, e, _, he => by
    obtain ⟨e', hc, he'⟩ := h0 e he
    refine ⟨e', ?_, he'⟩
    rw [loopW, hc]
    rfl
  | k :: rr, 0, _, hf, _ => absurd hf (by simp)
  | k :: rr, fuel + 1, e, hf, he => by
    obtain ⟨e1, hc, hb⟩ := hs k rr e he
    rw [near]
    cases hh : hit k rr with
    | some v =>
      rw [hh] at hb
      obtain ⟨e2, hb⟩ := hb
      refine ⟨e2, ?_⟩
      rw [loopW, hc]
      simp only [Out.bind_ok]
      rw [hb]
      rfl
    | none =>
      rw [hh] at hb
      obtain ⟨e2, hb, he2⟩ := hb
      have ih := loopW_down hit E h0 hs rr fuel e2 (by rw [List.length_cons] at hf; omega) he2
      simp only
      cases hn : near hit rr with
      | some v =>
        rw [hn] at ih
        obtain ⟨e', ih⟩ := ih
        refine ⟨e', ?_⟩
        rw [loopW, hc]
        simp only [Out.bind_ok]
        rw [hb]
        exact ih
      | none =>
        rw [hn] at ih
        obtain ⟨e', ih, he'⟩ := ih
        refine ⟨e', ?_, he'⟩
        rw [loopW, hc]
        simp only [Out.bind_ok]
        rw [hb]
        exact ih
theorem sIx_m1 (n d : Nat) : HT.sIx n d (some (-1)) = n - 1 := by
  show (if (-1 : Int) < 0 then ((-1 : Int) + (n : Int)).toNat else min (-1 : Int).toNat n) = n - 1
  rw [if_pos (by decide)]
  omega
@[simp] theorem slice_m1 (xs : List D) (x : D) : Mp.slice (.tuple (xs ++ [x])) none (some (-1)) = some (.tuple xs) := by
  have e : (xs ++ [x]).length = xs.length + 1 := by simp
  show some (PyData.tuple (Mp.cut (xs ++ [x]) none (some (-1)))) = _
  unfold Mp.cut
  rw [sIx_m1, HT.sIx_none, e]
  simp
@[simp] theorem index_m1 (xs : List D) (x : D) : index (.tuple (xs ++ [x])) (.int (-1)) = some x := by
  have e : (xs ++ [x]).length = xs.length + 1 := by simp
  show L2.atI _ _ = _
  unfold L2.atI L2.ixN
  rw [e, if_neg (by decide), if_pos (by omega), show ((-1 : Int) + ((xs.length + 1 : Nat) : Int)).toNat = xs.length from by omega]
  simp
def hitK (m f x : Str) (κ : Kd) (k : Nat) (q : List Nat) : Option D := match κ, k with
  | .lt y, 1 => if y = x then some (.tuple [.str "let", wayD m f q]) else none
  | .tm y z, 2 => if y = x then some (.tuple [.str "count", wayD m f q]) else if z = x then some (.tuple [.str "sum", wayD m f q]) else none
  | _, _ => none
def hitB (m f : Str) (d : D) (x : Str) (k : Nat) (rr : List Nat) : Option D := hitK m f x (kd (atR d rr.reverse)) k rr.reverse
theorem hitK_none {m f x : Str} {κ : Kd} {k : Nat} {q : List Nat} (h1 : ∀ x, κ = .lt x → k = 1 → False) (h2 : ∀ x y, κ = .tm x y → k = 2 → False) : hitK m f x κ k q = none := by
  unfold hitK
  split
  · exact absurd rfl (h1 _ rfl)
  · exact absurd rfl (h2 _ _ rfl)
  · rfl
@[simp] theorem slice_way2 (m f : Str) (r : List Nat) : Mp.slice (wayD m f r) none (some 2) = some (.tuple [.str m, .str f]) := by simp [wayD]
@[simp] theorem slice_way (m f : Str) (r : List Nat) : Mp.slice (wayD m f r) (some 2) none = some (rowD r) := by simp [wayD, rowD]
theorem way_add (m f : Str) (r : List Nat) (h : r.length ≤ 1000) : Mp.bin .add (.tuple [.str m, .str f]) (rowD r) = some (wayD m f r) := by
  simp [rowD, wayD]
  omega
theorem rowD_m1 (q : List Nat) (k : Nat) : Mp.slice (rowD (q ++ [k])) none (some (-1)) = some (rowD q) := by simp [rowD]
theorem rowD_i1 (q : List Nat) (k : Nat) : index (rowD (q ++ [k])) (.int (-1)) = some (nD k) := by simp [rowD]
theorem IsAt.pre : ∀ {r : List Nat} {d : D} {q : List Nat}, IsAt d (r ++ q) → IsAt d r
  | [], _, _, _ => trivial
  | k :: r, d, q, h => by
    obtain ⟨h1, p, hp, h2⟩ := h
    exact ⟨h1, p, hp, IsAt.pre h2⟩
/-- times' names are unlike, all over -/
def TmOk (d : D) : Prop := ∀ r x y, IsAt d r → kd (atR d r) = .tm x y → x ≠ y
theorem WF.tmOk {n : Nat} {Γ : List Str} {d : D} (h : WF n Γ d) : TmOk d := by
  intro r x y ha hk
  obtain ⟨n', Γ', hn, hw, _⟩ := WF.at (m := ⟨#[]⟩) (f := ⟨#[]⟩) [] h ha
  cases n' with
  | zero => exact hw.elim
  | succ n' => exact hw.2.2.1 x y hk
theorem WF.isE {n : Nat} {Γ : List Str} {d : D} {r : List Nat} (h : WF n Γ d) (ha : IsAt d r) : IsE (atR d r) ∧ r.length < n := by
  obtain ⟨n', Γ', hn, hw, _⟩ := WF.at (m := ⟨#[]⟩) (f := ⟨#[]⟩) [] h ha
  cases n' with
  | zero => exact hw.elim
  | succ n' => exact ⟨hw.1, by omega⟩
/-- the law's own going up tells what the dicts tell -/
theorem near_env {m f : Str} {d : D} {x : Str} {ρ : Rho} (ht : TmOk d) : ∀ rr : List Nat, IsAt d rr.reverse → envAt m f d [] ρ rr.reverse x = match near (hitB m f d x) rr with
    | some v => some v
    | none => ρ x
  | [], _ => rfl
  | k :: rr, ha => by
    rw [List.reverse_cons] at ha ⊢
    have ih := near_env (m := m) (f := f) (x := x) (ρ := ρ) ht rr ha.pre
    rw [envAt_snoc, List.nil_append, near]
    have htm := ht rr.reverse
    generalize envAt m f d [] ρ rr.reverse = ρ' at ih ⊢
    generalize near (hitB m f d x) rr = N at ih ⊢
    unfold hitB hitK upd
    have ha' := ha.pre
    revert htm
    generalize kd (atR d rr.reverse) = κ
    intro htm
    split
    · rename_i y
      simp only [Rho.set]
      by_cases h : y = x
      · simp [h]
      · simp [h, ih]
    · rename_i y z
      have hne := htm y z ha' rfl
      simp only [Rho.set]
      by_cases h : z = x
      · have : ¬ y = x := fun h' => hne (h'.trans h.symm)
        simp [h, this]
      · by_cases h' : y = x
        · simp [h, h']
        · simp [h, h', ih]
    · simp [ih]
theorem slice_24 (a b c d e f : D) : Mp.slice (.tuple [a, b, c, d, e, f]) (some 2) (some 4) = some (.tuple [c, d]) := by
  have e1 : HT.sIx 6 0 (some 2) = min 2 6 := HT.sIx_nat 6 0 2
  have e2 : HT.sIx 6 6 (some 4) = min 4 6 := HT.sIx_nat 6 6 4
  simp only [Mp.slice, Mp.cut, List.length_cons, List.length_nil, Nat.zero_add, Nat.reduceAdd, e1, e2]
  rfl
theorem cmp_ne_nil (r : List Nat) : Mp.cmp .ne (rowD r) (.tuple []) = some (!r.isEmpty) := by
  have h : nd (rowD r) = true := by simp [nd, rowD, PyData.hasDict, nd_ints]
  have h2 : nd (.tuple []) = true := rfl
  have h3 : (PyData.tuple []).depth = 1 := rfl
  have h4 : PyData.eqv (rowD r) (.tuple []) = r.isEmpty := by
    cases r <;> simp [rowD, PyData.eqv, PyData.eqvAll]
  have h5 : min (rowD r).depth 1 ≤ 128 := Nat.le_trans (Nat.min_le_right _ _) (by decide)
  simp [Mp.cmp, okEq, h, h2, h3, h4, h5]
theorem index_strs {ps : List Str} {x : Str} {k : Nat} (h : ps[k]? = some x) (h' : ∀ j, j < k → ps[j]? ≠ some x) (hl : ps.length ≤ 100) : indexOf (ps.map .str) (.str x) = some (nD k) := by
  have e : ((ps.map PyData.str).findIdx? fun y => PyData.eqv y (.str x)) = some k := by
    rw [List.findIdx?_map]
    rw [List.findIdx?_eq_some_iff_getElem]
    obtain ⟨h3, h4⟩ := List.getElem?_eq_some_iff.mp h
    refine ⟨h3, by simp [eqv_str, h4], fun j hj => ?_⟩
    have hj' : j < ps.length := by omega
    have := h' j hj
    rw [List.getElem?_eq_getElem hj'] at this
    simp only [Function.comp_apply, eqv_str, decide_eq_true_eq]
    exact fun h => this (by rw [h])
  have hok : (ps.map PyData.str).all (fun y => okEq y (.str x)) = true := by
    simp [okEq, nd, PyData.hasDict, PyData.depth]
  have hl' : ps.length ≤ 16777216 := by omega
  unfold indexOf
  rw [e, hok]
  simp [hl', nd, PyData.hasDict, nD]
theorem rho0_at {m f : Str} {ps : List Str} {k : Nat} {x : Str} (hn : ps.Nodup) (h : ps[k]? = some x) : rho0 m f ps x = some (parD m f k) := by
  have key : ∀ (l : List (Str × Nat)) (ρ : Rho), (l.map (·.1)).Nodup → (x, k) ∈ l → l.foldl (fun ρ p => ρ.set p.1 (parD m f p.2)) ρ x = some (parD m f k) := by
    intro l
    induction l with
    | nil => intro _ _ h; cases h
    | cons a l ih =>
      intro ρ hn hm
      rw [List.map_cons, List.nodup_cons] at hn
      rw [List.foldl_cons]
      rcases List.mem_cons.mp hm with rfl | hm
      · have hno : x ∉ l.map (·.1) := hn.1
        have : ∀ (l : List (Str × Nat)) (ρ : Rho), x ∉ l.map (·.1) → l.foldl (fun ρ p => ρ.set p.1 (parD m f p.2)) ρ x = ρ x := by
          intro l
          induction l with
          | nil => exact fun _ _ => rfl
          | cons b l ih =>
            intro ρ hb
            rw [List.map_cons, List.mem_cons, not_or] at hb
            rw [List.foldl_cons, ih _ hb.2]
            unfold Rho.set
            rw [if_neg fun h => hb.1 h.symm]
        rw [this l _ hno]
        simp [Rho.set]
      · exact ih _ hn.2 hm
  refine key ps.zipIdx _ (by simpa using hn) ?_
  have := List.mk_mem_zipIdx_iff_getElem? (x := x) (i := k) (l := ps)
  exact this.mpr h
theorem rho0_some {m f : Str} {ps : List Str} {x : Str} (hn : ps.Nodup) (h : x ∈ ps) : ∃ k, ps[k]? = some x ∧ (∀ j, j < k → ps[j]? ≠ some x) ∧ rho0 m f ps x = some (parD m f k) := by
  obtain ⟨k, hk, hx⟩ := List.getElem_of_mem h
  have hk' : ps[k]? = some x := by rw [List.getElem?_eq_getElem hk, hx]
  refine ⟨k, hk', fun j hj hjx => ?_, rho0_at hn hk'⟩
  have hj' : j < ps.length := by omega
  rw [List.getElem?_eq_getElem hj'] at hjx
  exact List.pairwise_iff_getElem.mp hn j k hj' hk hj ((Option.some.inj hjx).trans hx.symm)
end K06.Pu

namespace K06.Pu
open K06 PySem Mp
@[simp] theorem P_wf (n : Nat) : (P n).wf = 100 := rfl
theorem rho0_in {m f : Str} {ps : List Str} {x : Str} {v : D} (h : rho0 m f ps x = some v) : x ∈ ps := by
  have key : ∀ (l : List (Str × Nat)) (ρ : Rho), l.foldl (fun ρ p => ρ.set p.1 (parD m f p.2)) ρ x = some v → x ∈ l.map (·.1) ∨ ρ x = some v := by
    intro l
    induction l with
    | nil => exact fun _ h => .inr h
    | cons b l ih =>
      intro ρ hb
      rw [List.foldl_cons] at hb
      rcases ih _ hb with h | h
      · exact .inl (List.mem_cons_of_mem _ h)
      · unfold Rho.set at h
        by_cases hbx : b.1 = x
        · exact .inl (by rw [List.map_cons, hbx]; exact List.mem_cons_self)
        · rw [if_neg hbx] at h
          exact .inr h
  rcases key ps.zipIdx _ h with h | h
  · simpa using h
  · cases h
theorem IsE.form2 {d : D} (h : IsE d) : (∃ x, kd d = .lt x) ∨ (∃ x y, kd d = .tm x y) ∨ (∃ h r, d = .tuple (.str h :: r) ∧ ¬ h = "let" ∧ ¬ h = "times" ∧ (∀ x, kd d ≠ .lt x) ∧ ∀ x y, kd d ≠ .tm x y) := by
  unfold IsE at h
  revert h
  generalize kd d = κ
  generalize pts d = ps
  intro h
  cases h with
  | lt x => exact .inl ⟨x, rfl⟩
  | tm n x y => exact .inr (.inl ⟨x, y, rfl⟩)
  | _ => exact .inr (.inr ⟨_, _, rfl, by simp, by simp, (fun x h => by cases h), fun x y h => by cases h⟩)
theorem exR {X : Out Fl} {v : D} (h : ∀ R, X = R → ∃ e2, R = .ok (.ret v) e2) : ∃ e2, X = .ok (.ret v) e2 := h _ rfl
theorem exN {X : Out Fl} {Q : En → Prop} (h : ∀ R, X = R → ∃ e2, R = .ok .nx e2 ∧ Q e2) : ∃ e2, X = .ok .nx e2 ∧ Q e2 := h _ rfl
def nearE (m f : Str) (g : Fu) (r : List Nat) (x : Str) (rr : List Nat) (e : En) : Prop := IsAt g.2.2 rr.reverse ∧ rr.length ≤ 50 ∧ ∃ a b, e = [some (wayD m f r), some (.tuple (g.2.1.map .str)), some g.2.2, some (rowD rr.reverse), some (.str x), a, b]
theorem at_nearest {m f : Str} {g : Fu} {r : List Nat} {x : Str} {v : D} {n : Nat} {Γ : List Str} (hw : WF n Γ g.2.2) (hn : n ≤ 10) (hps : g.2.1.Nodup) (hpl : g.2.1.length ≤ 100) (ha : IsAt g.2.2 r) (hu : atR g.2.2 r = .tuple [.str "use", .str x]) (hv : envAt m f g.2.2 [] (rho0 m f g.2.1) r x = some v) :
    At 4 29 [wayD m f r, .tuple (g.2.1.map .str), g.2.2] (.ok v []) := by
  refine at_of (d := d__law_nearest) rfl fun N hN => ?_
  have hr := (hw.isE ha).2
  have hat := at_lat ha N hN
  rw [hu, rowD] at hat
  have hne := near_env (m := m) (f := f) (x := x) (ρ := rho0 m f g.2.1) hw.tmOk r.reverse (by rw [List.reverse_reverse]; exact ha)
  rw [List.reverse_reverse, hv] at hne
  simp [runDf, d__law_nearest, wayD, hat]
  generalize hL : loopW _ _ _ _ = L
  have key : match near (hitB m f g.2.2 x) r.reverse with | some v => ∃ e', L = .ok (.ret v) e' | none => ∃ e', L = .ok .nx e' ∧ nearE m f g r x [] e' := by
    subst hL
    refine loopW_down (hitB m f g.2.2 x) (nearE m f g r x) ?_ ?_ r.reverse 100 _ (by simp; omega) ⟨by rw [List.reverse_reverse]; exact ha, by simp; omega, none, none, by simp [wayD, rowD]⟩
    · rintro e ⟨h1, h2, a, b, rfl⟩
      refine ⟨_, ?_, h1, h2, a, b, rfl⟩
      simp [cmp_ne_nil]
    · rintro k rr e ⟨h1, h2, a, b, rfl⟩
      refine ⟨[some (wayD m f r), some (.tuple (g.2.1.map .str)), some g.2.2, some (rowD (k :: rr).reverse), some (.str x), a, b], by simp [cmp_ne_nil], ?_⟩
      rw [List.reverse_cons] at h1 ⊢
      rw [List.length_cons] at h2
      unfold hitB nearE
      have h3 : rr.reverse.length ≤ 50 := by rw [List.length_reverse]; omega
      have h4 : rr.length ≤ 50 := by omega
      generalize rr.reverse = q at h1 h3 ⊢
      have hat := at_lat h1.pre N hN
      have hadd := way_add m f q (by omega)
      have hE := (hw.isE h1.pre).1
      rcases hE.form2 with ⟨y, hk⟩ | ⟨y, z, hk⟩ | ⟨h, t, he, g1, g2, g3, g4⟩
      · obtain ⟨a', b', he⟩ := hE.lt hk
        rw [he] at hat
        rw [hk]
        by_cases hk1 : k = 1
        · subst hk1
          by_cases hyx : y = x
          · rw [show hitK m f x (.lt y) 1 q = some (.tuple [.str "let", wayD m f q]) from if_pos hyx]
            refine exR fun R hR => ?_
            simp [rowD_m1, rowD_i1, hat, nD, hyx, hadd] at hR
            subst hR
            exact ⟨_, rfl⟩
          · rw [show hitK m f x (.lt y) 1 q = none from if_neg hyx]
            refine exN fun R hR => ?_
            simp [rowD_m1, rowD_i1, hat, nD, hyx] at hR
            subst hR
            exact ⟨_, rfl, h1.pre, h4, _, _, rfl⟩
        · have hk2 : ¬ (k : Int) = 1 := by omega
          rw [hitK_none (fun _ _ h => hk1 h) fun _ _ h _ => by cases h]
          refine exN fun R hR => ?_
          simp [rowD_m1, rowD_i1, hat, hk2] at hR
          subst hR
          exact ⟨_, rfl, h1.pre, h4, _, _, rfl⟩
      · obtain ⟨c', a', b', he⟩ := hE.tm hk
        rw [he] at hat
        rw [hk]
        by_cases hk1 : k = 2
        · subst hk1
          by_cases hyx : y = x
          · have hi : indexOf [.str y, .str z] (.str x) = some (nD 0) := index_strs (ps := [y, z]) (k := 0) (by simp [hyx]) (fun j hj => by omega) (by simp)
            rw [show hitK m f x (.tm y z) 2 q = some (.tuple [.str "count", wayD m f q]) from if_pos hyx]
            refine exR fun R hR => ?_
            simp [rowD_m1, rowD_i1, hat, nD, hyx, hadd, slice_24, mtId, Mp.mt] at hR
            simp only [hyx] at hi
            simp [hi, nD, hadd] at hR
            subst hR
            exact ⟨_, rfl⟩
          · by_cases hzx : z = x
            · have hi : indexOf [.str y, .str z] (.str x) = some (nD 1) := index_strs (ps := [y, z]) (k := 1) (by simp [hzx]) (fun j hj => by
                obtain rfl : j = 0 := by omega
                simp [hyx]) (by simp)
              rw [show hitK m f x (.tm y z) 2 q = some (.tuple [.str "sum", wayD m f q]) from (if_neg hyx).trans (if_pos hzx)]
              refine exR fun R hR => ?_
              simp [rowD_m1, rowD_i1, hat, nD, hyx, hzx, hadd, slice_24, mtId, Mp.mt] at hR
              simp only [hzx] at hi
              simp [hi, nD, hadd] at hR
              subst hR
              exact ⟨_, rfl⟩
            · rw [show hitK m f x (.tm y z) 2 q = none from (if_neg hyx).trans (if_neg hzx)]
              refine exN fun R hR => ?_
              simp [rowD_m1, rowD_i1, hat, nD, hyx, hzx, slice_24] at hR
              subst hR
              exact ⟨_, rfl, h1.pre, h4, _, _, rfl⟩
        · have hk2 : ¬ (k : Int) = 2 := by omega
          rw [hitK_none (fun _ h _ => by cases h) fun _ _ _ h => hk1 h]
          refine exN fun R hR => ?_
          simp [rowD_m1, rowD_i1, hat, hk2] at hR
          subst hR
          exact ⟨_, rfl, h1.pre, h4, _, _, rfl⟩
      · rw [hitK_none (fun x h _ => g3 x h) fun x y h _ => g4 x y h]
        rw [he] at hat
        refine exN fun R hR => ?_
        simp [rowD_m1, rowD_i1, hat, g1, g2] at hR
        subst hR
        exact ⟨_, rfl, h1.pre, h4, _, _, rfl⟩
  cases hnr : near (hitB m f g.2.2 x) r.reverse with
  | some w =>
    rw [hnr] at key hne
    obtain ⟨e', rfl⟩ := key
    cases hne
    simp
  | none =>
    rw [hnr] at key hne
    obtain ⟨e', rfl, _, _, a, b, rfl⟩ := key
    obtain ⟨k, hk, hj, hr0⟩ := rho0_some (m := m) (f := f) hps (rho0_in hne.symm)
    have hi := index_strs hk hj hpl
    have hvk : v = parD m f k := Option.some.inj (hne.trans hr0)
    simp [mtId, Mp.mt, hi, hvk, parD]
end K06.Pu

namespace K06.Pu
open K06 PySem Mp
def bndK (m f : Str) (κ : Kd) (r : List Nat) : List (D × Str) := match κ with
  | .lt x => [(.tuple [.str "let", wayD m f r], x)]
  | .tm x y => [(.tuple [.str "count", wayD m f r], x), (.tuple [.str "sum", wayD m f r], y)]
  | _ => []
def allB (m f : Str) (g : Fu) (rs : List (List Nat)) : List (D × Str) := (g.2.1.zipIdx.map fun p => (parD m f p.2, p.1)) ++ rs.flatMap fun r => bndK m f (kd (atR g.2.2 r)) r
def bxD (b : D × Str) : D := .tuple [b.1, .str b.2]
theorem bndK_len (m f : Str) (κ : Kd) (r : List Nat) : (bndK m f κ r).length ≤ 2 := by
  cases κ <;> simp [bndK]
theorem allB_len (m f : Str) (g : Fu) (rs : List (List Nat)) : (allB m f g rs).length ≤ g.2.1.length + rs.length * 2 := by
  unfold allB
  rw [List.length_append, List.length_map, List.length_zipIdx, List.length_flatMap]
  have := sum_le_mul (fun r => (bndK m f (kd (atR g.2.2 r)) r).length) 2 rs fun r _ => bndK_len _ _ _ _
  omega
theorem at_all {m f : Str} {g : Fu} {n : Nat} {Γ : List Str} (hw : WF n Γ g.2.2) (hn : n ≤ 10) (hpl : g.2.1.length ≤ 100) :
    At (n + 4) 30 [.str m, .str f, .tuple (g.2.1.map .str), g.2.2] (.ok (.list ((allB m f g (rows n g.2.2)).map bxD)) []) := by
  refine at_of (d := d__law_all) rfl fun N hN => ?_
  have hrl := rows_len hw
  have hpow : 4 ^ n ≤ 4 ^ 10 := Nat.pow_le_pow_right (by omega) hn
  simp [runDf, d__law_all]
  rw [loopC_map _ (fun d => match d with | .tuple [i, a] => .tuple [.tuple [.str "param", .str m, .str f, i], a] | _ => .none) _ _ ?_]
  rotate_left
  · intro d hd
    rw [List.zipIdx_map] at hd
    simp only [List.map_map] at hd
    obtain ⟨q, hq, rfl⟩ := List.mem_map.mp hd
    simp
  have e : (List.map (fun d : D => match d with | .tuple [i, a] => PyData.tuple [.tuple [.str "param", .str m, .str f, i], a] | _ => .none) ((g.2.1.map PyData.str).zipIdx.map fun p => .tuple [.int (p.2 : Int), p.1])) = (allB m f g []).map bxD := by
    rw [List.zipIdx_map]
    simp [allB, Function.comp_def, parD, nD, bxD]
  have h1 : (allB m f g []).length ≤ 16777216 := by
    have := allB_len m f g []
    simp at this
    omega
  simp only [e]
  simp [h1, at_lrows hw hn N (by omega)]
  generalize hL : loopF _ _ _ _ = L
  have key : ∃ e', L = .ok .nx e' ∧ ∃ a b, e' = [some (.str m), some (.str f), some (.tuple (g.2.1.map .str)), some g.2.2, some (.list ((allB m f g (rows n g.2.2)).map bxD)), a, b, none, none] := by
    subst hL
    refine loopF_map rowD (fun q e => ∃ a b, e = [some (.str m), some (.str f), some (.tuple (g.2.1.map .str)), some g.2.2, some (.list ((allB m f g q).map bxD)), a, b, none, none]) ⟨_, _, rfl⟩ ?_
    rintro done r more e hx ⟨a, b, rfl⟩
    have hr : r ∈ rows n g.2.2 := by rw [hx]; simp
    obtain ⟨ha, hrn⟩ := rows_at hw r hr
    have hE := (hw.isE ha).1
    have hat := at_lat ha N (by omega)
    have hdl : done.length < 4 ^ n := by
      rw [hx] at hrl
      simp at hrl
      omega
    have hal := allB_len m f g done
    have g1 : (allB m f g done).length ≤ 16777215 := by omega
    have g2 : (allB m f g done).length + 2 ≤ 16777216 := by omega
    have hsn : allB m f g (done ++ [r]) = allB m f g done ++ bndK m f (kd (atR g.2.2 r)) r := by simp [allB]
    have hadd := way_add m f r (by omega)
    refine ex_step' rfl fun R hR => ?_
    rcases hE.form2 with ⟨y, hk⟩ | ⟨y, z, hk⟩ | ⟨h, t, he, f1, f2, f3, f4⟩
    · obtain ⟨a', b', he⟩ := hE.lt hk
      rw [he] at hat
      simp [hat, hadd, g1] at hR
      subst hR
      refine ⟨_, rfl, some (rowD r), some (.tuple [.str "let", .str y, a', b']), ?_⟩
      rw [hsn, hk]
      simp [bndK, bxD]
    · obtain ⟨c', a', b', he⟩ := hE.tm hk
      rw [he] at hat
      simp [hat, hadd, g2] at hR
      subst hR
      refine ⟨_, rfl, some (rowD r), some (.tuple [.str "times", c', .str y, .str z, a', b']), ?_⟩
      rw [hsn, hk]
      simp [bndK, bxD]
    · rw [he] at hat
      simp [hat, f1, f2] at hR
      subst hR
      refine ⟨_, rfl, some (rowD r), some (.tuple (.str h :: t)), ?_⟩
      have : bndK m f (kd (atR g.2.2 r)) r = [] := by
        unfold bndK
        split
        · rename_i x hx
          exact absurd hx (f3 _)
        · rename_i x y hx
          exact absurd hx (f4 _ _)
        · rfl
      rw [hsn, this, List.append_nil]
  obtain ⟨e', rfl, a, b, rfl⟩ := key
  simp
end K06.Pu

namespace K06.Pu
open K06 PySem Mp
/-! orders, texts, equality -/
mutual
theorem eqv_self : ∀ d : PyData, PyData.hasDict d = false → PyData.eqv d d = true
  | .none, _ => by simp [PyData.eqv]
  | .bool _, _ => by simp [PyData.eqv]
  | .int _, _ => by simp [PyData.eqv]
  | .str _, _ => by simp [PyData.eqv]
  | .list xs, h => by rw [PyData.eqv]; exact eqvAll_self xs h
  | .tuple xs, h => by rw [PyData.eqv]; exact eqvAll_self xs h
  | .dict _, h => by cases h
theorem eqvAll_self : ∀ xs : List PyData, PyData.hasDictAll xs = false → PyData.eqvAll xs xs = true
  | [], _ => by simp [PyData.eqvAll]
  | x :: xs, h => by
    rw [PyData.hasDictAll, Bool.or_eq_false_iff] at h
    rw [PyData.eqvAll, eqv_self x h.1, eqvAll_self xs h.2]
    rfl
end
theorem hasDictAll_of : ∀ {xs : List D}, (∀ x ∈ xs, nd x = true) → PyData.hasDictAll xs = false
  | [], _ => rfl
  | x :: xs, h => by
    have h1 := h x List.mem_cons_self
    simp only [nd, Bool.not_eq_true'] at h1
    rw [PyData.hasDictAll, h1, hasDictAll_of fun y hy => h y (List.mem_cons_of_mem _ hy)]
    rfl
theorem depthAll_of {b : Nat} : ∀ {xs : List D}, (∀ x ∈ xs, x.depth ≤ b) → PyData.depthAll xs ≤ b
  | [], _ => Nat.zero_le _
  | x :: xs, h => by
    rw [PyData.depthAll]
    exact Nat.max_le.mpr ⟨h x List.mem_cons_self, depthAll_of fun y hy => h y (List.mem_cons_of_mem _ hy)⟩
theorem cmp_self_list {xs : List D} (h : ∀ x ∈ xs, nd x = true ∧ x.depth ≤ 2) : Mp.cmp .eq (.list xs) (.list xs) = some true ∧ Mp.cmp .ne (.list xs) (.list xs) = some false := by
  have h1 := hasDictAll_of fun x hx => (h x hx).1
  have h2 := depthAll_of fun x hx => (h x hx).2
  have h3 : nd (.list xs) = true := by simp [nd, PyData.hasDict, h1]
  have h4 : PyData.eqv (.list xs) (.list xs) = true := eqv_self _ (by rw [PyData.hasDict]; exact h1)
  have h5 : (PyData.list xs).depth ≤ 128 := by
    rw [PyData.depth]
    omega
  have h6 : okEq (.list xs) (.list xs) = true := by simp [okEq, h3, h5]
  exact ⟨by simp [Mp.cmp, h6, h4], by simp [Mp.cmp, h6, h4]⟩
theorem keyToks_inj : ∀ {a b : List Nat}, PySem.W.keyToksAll (a.map nD) = PySem.W.keyToksAll (b.map nD) → a = b
  | [], [], _ => rfl
  | [], k :: b, h => by simp [PySem.W.keyToksAll] at h
  | k :: a, [], h => by simp [PySem.W.keyToksAll] at h
  | k :: a, j :: b, h => by
    simp only [List.map_cons, PySem.W.keyToksAll, nD, PySem.W.keyToks, List.singleton_append, List.cons.injEq, Sum.inl.injEq, true_and] at h
    rw [keyToks_inj h.2, show k = j from by omega]
def rle (m f : Str) (a b : List Nat) : Bool := PySem.W.dataLe false id (wayD m f a) (wayD m f b)
theorem rle_total (m f : Str) : PySem.W.TotalLe (rle m f) := PySem.W.sortLe_total (PyProof.Rows.listOrd PyProof.Rows.itemOrd) false fun r => PySem.W.keyToks (wayD m f r)
theorem rle_same {m f : Str} {a b : List Nat} (h : PySem.W.sameRank (rle m f) a b = true) : a = b := by
  have h' : ((!(PyProof.Rows.listOrd PyProof.Rows.itemOrd).blt (PySem.W.keyToks (wayD m f b)) (PySem.W.keyToks (wayD m f a))) && (!(PyProof.Rows.listOrd PyProof.Rows.itemOrd).blt (PySem.W.keyToks (wayD m f a)) (PySem.W.keyToks (wayD m f b)))) = true := h
  rw [Bool.and_eq_true, Bool.not_eq_true', Bool.not_eq_true'] at h'
  have := (PyProof.Rows.listOrd PyProof.Rows.itemOrd).total _ _ h'.2 h'.1
  simp only [wayD, PySem.W.keyToks, PySem.W.keyToksAll] at this
  simp only [List.cons_append, List.nil_append, List.cons.injEq, true_and] at this
  exact keyToks_inj this
theorem sort_perm {m f : Str} {a b : List (List Nat)} (h : a.Perm b) : a.mergeSort (rle m f) = b.mergeSort (rle m f) := by
  refine PySem.W.sort_one (rle_total m f) _ _ (PySem.W.sort_pairwise (rle_total m f) a) (PySem.W.sort_pairwise (rle_total m f) b) fun c => ?_
  rw [PySem.W.sort_stable (rle_total m f), PySem.W.sort_stable (rle_total m f)]
  have hp := h.filter (PySem.W.sameRank (rle m f) c)
  have he : ∀ (l : List (List Nat)), l.filter (PySem.W.sameRank (rle m f) c) = List.replicate (l.filter (PySem.W.sameRank (rle m f) c)).length c := fun l => List.eq_replicate_iff.mpr ⟨rfl, fun x hx => (rle_same (List.mem_filter.mp hx).2).symm⟩
  rw [he a, he b, hp.length_eq]
theorem sortD_perm {m f : Str} {a b : List (List Nat)} (h : a.Perm b) : sortD (a.map (wayD m f)) = sortD (b.map (wayD m f)) := by
  unfold sortD
  rw [← List.map_mergeSort (r := rle m f) (f := wayD m f) (l := a) (fun _ _ _ _ => rfl), ← List.map_mergeSort (r := rle m f) (f := wayD m f) (l := b) (fun _ _ _ _ => rfl), sort_perm h]
theorem alike_ints : ∀ a b : List Nat, PySem.W.alikeAll (a.map nD) (b.map nD) = true
  | [], _ => by simp [PySem.W.alikeAll]
  | _ :: _, [] => by simp [PySem.W.alikeAll]
  | k :: a, j :: b => by
    rw [List.map_cons, List.map_cons, PySem.W.alikeAll, alike_ints a b]
    rfl
theorem sortOk_ways {m f : Str} {a : List (List Nat)} (h : a.length ≤ 16777216) : sortOk (a.map (wayD m f)) = true := by
  have h1 : ((a.map (wayD m f)).all fun x => (a.map (wayD m f)).all fun y => PySem.W.alike x y) = true := by
    rw [List.all_eq_true]
    intro x hx
    obtain ⟨r, hr, rfl⟩ := List.mem_map.mp hx
    rw [List.all_eq_true]
    intro y hy
    obtain ⟨q, hq, rfl⟩ := List.mem_map.mp hy
    simp [wayD, PySem.W.alike, PySem.W.alikeAll, alike_ints]
  have h2 : (a.map (wayD m f)).all isTup1 = true := by
    rw [List.all_eq_true]
    intro x hx
    obtain ⟨r, hr, rfl⟩ := List.mem_map.mp hx
    rfl
  have h3 : ((a.map (wayD m f)).all fun x => nd x && decide (x.depth ≤ 128)) = true := by
    rw [List.all_eq_true]
    intro x hx
    obtain ⟨r, hr, rfl⟩ := List.mem_map.mp hx
    have := nd_way m f r
    simp [this.1, this.2]
  unfold sortOk
  rw [h1, h2, h3]
  simp [h]
/-! the text of a list of ways -/
theorem sOk_add {x y : Str} (hx : PyData.strOk x = true) (hy : PyData.strOk y = true) : PyData.strOk (x ++ y) = true := by
  show Array.all (x.cps ++ y.cps) _ = true
  rw [Array.all_append]
  exact Bool.and_eq_true _ _ ▸ ⟨hx, hy⟩
theorem sOk_from : ∀ (ts : List Str) (k : Nat) (acc : Str), PyData.strOk acc = true → (∀ t ∈ ts, PyData.strOk t = true) → PyData.strOk (textFrom k acc ts) = true
  | [], _, _, h, _ => h
  | t :: ts, k, acc, h, ht => by
    refine sOk_from ts (k + 1) _ (sOk_add (sOk_add h ?_) (ht t List.mem_cons_self)) fun u hu => ht u (List.mem_cons_of_mem _ hu)
    by_cases hk : k > 0
    · rw [if_pos hk]
      decide +kernel
    · rw [if_neg hk]
      decide +kernel
theorem sOk_list {ts : List Str} (h : ∀ t ∈ ts, PyData.strOk t = true) : PyData.strOk (listText ts) = true :=
  sOk_add (sOk_from ts 0 _ (by decide +kernel) h) (by decide +kernel)
theorem sOk_join : ∀ {ts : List Str}, (∀ t ∈ ts, PyData.strOk t = true) → PyData.strOk (Str.join ", " ts) = true
  | [], _ => by decide +kernel
  | [x], h => h x List.mem_cons_self
  | x :: y :: r, h => by
    show PyData.strOk (x ++ ", " ++ Str.join ", " (y :: r)) = true
    exact sOk_add (sOk_add (h x List.mem_cons_self) (by decide +kernel)) (sOk_join fun t ht => h t (List.mem_cons_of_mem _ ht))
theorem sOk_tup {ts : List Str} (h : ∀ t ∈ ts, PyData.strOk t = true) : PyData.strOk (tupleText ts) = true := by
  refine sOk_add (sOk_add (by decide +kernel) (sOk_join h)) ?_
  by_cases hk : (ts.length == 1) = true
  · rw [if_pos hk]
    decide +kernel
  · rw [if_neg hk]
    decide +kernel
def nmOk (x : Str) : Bool := decide (x.cps.size ≤ 20) && PyData.strOk (reprText x) && x.cps.toList.all fun c => decide (c < 16 ^ 8)
theorem small_int {k : Nat} (h : k < 4) : PyData.strOk (nD k).shown = true ∧ (nD k).showable = true ∧ (nD k).leavesShort 40 = true := by
  match k, h with
  | 0, _ => decide +kernel
  | 1, _ => decide +kernel
  | 2, _ => decide +kernel
  | 3, _ => decide +kernel
theorem shownAll_mem : ∀ {xs : List D} {t : Str}, t ∈ PyData.shownAll xs → ∃ x ∈ xs, t = x.shown
  | [], _, h => by cases h
  | x :: xs, t, h => by
    rw [PyData.shownAll] at h
    rcases List.mem_cons.mp h with rfl | h
    · exact ⟨x, List.mem_cons_self, rfl⟩
    · obtain ⟨y, hy, ht⟩ := shownAll_mem h
      exact ⟨y, List.mem_cons_of_mem _ hy, ht⟩
theorem showableAll_of : ∀ {xs : List D}, (∀ x ∈ xs, x.showable = true) → PyData.showableAll xs = true
  | [], _ => rfl
  | x :: xs, h => by
    rw [PyData.showableAll, h x List.mem_cons_self, showableAll_of fun y hy => h y (List.mem_cons_of_mem _ hy)]
    rfl
theorem leavesAll_of : ∀ {xs : List D}, (∀ x ∈ xs, x.leavesShort 40 = true) → PyData.leavesShortAll 40 xs = true
  | [], _ => rfl
  | x :: xs, h => by
    rw [PyData.leavesShortAll, h x List.mem_cons_self, leavesAll_of fun y hy => h y (List.mem_cons_of_mem _ hy)]
    rfl
theorem bulkAll_of {b : Nat} : ∀ {xs : List D}, (∀ x ∈ xs, x.bulk ≤ b) → PyData.bulkAll xs ≤ xs.length * (b + 1)
  | [], _ => Nat.zero_le _
  | x :: xs, h => by
    have h1 := h x List.mem_cons_self
    have h2 := bulkAll_of fun y hy => h y (List.mem_cons_of_mem _ hy)
    rw [PyData.bulkAll, List.length_cons, Nat.succ_mul]
    omega
theorem way_fit {m f : Str} {r : List Nat} (hm : nmOk m = true) (hf : nmOk f = true) (hr : ∀ k ∈ r, k < 4) (hl : r.length ≤ 10) : PyData.strOk (wayD m f r).shown = true ∧ (wayD m f r).showable = true ∧ (wayD m f r).leavesShort 40 = true ∧ (wayD m f r).bulk ≤ 52 := by
  simp only [nmOk, Bool.and_eq_true, decide_eq_true_eq] at hm hf
  refine ⟨?_, ?_, ?_, ?_⟩
  · rw [wayD, PyData.shown]
    refine sOk_tup fun t ht => ?_
    obtain ⟨x, hx, rfl⟩ := shownAll_mem ht
    rcases List.mem_cons.mp hx with rfl | hx
    · exact hm.1.2
    rcases List.mem_cons.mp hx with rfl | hx
    · exact hf.1.2
    obtain ⟨k, hk, rfl⟩ := List.mem_map.mp hx
    exact (small_int (hr k hk)).1
  · rw [wayD, PyData.showable]
    refine showableAll_of fun x hx => ?_
    rcases List.mem_cons.mp hx with rfl | hx
    · rfl
    rcases List.mem_cons.mp hx with rfl | hx
    · rfl
    obtain ⟨k, hk, rfl⟩ := List.mem_map.mp hx
    exact (small_int (hr k hk)).2.1
  · rw [wayD, PyData.leavesShort]
    refine leavesAll_of fun x hx => ?_
    rcases List.mem_cons.mp hx with rfl | hx
    · exact hm.2
    rcases List.mem_cons.mp hx with rfl | hx
    · exact hf.2
    obtain ⟨k, hk, rfl⟩ := List.mem_map.mp hx
    exact (small_int (hr k hk)).2.2
  · rw [wayD, PyData.bulk, PyData.bulkAll, PyData.bulkAll, PyData.bulk, PyData.bulk]
    have := bulkAll_of (b := 0) (xs := r.map nD) fun x hx => by
      obtain ⟨k, hk, rfl⟩ := List.mem_map.mp hx
      exact Nat.le_refl _
    rw [List.length_map] at this
    omega
theorem reprOk_ways {m f : Str} {rs : List (List Nat)} (hm : nmOk m = true) (hf : nmOk f = true) (hr : ∀ r ∈ rs, (∀ k ∈ r, k < 4) ∧ r.length ≤ 10) (hl : rs.length ≤ 7000) : reprOk (.list (rs.map (wayD m f))) = true := by
  have hw : ∀ x ∈ rs.map (wayD m f), ∃ r ∈ rs, x = wayD m f r := fun x hx => by
    obtain ⟨r, hr, rfl⟩ := List.mem_map.mp hx
    exact ⟨r, hr, rfl⟩
  have hfit := fun r hrs => way_fit hm hf (hr r hrs).1 (hr r hrs).2
  have h1 : nd (.list (rs.map (wayD m f))) = true := by
    rw [nd, PyData.hasDict, hasDictAll_of fun x hx => by obtain ⟨r, _, rfl⟩ := hw x hx; exact (nd_way m f r).1]
    rfl
  have h2 : PyData.strOk (PyData.list (rs.map (wayD m f))).shown = true := by
    rw [PyData.shown]
    refine sOk_list fun t ht => ?_
    obtain ⟨x, hx, rfl⟩ := shownAll_mem ht
    obtain ⟨r, hrs, rfl⟩ := hw x hx
    exact (hfit r hrs).1
  have h3 : (PyData.list (rs.map (wayD m f))).showable = true := by
    rw [PyData.showable]
    refine showableAll_of fun x hx => ?_
    obtain ⟨r, hrs, rfl⟩ := hw x hx
    exact (hfit r hrs).2.1
  have h4 : (PyData.list (rs.map (wayD m f))).leavesShort 40 = true := by
    rw [PyData.leavesShort]
    refine leavesAll_of fun x hx => ?_
    obtain ⟨r, hrs, rfl⟩ := hw x hx
    exact (hfit r hrs).2.2.1
  have h5 : (PyData.list (rs.map (wayD m f))).bulk ≤ rs.length * 53 := by
    rw [PyData.bulk]
    have := bulkAll_of (b := 52) (xs := rs.map (wayD m f)) fun x hx => by
      obtain ⟨r, hrs, rfl⟩ := hw x hx
      exact (hfit r hrs).2.2.2
    rw [List.length_map] at this
    exact this
  have h6 : (PyData.list (rs.map (wayD m f))).depth ≤ 128 := by
    rw [PyData.depth]
    have := depthAll_of (b := 1) (xs := rs.map (wayD m f)) fun x hx => by
      obtain ⟨r, hrs, rfl⟩ := hw x hx
      exact Nat.le_of_eq (nd_way m f r).2
    omega
  unfold reprOk
  rw [h1, h2, h3, h4]
  simp [h6]
  omega
end K06.Pu

namespace K06.Pu
open K06 PySem Mp
/-! every use under one binder: the lists of all binders together are all uses -/
theorem filter_cons_flat {α β : Type} (q : β → α → Bool) (a : α) (us : List α) : ∀ bs : List β, (bs.flatMap fun b => (a :: us).filter (q b)).Perm (List.replicate (bs.filter (fun b => q b a)).length a ++ bs.flatMap fun b => us.filter (q b))
  | [] => List.Perm.refl _
  | b :: bs => by
    have ih := filter_cons_flat q a us bs
    rw [List.flatMap_cons, List.flatMap_cons, List.filter_cons, List.filter_cons]
    cases q b a with
    | true =>
      simp only [if_true, List.length_cons, List.replicate_succ, List.cons_append]
      refine List.Perm.cons a ?_
      refine (List.Perm.append_left _ ih).trans ?_
      rw [← List.append_assoc, ← List.append_assoc]
      exact List.Perm.append_right _ List.perm_append_comm
    | false =>
      simp only [Bool.false_eq_true, if_false]
      refine (List.Perm.append_left _ ih).trans ?_
      rw [← List.append_assoc, ← List.append_assoc]
      exact List.Perm.append_right _ List.perm_append_comm
theorem perm_by {α β : Type} (q : β → α → Bool) (bs : List β) : ∀ us : List α, (∀ a ∈ us, (bs.filter fun b => q b a).length = 1) → (bs.flatMap fun b => us.filter (q b)).Perm us
  | [], _ => by simp
  | a :: us, h => by
    have ih := perm_by q bs us fun x hx => h x (List.mem_cons_of_mem _ hx)
    refine (filter_cons_flat q a us bs).trans ?_
    rw [h a List.mem_cons_self]
    exact List.Perm.cons a ih
theorem filter_one {β : Type} (q : β → Bool) : ∀ {bs : List β} {b : β}, b ∈ bs → q b = true → bs.Pairwise (fun x y => ¬ (q x = true ∧ q y = true)) → (bs.filter q).length = 1
  | [], _, h, _, _ => by cases h
  | c :: bs, b, h, hq, hp => by
    rw [List.pairwise_cons] at hp
    by_cases hc : q c = true
    · rw [List.filter_cons_of_pos hc]
      have : bs.filter q = [] := List.filter_eq_nil_iff.mpr fun x hx hqx => hp.1 x hx ⟨hc, hqx⟩
      rw [this]
      rfl
    · rcases List.mem_cons.mp h with rfl | h
      · exact absurd hq hc
      · rw [List.filter_cons_of_neg hc]
        exact filter_one q h hq hp.2
theorem eqvAll_ints : ∀ a b : List Nat, PyData.eqvAll (a.map nD) (b.map nD) = true → a = b
  | [], [], _ => rfl
  | [], _ :: _, h => by simp [PyData.eqvAll] at h
  | _ :: _, [], h => by simp [PyData.eqvAll] at h
  | k :: a, j :: b, h => by
    rw [List.map_cons, List.map_cons, PyData.eqvAll, Bool.and_eq_true] at h
    have h1 := h.1
    rw [nD, nD, eqv_int, decide_eq_true_eq] at h1
    rw [eqvAll_ints a b h.2, show k = j from by omega]
theorem eqv_bnd {w w' m f : Str} {r r' : List Nat} (h : PyData.eqv (.tuple [.str w, wayD m f r]) (.tuple [.str w', wayD m f r']) = true) : w = w' ∧ r = r' := by
  simp only [wayD, PyData.eqv, PyData.eqvAll, Bool.and_eq_true, beq_iff_eq] at h
  exact ⟨h.1, eqvAll_ints _ _ h.2.1.2.2⟩
theorem eqv_par {m f : Str} {k k' : Nat} (h : PyData.eqv (parD m f k) (parD m f k') = true) : k = k' := by
  simp only [parD, nD, PyData.eqv, PyData.eqvAll, Bool.and_eq_true, beq_iff_eq] at h
  omega
theorem eqv_par_bnd {w m f : Str} {k : Nat} {r : List Nat} : ¬ PyData.eqv (parD m f k) (.tuple [.str w, wayD m f r]) = true := by
  simp [parD, wayD, nD, PyData.eqv, PyData.eqvAll]
theorem eqv_bnd_par {w m f : Str} {k : Nat} {r : List Nat} : ¬ PyData.eqv (.tuple [.str w, wayD m f r]) (parD m f k) = true := by
  simp [parD, wayD, nD, PyData.eqv, PyData.eqvAll]
/-- alike binders are one -/
theorem bnd_eq {m f : Str} {g : Fu} {b b' : D} {x x' : Str} (h : Bnd m f g b x) (h' : Bnd m f g b' x') (he : PyData.eqv b b' = true) : b = b' := by
  cases h <;> cases h'
  · rw [eqv_par he]
  · exact absurd he eqv_par_bnd
  · exact absurd he eqv_par_bnd
  · exact absurd he eqv_par_bnd
  · exact absurd he eqv_bnd_par
  · rw [(eqv_bnd he).2]
  · exact absurd (eqv_bnd he).1 (by simp)
  · exact absurd (eqv_bnd he).1 (by simp)
  · exact absurd he eqv_bnd_par
  · exact absurd (eqv_bnd he).1 (by simp)
  · rw [(eqv_bnd he).2]
  · exact absurd (eqv_bnd he).1 (by simp)
  · exact absurd he eqv_bnd_par
  · exact absurd (eqv_bnd he).1 (by simp)
  · exact absurd (eqv_bnd he).1 (by simp)
  · rw [(eqv_bnd he).2]
theorem rows_mem : ∀ {n : Nat} {Γ : List Str} {d : D}, WF n Γ d → ∀ r, IsAt d r → r ∈ rows n d
  | 0, _, _, h, _, _ => h.elim
  | n + 1, Γ, d, h, [], _ => by
    rw [rows]
    exact List.mem_cons_self
  | n + 1, Γ, d, h, k :: r, ha => by
    obtain ⟨h1, h2, h2', h3, h4⟩ := h
    obtain ⟨_, p, hp, ha⟩ := ha
    rw [rows]
    refine List.mem_cons_of_mem _ (List.mem_flatMap.mpr ⟨(p, k), List.mk_mem_zipIdx_iff_getElem?.mpr hp, ?_⟩)
    exact List.mem_map.mpr ⟨r, rows_mem (h4 k p hp) r ha, rfl⟩
theorem rows_nodup : ∀ {n : Nat} {d : D}, (rows n d).Nodup
  | 0, _ => List.nodup_nil
  | n + 1, d => by
    rw [rows, List.nodup_cons]
    refine ⟨fun h => ?_, ?_⟩
    · obtain ⟨p, _, hp⟩ := List.mem_flatMap.mp h
      obtain ⟨q, _, hq⟩ := List.mem_map.mp hp
      cases hq
    · unfold List.Nodup
      rw [List.pairwise_flatMap]
      refine ⟨fun p _ => ?_, ?_⟩
      · exact List.pairwise_map.mpr ((rows_nodup (n := n) (d := p.1)).imp fun h h' => h (List.cons.inj h').2)
      · have hz : ((pts d).zipIdx.map (·.2)).Nodup := by
          rw [List.zipIdx_map_snd]
          exact List.nodup_range'
        refine (List.pairwise_map.mp hz).imp fun h x hx y hy he => ?_
        obtain ⟨_, _, rfl⟩ := List.mem_map.mp hx
        obtain ⟨_, _, rfl⟩ := List.mem_map.mp hy
        exact h (List.cons.inj he).1
theorem rows_small : ∀ {n : Nat} {Γ : List Str} {d : D}, WF n Γ d → ∀ r ∈ rows n d, ∀ k ∈ r, k < 4
  | 0, _, _, h, _, _ => h.elim
  | n + 1, Γ, d, h, r, hr => by
    obtain ⟨h1, h2, h2', h3, h4⟩ := h
    rw [rows] at hr
    rcases List.mem_cons.mp hr with rfl | hr
    · intro k hk
      cases hk
    · obtain ⟨p, hp, hr⟩ := List.mem_flatMap.mp hr
      obtain ⟨q, hq, rfl⟩ := List.mem_map.mp hr
      have hat := zipIdx_at hp
      intro k hk
      rcases List.mem_cons.mp hk with rfl | hk
      · have := (List.getElem?_eq_some_iff.mp hat).1
        omega
      · exact rows_small (h4 _ _ hat) q hq k hk
theorem bndK_bnd {m f : Str} {g : Fu} {n : Nat} {Γ : List Str} (hw : WF n Γ g.2.2) (hn : n ≤ 10) {r : List Nat} (ha : IsAt g.2.2 r) {b : D × Str} (hb : b ∈ bndK m f (kd (atR g.2.2 r)) r) : Bnd m f g b.1 b.2 := by
  obtain ⟨hE, hl⟩ := hw.isE ha
  unfold bndK at hb
  split at hb
  · rename_i x hk
    rw [List.mem_singleton.mp hb]
    exact .lt ha hE (by omega) hk
  · rename_i x y hk
    rcases List.mem_cons.mp hb with rfl | hb
    · exact .cnt ha hE (by omega) hk
    · rw [List.mem_singleton.mp hb]
      exact .sum ha hE (by omega) hk
  · cases hb
theorem allB_bnd {m f : Str} {g : Fu} {n : Nat} {Γ : List Str} (hw : WF n Γ g.2.2) (hn : n ≤ 10) {b : D × Str} (hb : b ∈ allB m f g (rows n g.2.2)) : Bnd m f g b.1 b.2 := by
  rcases List.mem_append.mp hb with hb | hb
  · obtain ⟨p, hp, rfl⟩ := List.mem_map.mp hb
    exact .par (zipIdx_at hp)
  · obtain ⟨r, hr, hb⟩ := List.mem_flatMap.mp hb
    exact bndK_bnd hw hn (rows_at hw r hr).1 hb
theorem allB_nodup {m f : Str} {g : Fu} {n : Nat} {Γ : List Str} (hw : WF n Γ g.2.2) : (allB m f g (rows n g.2.2)).Pairwise fun x y => x.1 ≠ y.1 := by
  unfold allB
  have ne_of : ∀ {a b : D}, (PyData.eqv a b = true → False) → PyData.hasDict a = false → a ≠ b := fun h hd e => h (e ▸ eqv_self _ hd)
  have pd : ∀ k, PyData.hasDict (parD m f k) = false := fun k => by simpa [nd] using (nd_par m f k).1
  have bd : ∀ w r, PyData.hasDict (.tuple [.str w, wayD m f r]) = false := fun w r => by simpa [nd] using (nd_bnd w m f r).1
  have hK : ∀ {κ : Kd} {r : List Nat} {b : D × Str}, b ∈ bndK m f κ r → ∃ w, b.1 = .tuple [.str w, wayD m f r] := by
    intro κ r b hb
    unfold bndK at hb
    split at hb
    · rw [List.mem_singleton.mp hb]
      exact ⟨_, rfl⟩
    · rcases List.mem_cons.mp hb with rfl | hb
      · exact ⟨_, rfl⟩
      · rw [List.mem_singleton.mp hb]
        exact ⟨_, rfl⟩
    · cases hb
  rw [List.pairwise_append]
  refine ⟨?_, ?_, ?_⟩
  · rw [List.pairwise_map]
    have hz : (g.2.1.zipIdx.map (·.2)).Nodup := by
      rw [List.zipIdx_map_snd]
      exact List.nodup_range'
    exact (List.pairwise_map.mp hz).imp fun h => ne_of (fun e => h (eqv_par e)) (pd _)
  · rw [List.pairwise_flatMap]
    refine ⟨fun r _ => ?_, rows_nodup.imp fun h x hx y hy => ?_⟩
    · unfold bndK
      split
      · exact List.pairwise_singleton _ _
      · refine List.pairwise_pair.mpr (ne_of (fun e => ?_) (bd _ _))
        exact absurd (eqv_bnd e).1 (by simp)
      · exact List.Pairwise.nil
    · obtain ⟨w, hw⟩ := hK hx
      obtain ⟨w', hw'⟩ := hK hy
      rw [hw, hw']
      exact ne_of (fun e => h (eqv_bnd e).2) (bd _ _)
  · intro x hx y hy
    obtain ⟨p, hp, rfl⟩ := List.mem_map.mp hx
    obtain ⟨r, hr, hy⟩ := List.mem_flatMap.mp hy
    obtain ⟨w', hw'⟩ := hK hy
    rw [hw']
    exact ne_of (fun e => eqv_par_bnd e) (pd _)
/-- what a name leads to is a binder -/
theorem envAt_in {m f : Str} {g : Fu} {n : Nat} {Γ : List Str} (hw : WF n Γ g.2.2) {x : Str} {v : D} : ∀ rr : List Nat, IsAt g.2.2 rr.reverse → envAt m f g.2.2 [] (rho0 m f g.2.1) rr.reverse x = some v → ∃ y, (v, y) ∈ allB m f g (rows n g.2.2)
  | [], _, h => by
    have hm : ∀ (l : List (Str × Nat)) (ρ : Rho), l.foldl (fun ρ p => ρ.set p.1 (parD m f p.2)) ρ x = some v → (∃ p ∈ l, v = parD m f p.2) ∨ ρ x = some v := by
      intro l
      induction l with
      | nil => exact fun _ h => .inr h
      | cons b l ih =>
        intro ρ hb
        rw [List.foldl_cons] at hb
        rcases ih _ hb with ⟨p, hp, h⟩ | h
        · exact .inl ⟨p, List.mem_cons_of_mem _ hp, h⟩
        · unfold Rho.set at h
          by_cases hbx : b.1 = x
          · rw [if_pos hbx] at h
            exact .inl ⟨b, List.mem_cons_self, (Option.some.inj h).symm⟩
          · rw [if_neg hbx] at h
            exact .inr h
    rcases hm g.2.1.zipIdx _ h with ⟨p, hp, rfl⟩ | h
    · exact ⟨p.1, List.mem_append_left _ (List.mem_map.mpr ⟨p, hp, rfl⟩)⟩
    · cases h
  | k :: rr, ha, h => by
    rw [List.reverse_cons] at ha h
    rw [envAt_snoc, List.nil_append] at h
    have ih := envAt_in hw (x := x) (v := v) (m := m) (f := f) rr ha.pre
    have hr := rows_mem hw _ ha.pre
    rcases (hw.isE ha.pre).1.form2 with ⟨y, hk⟩ | ⟨y, z, hk⟩ | ⟨_, _, _, _, _, g3, g4⟩
    · rw [hk] at h
      by_cases hk1 : k = 1
      · subst hk1
        replace h : (if y = x then some _ else envAt m f g.2.2 [] (rho0 m f g.2.1) rr.reverse x) = some v := h
        by_cases hyx : y = x
        · rw [if_pos hyx] at h
          cases h
          exact ⟨y, List.mem_append_right _ (List.mem_flatMap.mpr ⟨_, hr, by rw [hk]; exact List.mem_cons_self⟩)⟩
        · rw [if_neg hyx] at h
          exact ih h
      · rw [upd_else (fun _ _ h => hk1 h) (fun _ _ h _ => by cases h)] at h
        exact ih h
    · rw [hk] at h
      by_cases hk1 : k = 2
      · subst hk1
        replace h : (if z = x then some _ else if y = x then some _ else envAt m f g.2.2 [] (rho0 m f g.2.1) rr.reverse x) = some v := h
        by_cases hzx : z = x
        · rw [if_pos hzx] at h
          cases h
          exact ⟨z, List.mem_append_right _ (List.mem_flatMap.mpr ⟨_, hr, by rw [hk]; exact List.mem_cons_of_mem _ List.mem_cons_self⟩)⟩
        · rw [if_neg hzx] at h
          by_cases hyx : y = x
          · rw [if_pos hyx] at h
            cases h
            exact ⟨y, List.mem_append_right _ (List.mem_flatMap.mpr ⟨_, hr, by rw [hk]; exact List.mem_cons_self⟩)⟩
          · rw [if_neg hyx] at h
            exact ih h
      · rw [upd_else (fun _ h _ => by cases h) (fun _ _ _ h => hk1 h)] at h
        exact ih h
    · rw [upd_else (fun x h _ => g3 x h) (fun x y h _ => g4 x y h)] at h
      exact ih h
end K06.Pu

namespace K06.Pu
open K06 PySem Mp
theorem loopC_fmap {α : Type} (step : D → En → Out (Option D)) (φ : α → D) (g : α → Option D) (e : En) : ∀ xs : List α, (∀ x ∈ xs, step (φ x) e = .ok (g x) e) → loopC step (xs.map φ) e = .ok (xs.filterMap g) e
  | [], _ => rfl
  | d :: ds, h => by
    have ih := loopC_fmap step φ g e ds fun x hx => h x (List.mem_cons_of_mem _ hx)
    rw [List.map_cons, loopC, h d List.mem_cons_self, Out.bind_ok, ih, Out.bind_ok, List.filterMap_cons]
    cases g d <;> rfl
theorem loopC_mapm {α : Type} (step : D → En → Out (Option D)) (φ : α → D) (g : α → D) (e : En) (xs : List α) (h : ∀ x ∈ xs, step (φ x) e = .ok (some (g x)) e) : loopC step (xs.map φ) e = .ok (xs.map g) e := by
  rw [loopC_fmap step φ (fun x => some (g x)) e xs h]
  simp
theorem fm_filter {α β : Type} (b : α → Bool) (f : α → β) : ∀ xs : List α, (xs.filterMap fun x => if b x then some (f x) else none) = (xs.filter b).map f
  | [] => rfl
  | x :: xs => by
    rw [List.filterMap_cons, List.filter_cons]
    cases b x <;> simp [fm_filter b f xs]
theorem bf_repr {xs : List D} (h : reprOk (.list xs) = true) : bf .repr [.list xs] = some (.str (PyData.list xs).shown) := by
  simp [bf, isSeq, h]
theorem bf_sorted {xs : List D} (h : sortOk xs = true) : bf .sorted [.list xs] = some (.list (sortD xs)) := by
  simp [bf, h]
structure Ok2 (p : Pg) (m f : Str) (g : Fu) (n : Nat) : Prop where
  ok : Ok p m f g
  fnd : Fnd2 p m f g
  wf : WF n g.2.1 g.2.2
  nd : g.2.1.Nodup
  n : n ≤ 6
  nm : nmOk m = true
  nf : nmOk f = true
def usR (g : Fu) (n : Nat) : List (List Nat) := (rows n g.2.2).filter fun r => (kd (atR g.2.2 r)).isUse
def nv (m f : Str) (g : Fu) (r : List Nat) : D := (envAt m f g.2.2 [] (rho0 m f g.2.1) r (kd (atR g.2.2 r)).nm).getD .none
def dueD (m f : Str) (g : Fu) (r : List Nat) : D := .tuple [wayD m f r, nv m f g r]
theorem Ok2.use {p : Pg} {m f : Str} {g : Fu} {n : Nat} (h : Ok2 p m f g n) {r : List Nat} (hr : r ∈ usR g n) : ∃ x, IsAt g.2.2 r ∧ r.length < n ∧ atR g.2.2 r = .tuple [.str "use", .str x] ∧ envAt m f g.2.2 [] (rho0 m f g.2.1) r x = some (nv m f g r) := by
  obtain ⟨hr, hu⟩ := List.mem_filter.mp hr
  obtain ⟨ha, hl⟩ := rows_at h.wf r hr
  obtain ⟨n', Γ', hn, hw, hs⟩ := WF.at (m := m) (f := f) [] h.wf ha
  rcases (h.wf.isE ha).1.form with ⟨x, hk, hps, hd⟩ | ⟨hd, t, he, hu', hk⟩
  · refine ⟨x, ha, hl, hd, ?_⟩
    have hx : (envAt m f g.2.2 [] (rho0 m f g.2.1) r x).isSome = true := by
      refine hs _ (fun y hy => ?_) x ?_
      · obtain ⟨k, _, _, hk⟩ := rho0_some (m := m) (f := f) h.nd hy
        rw [hk]
        rfl
      · cases n' with
        | zero => exact hw.elim
        | succ n' => exact hw.2.1 x hk
    rw [nv, hk]
    obtain ⟨v, hv⟩ := Option.isSome_iff_exists.mp hx
    simp [Kd.nm, hv]
  · exfalso
    cases hkk : kd (atR g.2.2 r) with
    | use x => exact hk x hkk
    | _ => rw [hkk] at hu; cases hu
theorem at_right {p : Pg} {m f : Str} {g : Fu} {n : Nat} (h : Ok2 p m f g n) : At (n + 6) 31 [progD p, .str m, .str f] (.ok (.bool true) []) := by
  refine at_of (d := d__law_right) rfl fun N hN => ?_
  have hn := h.n
  have hrl := rows_len h.wf
  have hpow : 4 ^ n ≤ 4 ^ 6 := Nat.pow_le_pow_right (by omega) hn
  have hul : (usR g n).length ≤ 4 ^ n := Nat.le_trans (List.length_filter_le _ _) hrl
  have hul2 : (usR g n).length ≤ 16777216 := by omega
  have hg1 : g.1 = f := by
    obtain ⟨_, _, _, _, _, hf, _⟩ := h.fnd
    exact hf
  simp [runDf, d__law_right, at_found h.fnd N (by omega), fnD, at_lrows h.wf (by omega) N (by omega)]
  rw [loopC_fmap _ rowD (fun r => if (kd (atR g.2.2 r)).isUse then some (wayD m f r) else none) _ _ ?_]
  rotate_left
  · intro r hr
    obtain ⟨ha, hl⟩ := rows_at h.wf r hr
    have hat := at_lat ha N (by omega)
    have hadd := way_add m f r (by omega)
    rcases (h.wf.isE ha).1.form with ⟨x, hk, hps, hd⟩ | ⟨hd, t, he, hu', hk⟩
    · rw [hd] at hat
      simp [hat, hk, Kd.isUse, hadd]
    · have hk0 : (kd (atR g.2.2 r)).isUse = false := by
        cases hx : kd (atR g.2.2 r) with
        | use x => exact absurd hx (hk x)
        | _ => rfl
      rw [he] at hat
      simp [hat, hk0, hu']
  rw [fm_filter, show (rows n g.2.2).filter (fun r => (kd (atR g.2.2 r)).isUse) = usR g n from rfl]
  simp [hul2]
  rw [loopC_mapm _ (wayD m f) (dueD m f g) _ _ ?_]
  rotate_left
  · intro r hr
    obtain ⟨x, ha, hl, hd, hv⟩ := h.use hr
    have hne := at_nearest h.wf (by omega) h.nd h.ok.ps ha hd hv N (by omega)
    simp [hne, dueD]
  simp [hul2]
  rw [loopC_mapm _ (wayD m f) (nv m f g) _ _ ?_]
  rotate_left
  · intro r hr
    obtain ⟨x, ha, hl, hd, hv⟩ := h.use hr
    have hbo := at_binder_of h.ok ha (by omega) hd hv N (by omega)
    simp [hbo]
  simp [hul2]
  rw [loopC_mapm _ (dueD m f g) (nv m f g) _ _ ?_]
  rotate_left
  · intro r hr
    simp [dueD]
  have hnv : ∀ x ∈ (usR g n).map (nv m f g), Mp.nd x = true ∧ x.depth ≤ 2 := by
    intro x hx
    obtain ⟨r, hr, rfl⟩ := List.mem_map.mp hx
    obtain ⟨x, ha, hl, hd, hv⟩ := h.use hr
    exact NdR.envAt (m := m) (f := f) (r := r) (d := g.2.2) (pre := []) (NdR.rho0 m f g.2.1) x _ hv
  simp [hul2, (cmp_self_list hnv).2, at_all h.wf (by omega) h.ok.ps N (by omega)]
  generalize hL : loopF _ _ _ _ = L
  have hbs : ∀ b ∈ allB m f g (rows n g.2.2), Bnd m f g b.1 b.2 := fun b hb => allB_bnd h.wf (by omega) hb
  have hperm : ((allB m f g (rows n g.2.2)).flatMap fun b => (usR g n).filter fun r => PyData.eqv (nv m f g r) b.1).Perm (usR g n) := by
    refine perm_by (fun (b : D × Str) r => PyData.eqv (nv m f g r) b.1) _ _ fun r hr => ?_
    obtain ⟨x, ha, hl, hd, hv⟩ := h.use hr
    obtain ⟨y, hy⟩ := envAt_in h.wf (x := x) (v := nv m f g r) r.reverse (by rw [List.reverse_reverse]; exact ha) (by rw [List.reverse_reverse]; exact hv)
    have hb := hbs _ hy
    have hself : PyData.eqv (nv m f g r) (nv m f g r) = true := eqv_self _ (by
      have := hb.nd.1
      simpa [Mp.nd] using this)
    refine filter_one _ hy hself ((List.pairwise_iff_forall_sublist.mpr fun {a b} hab => ?_))
    intro ⟨h1, h2⟩
    have hpw := List.pairwise_iff_forall_sublist.mp (allB_nodup (m := m) (f := f) h.wf) hab
    have ha' := hbs a (hab.subset List.mem_cons_self)
    have hb' := hbs b (hab.subset (List.mem_cons_of_mem _ List.mem_cons_self))
    exact hpw ((bnd_eq hb ha' h1).symm.trans (bnd_eq hb hb' h2))
  have key : ∃ e', L = .ok .nx e' ∧ ∃ j9 j10 j11 j12 j15, e' = [some (progD p), some (.str m), some (.str f), some (.list ((usR g n).map (wayD m f))), some (.list ((usR g n).map (dueD m f g))), some (.list (((allB m f g (rows n g.2.2)).flatMap fun b => (usR g n).filter fun r => PyData.eqv (nv m f g r) b.1).map (wayD m f))), some (.str g.1), some (.tuple (g.2.1.map .str)), some g.2.2, j9, j10, j11, j12, none, none, j15, none] := by
    subst hL
    refine loopF_map bxD (fun q e => ∃ j9 j10 j11 j12 j15, e = [some (progD p), some (.str m), some (.str f), some (.list ((usR g n).map (wayD m f))), some (.list ((usR g n).map (dueD m f g))), some (.list ((q.flatMap fun b => (usR g n).filter fun r => PyData.eqv (nv m f g r) b.1).map (wayD m f))), some (.str g.1), some (.tuple (g.2.1.map .str)), some g.2.2, j9, j10, j11, j12, none, none, j15, none]) ⟨none, none, none, none, none, by simp⟩ ?_
    rintro done b more e hx ⟨j9, j10, j11, j12, j15, rfl⟩
    have hb := hbs b (by rw [hx]; simp)
    refine ex_step' rfl fun R hR => ?_
    rw [hx] at hperm
    have hlen := hperm.length_eq
    rw [List.flatMap_append, List.length_append, List.flatMap_cons, List.length_append] at hlen
    simp [bxD] at hR
    rw [loopC_fmap _ (dueD m f g) (fun r => if PyData.eqv (nv m f g r) b.1 then some (wayD m f r) else none) _ _ ?_] at hR
    rotate_left
    · intro r hr
      have ho := cmp_eq_of (hnv _ (List.mem_map.mpr ⟨r, hr, rfl⟩)).1 hb.nd
      simp [dueD, ho]
      cases PyData.eqv (nv m f g r) b.1 <;> simp
    rw [fm_filter] at hR
    have hfl : ((usR g n).filter fun r => PyData.eqv (nv m f g r) b.1).length ≤ (usR g n).length := List.length_filter_le _ _
    have hfl2 : ((usR g n).filter fun r => PyData.eqv (nv m f g r) b.1).length ≤ 16777215 := by omega
    have hfl3 : ((usR g n).filter fun r => PyData.eqv (nv m f g r) b.1).length ≤ 16777216 := by omega
    have huo : (P N).F 13 [progD p, b.1] = .ok (.list (((usR g n).filter fun r => PyData.eqv (nv m f g r) b.1).map (wayD m f))) [] := by
      have := at_uses_of h.ok h.wf (by omega) hb N (by omega)
      rw [usesIn_eq h.wf, List.filter_map, List.map_map] at this
      exact this
    have hno := at_name_of h.ok hb N (by omega)
    have hrp := bf_repr (reprOk_ways (m := m) (f := f) (rs := (usR g n).filter fun r => PyData.eqv (nv m f g r) b.1) h.nm h.nf (fun r hr => by
      have hr' := (List.mem_filter.mp (List.mem_filter.mp hr).1).1
      exact ⟨rows_small h.wf r hr', by have := (rows_at h.wf r hr').2; omega⟩) (by omega))
    have hr2 : List.range (2 : Int).toNat = [0, 1] := rfl
    simp [hfl3] at hR
    generalize hL : loopF _ _ _ _ = L at hR
    have key2 : ∃ e', L = .ok .nx e' ∧ ∃ j12 j15, e' = [some (progD p), some (.str m), some (.str f), some (.list ((usR g n).map (wayD m f))), some (.list ((usR g n).map (dueD m f g))), some (.list ((done.flatMap fun b => (usR g n).filter fun r => PyData.eqv (nv m f g r) b.1).map (wayD m f))), some (.str g.1), some (.tuple (g.2.1.map .str)), some g.2.2, some b.1, some (.str b.2), some (.list (((usR g n).filter fun r => PyData.eqv (nv m f g r) b.1).map (wayD m f))), j12, none, none, j15, none] := by
      subst hL
      refine loopF_map (fun i : Nat => .int (i : Int)) (fun _ e => ∃ j12 j15, e = [some (progD p), some (.str m), some (.str f), some (.list ((usR g n).map (wayD m f))), some (.list ((usR g n).map (dueD m f g))), some (.list ((done.flatMap fun b => (usR g n).filter fun r => PyData.eqv (nv m f g r) b.1).map (wayD m f))), some (.str g.1), some (.tuple (g.2.1.map .str)), some g.2.2, some b.1, some (.str b.2), some (.list (((usR g n).filter fun r => PyData.eqv (nv m f g r) b.1).map (wayD m f))), j12, none, none, j15, none]) ⟨j12, j15, by simp⟩ ?_
      rintro dn k mr e hx2 ⟨j12, j15, rfl⟩
      refine ex_step' rfl fun R hR => ?_
      simp [huo, hrp, hno, hfl2] at hR
      subst hR
      exact ⟨_, rfl, _, _, rfl⟩
    obtain ⟨e', rfl, j12, j15, rfl⟩ := key2
    have hadd : Mp.bin .add (.list ((done.flatMap fun b => (usR g n).filter fun r => PyData.eqv (nv m f g r) b.1).map (wayD m f))) (.list (((usR g n).filter fun r => PyData.eqv (nv m f g r) b.1).map (wayD m f))) = some (.list (((done ++ [b]).flatMap fun b => (usR g n).filter fun r => PyData.eqv (nv m f g r) b.1).map (wayD m f))) := by
      rw [bin_add_list, if_pos (by rw [List.length_map, List.length_map, okLen, decide_eq_true_eq]; omega)]
      simp
    simp only [List.getElem?_cons_succ, List.getElem?_cons_zero, Option.getD_some, Out.bind_ok, hadd] at hR
    simp at hR
    subst hR
    exact ⟨_, rfl, some b.1, some (.str b.2), some (.list (((usR g n).filter fun r => PyData.eqv (nv m f g r) b.1).map (wayD m f))), j12, j15, by simp⟩
  obtain ⟨e', rfl, j9, j10, j11, j12, j15, rfl⟩ := key
  have hs1 := bf_sorted (sortOk_ways (m := m) (f := f) (a := usR g n) hul2)
  have hs2 := bf_sorted (sortOk_ways (m := m) (f := f) (a := (allB m f g (rows n g.2.2)).flatMap fun b => (usR g n).filter fun r => PyData.eqv (nv m f g r) b.1) (by rw [hperm.length_eq]; exact hul2))
  rw [sortD_perm hperm] at hs2
  have hcs := (cmp_self_list (xs := sortD ((usR g n).map (wayD m f))) fun x hx => by
    have hx := List.mem_mergeSort.mp hx
    obtain ⟨r, hr, rfl⟩ := List.mem_map.mp hx
    exact ⟨(nd_way m f r).1, by rw [(nd_way m f r).2]; decide⟩).1
  simp [hs1, hs2, hcs]
end K06.Pu

namespace K06.Pu
open K06 PySem Mp
/-! draws -/
def cellsD (cs : List Int) : D := .list (cs.map .int)
def spotD (k : Int) : D := .list [.int k]
@[simp] theorem small_31 : small64 31 = true := by decide +kernel
@[simp] theorem small_7919 : small64 7919 = true := by decide +kernel
@[simp] theorem small_48271 : small64 48271 = true := by decide +kernel
@[simp] theorem small_69621 : small64 69621 = true := by decide +kernel
theorem small_of {i : Int} (h : -1152921504606846976 ≤ i ∧ i ≤ 1152921504606846976) : small64 i = true := by
  unfold small64
  rw [decide_eq_true_eq]
  omega
@[simp] theorem bin_pow1018 : Mp.bin .pow (.int 10) (.int 18) = some (.int 1000000000000000000) := by
  show (if decide ((0 : Int) ≤ 18 ∧ (18 : Int) ≤ 1000 ∧ (10 : Int).natAbs < 2 ^ 64) then some (PyData.int (10 ^ (18 : Int).toNat)) else none) = _
  rw [if_pos (by decide +kernel)]
  rfl
@[simp] theorem put_spot (k v : Int) : putOp (.list [.int k]) (.int 0) (.int v) = some (.list [.int v]) := by
  simp [putOp, L2.ixN]
theorem cell_at {cs : List Int} {k : Int} (h : 0 < cs.length) : ∃ c, index (cellsD cs) (.int (k % (cs.length : Int))) = some (.int c) := by
  have h1 : 0 ≤ k % (cs.length : Int) := Int.emod_nonneg _ (by omega)
  have h2 : k % (cs.length : Int) < cs.length := Int.emod_lt_of_pos _ (by omega)
  obtain ⟨j, hj⟩ := Int.eq_ofNat_of_zero_le h1
  rw [hj] at h2 ⊢
  have hj' : j < cs.length := by omega
  refine ⟨cs[j], ?_⟩
  rw [cellsD, index_ln, List.getElem?_map, List.getElem?_eq_getElem hj']
  rfl
theorem cell_of {n : Nat} {cs : List Int} {k : Int} (hn : 1 ≤ n) (hk : -1 ≤ k) (hk2 : k ≤ 1000000000) (hc : cs.length ≤ 1000) : ∃ v, 0 ≤ v ∧ (P n).F 15 [cellsD cs, spotD k] = .ok (.int v) [spotD (k + 1)] := by
  refine at_ex (c := 0) (Q := fun R => ∃ v, 0 ≤ v ∧ R = .ok (.int v) [spotD (k + 1)]) (d := d__law_cell) rfl (fun n _ => ?_) n hn
  have hs1 : small64 (k + 1) = true := small_of (by omega)
  have hfin : ∀ b : Int, 0 ≤ b * 48271 % 2147483647 * 69621 % 2147483629 / 7 := fun b => by
    have := Int.emod_nonneg (b * 48271 % 2147483647 * 69621) (b := 2147483629) (by decide)
    omega
  cases hcs : cs with
  | nil =>
    refine ⟨_, hfin (31 * (k + 1) * (k + 1) + 7919 * (k + 1)), ?_⟩
    simp [runDf, d__law_cell, cellsD, spotD, hs1]
  | cons c0 cr =>
    rw [← hcs]
    have hpos : 0 < cs.length := by rw [hcs]; simp
    have hbl : bf .len [cellsD cs] = some (.int cs.length) := by
      rw [cellsD, bf_len_l, List.length_map]
    obtain ⟨c, hci⟩ := cell_at (cs := cs) (k := k + 1) hpos
    have hp1 : (0 : Int) < cs.length := by omega
    have hp2 : (cs.length : Int) < 1073741824 := by omega
    have hd0 : 0 ≤ (k + 1) / (cs.length : Int) := Int.ediv_nonneg (by omega) (by omega)
    have hd1 : (k + 1) / (cs.length : Int) ≤ k + 1 := Int.ediv_le_self _ (by omega)
    have hs2 : small64 (c % 2147483629) = true := by
      have h1 := Int.emod_nonneg c (b := 2147483629) (by decide)
      have h2 := Int.emod_lt_of_pos c (b := 2147483629) (by decide)
      exact small_of (by omega)
    have hmut : ∀ a, isMut (.list a) = true := fun _ => rfl
    have hr1 : (-4611686018427387904 : Int) ≤ (k + 1) / (cs.length : Int) := by omega
    have hr2 : (k + 1) / (cs.length : Int) < 4611686018427387904 := by omega
    by_cases hbig : 1000000000000000000 ≤ c
    · by_cases hsm : (k + 1) / (cs.length : Int) < 60
      · suffices hh : ∀ R, runDf (P n) d__law_cell [cellsD cs, spotD k] = R → ∃ v, 0 ≤ v ∧ R = .ok (.int v) [spotD (k + 1)] from hh _ rfl
        intro R hR
        simp [runDf, d__law_cell, spotD, hs1, hbl, hci, hpos, hp1, hp2, hbig, hsm, hr1, hr2] at hR
        generalize hL : loopF _ _ _ _ = L at hR
        have key : ∃ e', L = .ok .nx e' ∧ ∃ (w b : Int) (j : Option D), e' = [some (cellsD cs), some (spotD (k + 1)), some (.int (k + 1)), some (.int b), some (.int w), j] := by
          subst hL
          refine loopF_map (fun i : Nat => .int (i : Int)) (fun _ e => ∃ (w b : Int) (j : Option D), e = [some (cellsD cs), some (spotD (k + 1)), some (.int (k + 1)), some (.int b), some (.int w), j]) ⟨c, _, none, rfl⟩ ?_
          rintro dn q mr e hx2 ⟨w, b, j, rfl⟩
          refine ex_step' rfl fun R hR => ?_
          simp at hR
          subst hR
          exact ⟨_, rfl, _, _, _, rfl⟩
        obtain ⟨e', rfl, w, b, j, rfl⟩ := key
        by_cases hw : 0 < w
        · simp [hw] at hR
          subst hR
          exact ⟨_, Int.emod_nonneg w (by decide), rfl⟩
        · simp [hw, hbl, hpos, hp1, hp2, hci, hs2] at hR
          subst hR
          exact ⟨_, hfin _, rfl⟩
      · suffices hh : ∀ R, runDf (P n) d__law_cell [cellsD cs, spotD k] = R → ∃ v, 0 ≤ v ∧ R = .ok (.int v) [spotD (k + 1)] from hh _ rfl
        intro R hR
        simp [runDf, d__law_cell, spotD, hs1, hbl, hci, hpos, hp1, hp2, hbig, hsm, hs2] at hR
        subst hR
        exact ⟨_, hfin _, rfl⟩
    · suffices hh : ∀ R, runDf (P n) d__law_cell [cellsD cs, spotD k] = R → ∃ v, 0 ≤ v ∧ R = .ok (.int v) [spotD (k + 1)] from hh _ rfl
      intro R hR
      simp [runDf, d__law_cell, spotD, hs1, hbl, hci, hpos, hp1, hp2, hbig, hs2] at hR
      subst hR
      exact ⟨_, hfin _, rfl⟩
end K06.Pu

namespace K06.Pu
open K06 PySem Mp
def letters : List Nat := ("qzbmxkcwhvjpgyld" : Str).cps.toList
def tbl : Nat → List Str
  | 0 => letters.map fun c => ⟨#[c]⟩
  | 1 => letters.map fun c => ("n" : Str) ++ ⟨#[c]⟩ ++ "or"
  | _ => ((List.range 8).map fun (k : Nat) => L2.cutS "graphite" none (some ((k : Int) + 1))) ++ (List.range 8).map fun (k : Nat) => L2.cutS "sandwich" none (some ((k : Int) + 1))
theorem tbl_len : ((List.range 3).all fun j => (tbl j).length == 16) = true := by decide +kernel
theorem tbl_nd : ((List.range 3).all fun j => decide (tbl j).Nodup) = true := by decide +kernel
theorem step_nd : ((List.range 16).all fun a => (List.range 8).all fun b => decide (((List.range 5).map fun k => (a + (2 * b + 1) * k) % 16).Nodup)) = true := by decide +kernel
theorem tbl_nm : ((List.range 3).all fun j => (tbl j).all nmOk) = true := by decide +kernel
def nms (j a b : Nat) : List Str := (List.range 16).map fun k => (tbl j)[(a + (2 * b + 1) * k) % 16]?.getD ⟨#[]⟩
theorem tbl_at {j : Nat} (hj : j < 3) (i : Nat) (hi : i < 16) : ∃ x, (tbl j)[i]? = some x ∧ nmOk x = true := by
  have h1 := List.all_eq_true.mp tbl_len j (List.mem_range.mpr hj)
  have h2 := List.all_eq_true.mp tbl_nm j (List.mem_range.mpr hj)
  have h3 : (tbl j).length = 16 := by simpa using h1
  refine ⟨(tbl j)[i], List.getElem?_eq_getElem (by omega), List.all_eq_true.mp h2 _ (List.getElem_mem _)⟩
theorem nms_at {j a b k : Nat} (hj : j < 3) (hk : k < 16) : ∃ x, (nms j a b)[k]? = some x ∧ nmOk x = true ∧ (tbl j)[(a + (2 * b + 1) * k) % 16]? = some x := by
  obtain ⟨x, hx, hn⟩ := tbl_at hj ((a + (2 * b + 1) * k) % 16) (by omega)
  refine ⟨x, ?_, hn, hx⟩
  rw [nms, List.getElem?_map, List.getElem?_range hk]
  simp [hx]
theorem nms_ne {j a b k k' : Nat} {x : Str} (hj : j < 3) (ha : a < 16) (hb : b < 8) (hk : k < 5) (hk' : k' < 5) (h : (nms j a b)[k]? = some x) (h' : (nms j a b)[k']? = some x) : k = k' := by
  obtain ⟨y, hy, _, ht⟩ := nms_at (a := a) (b := b) hj (show k < 16 by omega)
  obtain ⟨y', hy', _, ht'⟩ := nms_at (a := a) (b := b) hj (show k' < 16 by omega)
  obtain rfl := Option.some.inj (hy.symm.trans h)
  obtain rfl := Option.some.inj (hy'.symm.trans h')
  have h1 := List.all_eq_true.mp tbl_nd j (List.mem_range.mpr hj)
  have h1 : (tbl j).Nodup := by simpa using h1
  have h2 := List.all_eq_true.mp (List.all_eq_true.mp step_nd a (List.mem_range.mpr ha)) b (List.mem_range.mpr hb)
  have h2 : ((List.range 5).map fun k => (a + (2 * b + 1) * k) % 16).Nodup := of_decide_eq_true h2
  have inj : ∀ {α : Type} {l : List α} {i i' : Nat} {z : α}, l.Nodup → l[i]? = some z → l[i']? = some z → i = i' := by
    intro α l i i' z hn hi hi'
    obtain ⟨g, e⟩ := List.getElem?_eq_some_iff.mp hi
    obtain ⟨g', e'⟩ := List.getElem?_eq_some_iff.mp hi'
    rcases Nat.lt_trichotomy i i' with hlt | heq | hgt
    · exact absurd (e.trans e'.symm) (List.pairwise_iff_getElem.mp hn i i' g g' hlt)
    · exact heq
    · exact absurd (e'.trans e.symm) (List.pairwise_iff_getElem.mp hn i' i g' g hgt)
  have h3 := inj h1 ht ht'
  refine inj h2 (z := (a + (2 * b + 1) * k) % 16) ?_ ?_
  · rw [List.getElem?_map, List.getElem?_range hk]
    rfl
  · rw [List.getElem?_map, List.getElem?_range hk', h3]
    rfl
theorem index_list_str {xs : List Str} {k : Nat} {x : Str} (h : xs[k]? = some x) : index (.list (xs.map .str)) (.int (k : Int)) = some (.str x) := by
  rw [index_ln, List.getElem?_map, h]
  rfl
theorem slice_str (z : Str) (lo hi : Option Int) : Mp.slice (.str z) lo hi = if okLen z.length then some (.str (L2.cutS z lo hi)) else none := rfl
theorem l_n : ("n" : Str).length = 1 := by decide +kernel
theorem l_or : ("or" : Str).length = 2 := by decide +kernel
theorem l_gr : ("graphite" : Str).length = 8 := by decide +kernel
theorem l_sa : ("sandwich" : Str).length = 8 := by decide +kernel
theorem l_le : letters.length ≤ 16777216 := by decide +kernel
theorem ok8 : okLen 8 = true := by decide +kernel
theorem letters_eq : ("qzbmxkcwhvjpgyld" : Str).cps.toList = letters := rfl
theorem add_n (c : Nat) : Mp.bin .add (.str "n") (.str ⟨#[c]⟩) = some (.str (("n" : Str) ++ ⟨#[c]⟩)) := by
  rw [bin_add_str, l_n]
  exact if_pos (by simp [okLen, Str.length])
theorem l_n1 (c : Nat) : (("n" : Str) ++ ⟨#[c]⟩).length = 2 := by
  show (("n" : Str).cps ++ #[c]).size = 2
  rw [Array.size_append]
  have : ("n" : Str).cps.size = 1 := l_n
  rw [this]
  rfl
theorem add_or (c : Nat) : Mp.bin .add (.str (("n" : Str) ++ ⟨#[c]⟩)) (.str "or") = some (.str (("n" : Str) ++ ⟨#[c]⟩ ++ "or")) := by
  rw [bin_add_str, l_or, l_n1]
  exact if_pos (by decide +kernel)
theorem sl_gr (k : Nat) : Mp.slice (.str "graphite") none (some ((k : Int) + 1)) = some (.str (L2.cutS "graphite" none (some ((k : Int) + 1)))) := by
  rw [slice_str, l_gr]
  exact if_pos ok8
theorem sl_sa (k : Nat) : Mp.slice (.str "sandwich") none (some ((k : Int) + 1)) = some (.str (L2.cutS "sandwich" none (some ((k : Int) + 1)))) := by
  rw [slice_str, l_sa]
  exact if_pos ok8
theorem tbl_ix (m : Nat) : index (.list [.list (letters.map fun c => .str ⟨#[c]⟩), .list (letters.map fun c => .str (("n" : Str) ++ ⟨#[c]⟩ ++ "or")), .list (((List.range 8).map fun (k : Nat) => .str (L2.cutS "graphite" none (some ((k : Int) + 1)))) ++ (List.range 8).map fun (k : Nat) => .str (L2.cutS "sandwich" none (some ((k : Int) + 1))))]) (.int ((m : Int) % 3)) = some (.list ((tbl (m % 3)).map .str)) := by
  rw [show (m : Int) % 3 = ((m % 3 : Nat) : Int) from by omega, index_ln]
  have : m % 3 = 0 ∨ m % 3 = 1 ∨ m % 3 = 2 := by omega
  rcases this with h | h | h <;> rw [h] <;> simp [tbl, Function.comp_def]
theorem itemsK_16 : itemsK .rng [.int 16] = some ((List.range 16).map fun (i : Nat) => .int i) := by simp [itemsK]
theorem execs_split (P : Px) (k : Nat) : ∀ (ss : List Mp.St) (e : En), Mp.execs P ss e = (Mp.execs P (ss.take k) e).bind fun f e1 => match f with | .nx => Mp.execs P (ss.drop k) e1 | f => .ok f e1 := by
  induction k with
  | zero => intro ss e; rfl
  | succ k ih =>
    intro ss e
    cases ss with
    | nil => rfl
    | cons a ss =>
      rw [Mp.execs, List.take_succ_cons, List.drop_succ_cons, Mp.execs]
      cases Mp.exec P a e with
      | ok f e1 =>
        cases f with
        | nx => exact ih ss e1
        | _ => rfl
      | _ => rfl
theorem ev_bin {p : Px} {o : Bo} {a b : Ex} {e : En} {x y z : D} (ha : ev p a e = .ok x e) (hb : ev p b e = .ok y e) (hz : Mp.bin o x y = some z) : ev p (.bin o a b) e = .ok z e := by
  rw [ev, ha, Out.bind_ok, hb, Out.bind_ok, hz]
  rfl
theorem ev_idx {p : Px} {a b : Ex} {e : En} {x y z : D} (ha : ev p a e = .ok x e) (hb : ev p b e = .ok y e) (hz : index x y = some z) : ev p (.idx a b) e = .ok z e := by
  rw [ev, ha, Out.bind_ok, hb, Out.bind_ok, hz]
  rfl
theorem ev_lit {p : Px} {e : En} (d : D) : ev p (.lit d) e = .ok d e := by rw [ev]
theorem ev_var {p : Px} {e : En} {d : D} (i : Nat) (h : e[i]?.getD none = some d) : ev p (.var i) e = .ok d e := by
  rw [ev, h]
  rfl
theorem bfd (i j : Int) (h1 : 0 < j) (h2 : j < 1073741824) : Mp.bin .fdiv (.int i) (.int j) = some (.int (i / j)) := by simp [h1, h2]
theorem bmd (i j : Int) (h1 : 0 < j) : Mp.bin .mod (.int i) (.int j) = some (.int (i % j)) := by simp [h1]
theorem bml (i j : Int) (h : small64 i = true) : Mp.bin .mul (.int i) (.int j) = some (.int (i * j)) := by simp [h]
theorem ev_lc_map {α : Type} {p : Px} {elt : Ex} {i : Nat} {k : IK} {its : List Ex} {own : List Nat} {e : En} {ds : List D} (xs : List α) (φ g : α → D) (hits : evs p its e = .ok ds e) (hk : itemsK k ds = some (xs.map φ)) (hstep : ∀ x ∈ xs, ev p elt (setE (wipeE e own) i (φ x)) = .ok (g x) (setE (wipeE e own) i (φ x)))
    (hw : ∀ x ∈ xs, wipeE (setE (wipeE e own) i (φ x)) own = wipeE e own) (hlen : xs.length ≤ 16777216) (hback : backE e own (wipeE e own) = e) : ev p (.lc elt (.nm i) k its [] own) e = .ok (.list (xs.map g)) e := by
  rw [ev, hits, Out.bind_ok]
  simp only [hk]
  rw [loopC_mapm _ φ g _ xs (fun x hx => by
    have h := hstep x hx
    have hw := hw x hx
    simp only [Mp.assign]
    rw [evAnd, Out.bind_ok]
    simp only [onBool]
    rw [h, Out.bind_ok, hw])]
  simp only [Out.noEx, Out.bind_ok]
  rw [if_pos (by rw [List.length_map, okLen, decide_eq_true_eq]; exact hlen), hback]
theorem execs_ret {p : Px} {a : Ex} {e : En} {d : D} (h : ev p a e = .ok d e) : Mp.execs p [.ret a] e = .ok (.ret d) e := by
  rw [Mp.execs, Mp.exec, h]
  rfl
theorem names_tail (n m j : Nat) (hj : j < 3) (Y : Option D) (T : List Str) (hT : T = tbl j) : Mp.execs (P n) (d__law_names.body.drop 4) [some (.int (m : Int)), Y, some (.list (T.map .str)), none, none] = .ok (.ret (.list ((List.range 16).map fun k => .str (T[(m / 3 + (2 * ((m / 48) % 8) + 1) * k) % 16]?.getD ⟨#[]⟩)))) [some (.int (m : Int)), Y, some (.list (T.map .str)), none, none] := by
  have hs2 : small64 2 = true := by decide +kernel
  have hsb : small64 (2 * ((m : Int) / 48 % 8) + 1) = true := small_of (by omega)
  refine execs_ret (ev_lc_map (List.range 16) (fun k : Nat => .int (k : Int)) _ (ds := [.int 16]) ?_ itemsK_16 ?_ (fun _ _ => rfl) (by simp) rfl)
  · rw [evs, ev_lit, Out.bind_ok, evs]
    rfl
  · intro k hk
    have hk := List.mem_range.mp hk
    obtain ⟨x, hx, _⟩ := tbl_at hj ((m / 3 + (2 * ((m / 48) % 8) + 1) * k) % 16) (by omega)
    rw [← hT] at hx
    have hi : index (.list (T.map .str)) (.int (((m : Int) / 3 + (2 * ((m : Int) / 48 % 8) + 1) * (k : Int)) % 16)) = some (.str x) := by
      have e : ((m : Int) / 3 + (2 * ((m : Int) / 48 % 8) + 1) * (k : Int)) % 16 = (((m / 3 + (2 * ((m / 48) % 8) + 1) * k) % 16 : Nat) : Int) := by
        simp
      rw [e]
      exact index_list_str hx
    rw [hx]
    exact ev_idx (ev_var 2 rfl) (ev_bin (ev_bin (ev_bin (ev_var 0 rfl) (ev_lit _) (bfd _ _ (by decide) (by decide))) (ev_bin (ev_bin (ev_bin (ev_lit _) (ev_bin (ev_bin (ev_var 0 rfl) (ev_lit _) (bfd _ _ (by decide) (by decide))) (ev_lit _) (bmd _ _ (by decide))) (bml _ _ hs2)) (ev_lit _) rfl) (ev_var 3 rfl) (bml _ _ hsb)) rfl) (ev_lit _) (bmd _ _ (by decide))) hi
theorem names_head (n m : Nat) : Mp.execs (P n) (d__law_names.body.take 4) [some (.int (m : Int)), none, none, none, none] = .ok .nx [some (.int (m : Int)), some (.str "qzbmxkcwhvjpgyld"), some (.list ((tbl (m % 3)).map .str)), none, none] := by
  have hadd := add_n
  have hadd2 := add_or
  have hsg := sl_gr
  have hss := sl_sa
  have hll := l_le
  suffices hh : ∀ R, Mp.execs (P n) (d__law_names.body.take 4) [some (.int (m : Int)), none, none, none, none] = R → R = .ok .nx [some (.int (m : Int)), some (.str "qzbmxkcwhvjpgyld"), some (.list ((tbl (m % 3)).map .str)), none, none] from hh _ rfl
  intro R hR
  simp [d__law_names, signsOf] at hR
  rw [letters_eq] at hR
  rw [loopC_mapm _ (fun c => .str ⟨#[c]⟩) (fun c => .str ⟨#[c]⟩) _ letters (fun c _ => by simp)] at hR
  simp [hll] at hR
  rw [letters_eq] at hR
  rw [loopC_mapm _ (fun c => .str ⟨#[c]⟩) (fun c => .str (("n" : Str) ++ ⟨#[c]⟩ ++ "or")) _ letters (fun c _ => by simp [hadd, hadd2])] at hR
  simp [hll] at hR
  rw [loopC_mapm _ (fun k : Nat => .int (k : Int)) (fun k => .str (L2.cutS "graphite" none (some ((k : Int) + 1)))) _ (List.range 8) (fun c _ => by simp [hsg])] at hR
  simp at hR
  rw [loopC_mapm _ (fun k : Nat => .int (k : Int)) (fun k => .str (L2.cutS "sandwich" none (some ((k : Int) + 1)))) _ (List.range 8) (fun c _ => by simp [hss])] at hR
  simp at hR
  have hix := tbl_ix m
  rw [hix] at hR
  simp at hR
  exact hR.symm
theorem runDf_ret {p : Px} {d : Df} {ds : List D} {e0 e : En} {v : D} (h1 : ds.length = d.ps) (h2 : (d.own.all fun i => d.io.contains i || !((ds[i]?.map isMut).getD false)) = true) (hio : d.io = []) (he : ds.map some ++ List.replicate (d.n - ds.length) none = e0) (h : Mp.execs p d.body e0 = .ok (.ret v) e) : runDf p d ds = .ok v [] := by
  unfold runDf
  rw [if_pos ⟨h1, h2, by rw [hio]; rfl⟩, he, h, hio]
  rfl
theorem at_names {v : Int} (hv : 0 ≤ v) : ∃ j a b, j < 3 ∧ a < 16 ∧ b < 8 ∧ At 1 16 [.int v] (.ok (.list ((nms j a b).map .str)) []) := by
  obtain ⟨m, rfl⟩ := Int.eq_ofNat_of_zero_le hv
  refine ⟨m % 3, (m / 3) % 16, (m / 48) % 8, by omega, by omega, by omega, at_of (d := d__law_names) rfl fun n hn => ?_⟩
  have e : (nms (m % 3) ((m / 3) % 16) ((m / 48) % 8)).map PyData.str = (List.range 16).map fun k => .str ((tbl (m % 3))[(m / 3 + (2 * ((m / 48) % 8) + 1) * k) % 16]?.getD ⟨#[]⟩) := by
    unfold nms
    rw [List.map_map]
    refine List.map_congr_left fun k _ => ?_
    simp only [Function.comp_apply, Nat.mod_add_mod]
  rw [e]
  refine runDf_ret (d := d__law_names) (e0 := [some (.int (m : Int)), none, none, none, none]) rfl rfl rfl rfl (e := [some (.int (m : Int)), some (.str "qzbmxkcwhvjpgyld"), some (.list ((tbl (m % 3)).map .str)), none, none]) ?_
  rw [execs_split (P n) 4, names_head, Out.bind_ok]
  exact names_tail n m (m % 3) (by omega) _ _ rfl
end K06.Pu

namespace K06.Pu
open K06 PySem Mp
theorem evs_nil {p : Px} {e : En} : evs p [] e = .ok [] e := by rw [evs]
theorem evs_cons {p : Px} {a : Ex} {as : List Ex} {e : En} {x : D} {xs : List D} (h : ev p a e = .ok x e) (hs : evs p as e = .ok xs e) : evs p (a :: as) e = .ok (x :: xs) e := by rw [evs, h, Out.bind_ok, hs, Out.bind_ok]
theorem ev_lst {p : Px} {as : List Ex} {e : En} {xs : List D} (h : evs p as e = .ok xs e) (hl : xs.length ≤ 16777216) : ev p (.lst as) e = .ok (.list xs) e := by
  rw [ev, h, Out.bind_ok, if_pos (by rw [okLen, decide_eq_true_eq]; exact hl)]
theorem ev_tup {p : Px} {as : List Ex} {e : En} {xs : List D} (h : evs p as e = .ok xs e) (hl : xs.length ≤ 16777216) : ev p (.tup as) e = .ok (.tuple xs) e := by
  rw [ev, h, Out.bind_ok, if_pos (by rw [okLen, decide_eq_true_eq]; exact hl)]
theorem ev_neg {p : Px} {a : Ex} {e : En} {i : Int} (h : ev p a e = .ok (.int i) e) : ev p (.neg a) e = .ok (.int (-i)) e := by
  rw [ev, h, Out.bind_ok]
theorem pick4 (a b c d j : Int) (h0 : 0 ≤ j) (h1 : j < 4) : ∃ i, index (.list [.int a, .int b, .int c, .int d]) (.int j) = some (.int i) := by
  obtain ⟨k, rfl⟩ := Int.eq_ofNat_of_zero_le h0
  have hk : k < 4 := by omega
  rw [index_ln]
  match k, hk with
  | 0, _ => exact ⟨_, rfl⟩
  | 1, _ => exact ⟨_, rfl⟩
  | 2, _ => exact ⟨_, rfl⟩
  | 3, _ => exact ⟨_, rfl⟩
theorem pow30 : ∃ i, Mp.bin .pow (.int 10) (.int 30) = some (.int i) := by
  refine ⟨10 ^ (30 : Int).toNat, ?_⟩
  show (if decide ((0 : Int) ≤ 30 ∧ (30 : Int) ≤ 1000 ∧ (10 : Int).natAbs < 2 ^ 64) then some (PyData.int (10 ^ (30 : Int).toNat)) else none) = _
  rw [if_pos (by decide +kernel)]
theorem number_of {n : Nat} (hn : 1 ≤ n) (v : Int) : ∃ i, (P n).F 17 [.int v] = .ok (.int i) [] := by
  refine at_ex (c := 0) (Q := fun R => ∃ i, R = .ok (.int i) []) (d := d__law_number) rfl (fun n _ => ?_) n hn
  obtain ⟨p30, hp⟩ := pow30
  have m12 : 0 ≤ v % 12 := Int.emod_nonneg _ (by decide)
  have l12 : v % 12 < 12 := Int.emod_lt_of_pos _ (by decide)
  obtain ⟨d, hd⟩ := pick4 p30 (-p30) 1001 0 (v / 12 % 4) (by omega) (by omega)
  obtain ⟨i, hi⟩ := pick4 (v / 12 % 5) (v / 12 % 5 - 2) (v / 12 % 100) d (v % 12 / 3) (by omega) (by omega)
  have f12 : ∀ {p : Px}, ev p (.bin .fdiv (.var 0) (.lit (.int 12))) [some (.int v)] = .ok (.int (v / 12)) [some (.int v)] := fun {p} => ev_bin (ev_var 0 rfl) (ev_lit _) (bfd _ _ (by decide) (by decide))
  have md : ∀ {p : Px} (j : Int), 0 < j → ev p (.bin .mod (.bin .fdiv (.var 0) (.lit (.int 12))) (.lit (.int j))) [some (.int v)] = .ok (.int (v / 12 % j)) [some (.int v)] := fun {p} j hj => ev_bin f12 (ev_lit _) (bmd _ _ hj)
  have pw : ∀ {p : Px}, ev p (.bin .pow (.lit (.int 10)) (.lit (.int 30))) [some (.int v)] = .ok (.int p30) [some (.int v)] := fun {p} => ev_bin (ev_lit _) (ev_lit _) hp
  refine ⟨i, runDf_ret (d := d__law_number) (e0 := [some (.int v)]) rfl rfl rfl rfl (e := [some (.int v)]) (execs_ret ?_)⟩
  refine ev_idx (ev_lst (evs_cons (md 5 (by decide)) (evs_cons (ev_bin (md 5 (by decide)) (ev_lit _) rfl) (evs_cons (md 100 (by decide)) (evs_cons (ev_idx (ev_lst (evs_cons pw (evs_cons (ev_neg pw) (evs_cons (ev_lit _) (evs_cons (ev_lit _) evs_nil)))) (by simp)) (md 4 (by decide)) hd) evs_nil)))) (by simp)) (ev_bin (ev_bin (ev_var 0 rfl) (ev_lit _) (bmd _ _ (by decide))) (ev_lit _) (bfd _ _ (by decide) (by decide))) hi
/-- the names that an expression may use -/
def NmsIn (Γ : List Str) (d : D) : Prop := d = .list (Γ.map .str)
theorem IsE.num (i : Int) : IsE (.tuple [.str "num", .int i]) := (Hd.num i).isE
theorem wf_num (n : Nat) (Γ : List Str) (i : Int) : WF (n + 1) Γ (.tuple [.str "num", .int i]) := by
  have h := Hd.num i
  refine ⟨h.isE, ?_, ?_, ?_, ?_⟩
  · intro x hx
    rw [h.kd] at hx
    cases hx
  · intro x y hx
    rw [h.kd] at hx
    cases hx
  · rw [h.pts]; simp
  · intro k p hp
    rw [h.pts] at hp
    simp at hp
theorem wf_use (n : Nat) {Γ : List Str} {x : Str} (hx : x ∈ Γ) : WF (n + 1) Γ (.tuple [.str "use", .str x]) := by
  have h := Hd.use x
  refine ⟨h.isE, ?_, ?_, ?_, ?_⟩
  · intro y hy
    rw [h.kd] at hy
    cases hy
    exact hx
  · intro x y hx
    rw [h.kd] at hx
    cases hx
  · rw [h.pts]; simp
  · intro k p hp
    rw [h.pts] at hp
    simp at hp
theorem wf_oth {n : Nat} {Γ : List Str} {d : D} {ps : List D} (h : Hd d .oth ps) (hl : ps.length ≤ 3) (hp : ∀ p ∈ ps, WF n Γ p) : WF (n + 1) Γ d := by
  refine ⟨h.isE, ?_, ?_, ?_, ?_⟩
  · intro y hy
    rw [h.kd] at hy
    cases hy
  · intro x y hx
    rw [h.kd] at hx
    cases hx
  · rw [h.pts]; exact hl
  · intro k p hk
    rw [h.pts] at hk
    rw [h.kd]
    exact hp p (List.mem_of_getElem? hk)
theorem wf_lt {n : Nat} {Γ : List Str} {x : Str} {a b : D} (ha : WF n Γ a) (hb : WF n (x :: Γ) b) : WF (n + 1) Γ (.tuple [.str "let", .str x, a, b]) := by
  have h := Hd.lt x a b
  refine ⟨h.isE, ?_, ?_, ?_, ?_⟩
  · intro y hy
    rw [h.kd] at hy
    cases hy
  · intro x y hx
    rw [h.kd] at hx
    cases hx
  · rw [h.pts]; simp
  · intro k p hk
    rw [h.pts] at hk
    rw [h.kd]
    match k, hk with
    | 0, hk => cases hk; exact ha
    | 1, hk => cases hk; exact hb
    | k + 2, hk => simp at hk
theorem wf_tm {n : Nat} {Γ : List Str} {x y : Str} {c a b : D} (hxy : x ≠ y) (hc : WF n Γ c) (ha : WF n Γ a) (hb : WF n (x :: y :: Γ) b) : WF (n + 1) Γ (.tuple [.str "times", c, .str x, .str y, a, b]) := by
  have h := Hd.tm c x y a b
  refine ⟨h.isE, ?_, ?_, ?_, ?_⟩
  · intro y hy
    rw [h.kd] at hy
    cases hy
  · intro x y hx
    rw [h.kd] at hx
    cases hx
    exact hxy
  · rw [h.pts]; simp
  · intro k p hk
    rw [h.pts] at hk
    rw [h.kd]
    match k, hk with
    | 0, hk => cases hk; exact hc
    | 1, hk => cases hk; exact ha
    | 2, hk => cases hk; exact hb
    | k + 3, hk => simp at hk
theorem Kd.sc_mono {κ : Kd} {k : Nat} {Γ Δ : List Str} (h : ∀ x ∈ Γ, x ∈ Δ) : ∀ x ∈ κ.sc k Γ, x ∈ κ.sc k Δ := by
  intro x hx
  unfold Kd.sc at hx ⊢
  split at hx
  · rcases List.mem_cons.mp hx with rfl | hx
    · exact List.mem_cons_self
    · exact List.mem_cons_of_mem _ (h x hx)
  · rcases List.mem_cons.mp hx with rfl | hx
    · exact List.mem_cons_self
    · rcases List.mem_cons.mp hx with rfl | hx
      · exact List.mem_cons_of_mem _ List.mem_cons_self
      · exact List.mem_cons_of_mem _ (List.mem_cons_of_mem _ (h x hx))
  · rename_i g1 g2
    exact h x hx
theorem WF.mono : ∀ {n n' : Nat} {Γ Δ : List Str} {d : D}, WF n Γ d → n ≤ n' → (∀ x ∈ Γ, x ∈ Δ) → WF n' Δ d
  | 0, _, _, _, _, h, _, _ => h.elim
  | n + 1, 0, _, _, _, _, hn, _ => absurd hn (by omega)
  | n + 1, n' + 1, Γ, Δ, d, h, hn, hs => by
    obtain ⟨h1, h2, h2', h3, h4⟩ := h
    exact ⟨h1, fun x hx => hs x (h2 x hx), h2', h3, fun k p hp => WF.mono (h4 k p hp) (by omega) (Kd.sc_mono hs)⟩
end K06.Pu

namespace K06.Pu
open K06 PySem Mp
/-! steps one by one -/
theorem execs_set {p : Px} {i : Nat} {a : Ex} {rest : List Mp.St} {e e1 : En} {x : D} {r : Out Fl} (h : ev p a e = .ok x e1) (hr : Mp.execs p rest (setE e1 i x) = r) : Mp.execs p (.set i a :: rest) e = r := by
  rw [Mp.execs, Mp.exec, h]
  exact hr
theorem execs_ret1 {p : Px} {a : Ex} {e e1 : En} {d : D} (h : ev p a e = .ok d e1) : Mp.execs p [.ret a] e = .ok (.ret d) e1 := by
  rw [Mp.execs, Mp.exec, h]
  rfl
theorem execs_if_ret {p : Px} {c a : Ex} {f rest : List Mp.St} {e e1 e2 : En} {d : D} (h : ev p c e = .ok (.bool true) e1) (h2 : ev p a e1 = .ok d e2) : Mp.execs p (.ite c [.ret a] f :: rest) e = .ok (.ret d) e2 := by
  rw [Mp.execs, Mp.exec, h, Out.bind_ok]
  simp only [onBool]
  rw [execs_ret1 h2]
  rfl
theorem execs_if_body {p : Px} {c : Ex} {t f rest : List Mp.St} {e e1 e2 : En} {d : D} (h : ev p c e = .ok (.bool true) e1) (h2 : Mp.execs p t e1 = .ok (.ret d) e2) : Mp.execs p (.ite c t f :: rest) e = .ok (.ret d) e2 := by
  rw [Mp.execs, Mp.exec, h, Out.bind_ok]
  simp only [onBool]
  rw [h2]
  rfl
theorem execs_if_not {p : Px} {c : Ex} {t rest : List Mp.St} {e e1 : En} {r : Out Fl} (h : ev p c e = .ok (.bool false) e1) (hr : Mp.execs p rest e1 = r) : Mp.execs p (.ite c t [] :: rest) e = r := by
  rw [Mp.execs, Mp.exec, h, Out.bind_ok]
  simp only [onBool]
  rw [Mp.execs]
  exact hr
theorem execs_if_nx {p : Px} {c : Ex} {t f rest : List Mp.St} {e e1 e2 : En} {b : Bool} {r : Out Fl} (h : ev p c e = .ok (.bool b) e1) (h2 : Mp.execs p (if b then t else f) e1 = .ok .nx e2) (hr : Mp.execs p rest e2 = r) : Mp.execs p (.ite c t f :: rest) e = r := by
  rw [Mp.execs, Mp.exec, h, Out.bind_ok]
  cases b
  · simp only [Bool.false_eq_true, if_false] at h2
    simp only [onBool]
    rw [h2]
    exact hr
  · simp only [if_true] at h2
    simp only [onBool]
    rw [h2]
    exact hr
theorem execs_nil {p : Px} {e : En} : Mp.execs p [] e = .ok .nx e := by rw [Mp.execs]
theorem execs_setT {p : Px} {is : List Nat} {a : Ex} {rest : List Mp.St} {e e1 e2 : En} {ds : List D} {r : Out Fl} (h : ev p a e = .ok (.tuple ds) e1) (ha : Mp.assignAll is ds e1 = some e2) (hr : Mp.execs p rest e2 = r) : Mp.execs p (.setT is a :: rest) e = r := by
  rw [Mp.execs, Mp.exec, h, Out.bind_ok]
  simp only [ha]
  exact hr
theorem execs_par {p : Px} {is : List Nat} {as : List Ex} {rest : List Mp.St} {e e1 e2 : En} {ds : List D} {r : Out Fl} (h : evs p as e = .ok ds e1) (ha : Mp.assignAll is ds e1 = some e2) (hr : Mp.execs p rest e2 = r) : Mp.execs p (.par is as :: rest) e = r := by
  rw [Mp.execs, Mp.exec, h, Out.bind_ok]
  simp only [ha]
  exact hr
theorem runDf_io1 {p : Px} {d : Df} {ds : List D} {e0 e : En} {v s s' : D} (h1 : ds.length = d.ps) (ho : d.own = [1]) (hio : d.io = [1]) (hs : ds[1]? = some s) (hm : isMut s = true) (he : ds.map some ++ List.replicate (d.n - ds.length) none = e0) (h : Mp.execs p d.body e0 = .ok (.ret v) e) (hs' : e[1]?.getD none = some s') : runDf p d ds = .ok v [s'] := by
  unfold runDf
  rw [if_pos ⟨h1, by rw [ho, hio]; rfl, by rw [hio, List.all_cons, hs]; show (isMut s && _) = true; rw [hm]; rfl⟩, he, h, hio]
  simp only [iosOf, hs', Option.map_some]
theorem ev_call1 {p : Px} {f : Nat} {es : List Ex} {e : En} {ds : List D} {d sd s' : D} (hio : p.io f = [1]) (hs : es[1]?.bind slotOf = some 1) (he : e[1]?.getD none = some sd) (hm : isMut sd = true) (hev : evs p es e = .ok ds e) (hd : ds.set 1 sd = ds) (hF : p.F f ds = .ok d [s']) : ev p (.call f es) e = .ok d (setE e 1 s') := by
  rw [ev, hev, Out.bind_ok, hio]
  simp only [rereadIo, hs, he, hm, if_true, hd, hF, putIo]
theorem ev_call0 {p : Px} {f : Nat} {es : List Ex} {e : En} {ds : List D} {d : D} (hio : p.io f = []) (hev : evs p es e = .ok ds e) (hF : p.F f ds = .ok d []) : ev p (.call f es) e = .ok d e := by
  rw [ev, hev, Out.bind_ok, hio]
  simp only [rereadIo, hF, putIo]
theorem ev_cmp {p : Px} {o : Co} {a b : Ex} {e : En} {x y : D} {z : Bool} (ha : ev p a e = .ok x e) (hb : ev p b e = .ok y e) (hz : Mp.cmp o x y = some z) : ev p (.cmp o a b) e = .ok (.bool z) e := by
  rw [ev, ha, Out.bind_ok, hb, Out.bind_ok, hz]
  rfl
theorem ev_not {p : Px} {a : Ex} {e : En} {b : Bool} (h : ev p a e = .ok (.bool b) e) : ev p (.not a) e = .ok (.bool (!b)) e := by
  rw [ev, h, Out.bind_ok]
theorem ev_and2 {p : Px} {a b : Ex} {e : En} {x y : Bool} (ha : ev p a e = .ok (.bool x) e) (hb : ev p b e = .ok (.bool y) e) : ev p (.and [a, b]) e = .ok (.bool (x && y)) e := by
  rw [ev, evAnd, ha, Out.bind_ok]
  cases x
  · rfl
  · simp only [onBool]
    rw [evAnd, hb, Out.bind_ok]
    cases y
    · rfl
    · simp only [onBool]
      rw [evAnd]
      rfl
theorem ev_and3 {p : Px} {a b c : Ex} {e : En} {x y z : Bool} (ha : ev p a e = .ok (.bool x) e) (hb : ev p b e = .ok (.bool y) e) (hc : ev p c e = .ok (.bool z) e) : ev p (.and [a, b, c]) e = .ok (.bool (x && (y && z))) e := by
  have h2 := ev_and2 hb hc
  rw [ev] at h2 ⊢
  rw [evAnd, ha, Out.bind_ok]
  cases x
  · rfl
  · simp only [onBool]
    exact h2
theorem ev_or2 {p : Px} {a b : Ex} {e : En} {x y : Bool} (ha : ev p a e = .ok (.bool x) e) (hb : ev p b e = .ok (.bool y) e) : ev p (.or [a, b]) e = .ok (.bool (x || y)) e := by
  rw [ev, evOr, ha, Out.bind_ok]
  cases x
  · simp only [onBool]
    rw [evOr, hb, Out.bind_ok]
    cases y
    · simp only [onBool]
      rw [evOr]
      rfl
    · rfl
  · rfl
theorem ev_blt {p : Px} {b : Bf} {as : List Ex} {e e1 : En} {ds : List D} {d : D} (h : evs p as e = .ok ds e1) (hb : bf b ds = some d) : ev p (.blt b as) e = .ok d e1 := by
  rw [ev, h, Out.bind_ok, hb]
  rfl
theorem evs_one {p : Px} {a : Ex} {e e1 : En} {x : D} (h : ev p a e = .ok x e1) : evs p [a] e = .ok [x] e1 := by
  rw [evs, h, Out.bind_ok, evs]
  rfl
/-- a list drawn one by one -/
theorem loopC_draw {step : D → En → Out (Option D)} (E : Int → En) (Q : D → Prop) (C K : Int) (hC : 0 ≤ C) : ∀ (items : List D), (∀ i ∈ items, ∀ k, -1 ≤ k → k + C ≤ K → ∃ d k', step i (E k) = .ok (some d) (E k') ∧ Q d ∧ k ≤ k' ∧ k' ≤ k + C) → ∀ k, -1 ≤ k → k + C * (items.length : Int) ≤ K →
    ∃ ds k', loopC step items (E k) = .ok ds (E k') ∧ ds.length = items.length ∧ (∀ d ∈ ds, Q d) ∧ k ≤ k' ∧ k' ≤ k + C * (items.length : Int)
  | [], _, k, _, _ => ⟨[], k, rfl, rfl, fun _ h => (by cases h), Int.le_refl _, by simp⟩
  | i :: items, h, k, hk, hK => by
    have e : C * (((i :: items).length : Nat) : Int) = C * (items.length : Int) + C := by
      rw [List.length_cons]
      push_cast
      rw [Int.mul_add, Int.mul_one]
    rw [e] at hK ⊢
    have hp : 0 ≤ C * (items.length : Int) := Int.mul_nonneg hC (by omega)
    obtain ⟨d, k1, h1, hq, hl, hu⟩ := h i List.mem_cons_self k hk (by omega)
    obtain ⟨ds, k2, h2, hlen, hqs, hl2, hu2⟩ := loopC_draw E Q C K hC items (fun j hj => h j (List.mem_cons_of_mem _ hj)) k1 (by omega) (by omega)
    refine ⟨d :: ds, k2, ?_, by rw [List.length_cons, List.length_cons, hlen], ?_, by omega, by omega⟩
    · rw [loopC, h1, Out.bind_ok, h2]
      rfl
    · intro x hx
      rcases List.mem_cons.mp hx with rfl | hx
      · exact hq
      · exact hqs x hx
/-- the names, what is ahead, quiet -/
abbrev Ah := Str × Str × Nat × Bool
def ahD (a : Ah) : D := .tuple [.str a.1, .str a.2.1, .int (a.2.2.1 : Int), .bool a.2.2.2]
def atD (ns : List Str) (ah : List Ah) (q : Bool) : D := .dict [(.str "names", .list (ns.map .str)), (.str "ahead", .list (ah.map ahD)), (.str "quiet", .bool q)]
theorem at_nm (ns : List Str) (ah : List Ah) (q : Bool) : index (atD ns ah q) (.str "names") = some (.list (ns.map .str)) := by simp [atD, dictOk, Mp.keyOk, dget_cons]
theorem at_ah (ns : List Str) (ah : List Ah) (q : Bool) : index (atD ns ah q) (.str "ahead") = some (.list (ah.map ahD)) := by simp [atD, dictOk, Mp.keyOk, dget_cons]
theorem at_qu (ns : List Str) (ah : List Ah) (q : Bool) : index (atD ns ah q) (.str "quiet") = some (.bool q) := by simp [atD, dictOk, Mp.keyOk, dget_cons]
structure NS (ns : List Str) : Prop where
  ok : ∀ k, k < 16 → ∃ x, ns[k]? = some x ∧ nmOk x = true
  ne : ∀ k k' x, k < 5 → k' < 5 → ns[k]? = some x → ns[k']? = some x → k = k'
def scD (Γ : List Str) : D := .list (Γ.map .str)
theorem hasDict_strs : ∀ Γ : List Str, PyData.hasDictAll (Γ.map .str) = false
  | [] => rfl
  | x :: Γ => by rw [List.map_cons, PyData.hasDictAll, hasDict_strs Γ]; rfl
theorem hasDict_ah : ∀ ah : List Ah, PyData.hasDictAll (ah.map ahD) = false
  | [] => rfl
  | x :: ah => by rw [List.map_cons, PyData.hasDictAll, hasDict_ah ah]; rfl
theorem cmp_list_nil (xs : List D) (h : PyData.hasDictAll xs = false) : Mp.cmp .ne (.list xs) (.list []) = some (!xs.isEmpty) ∧ Mp.cmp .eq (.list xs) (.list []) = some xs.isEmpty := by
  have h1 : nd (.list xs) = true := by rw [nd, PyData.hasDict, h]; rfl
  have h3 : (PyData.list []).depth = 1 := rfl
  have h4 : PyData.eqv (.list xs) (.list []) = xs.isEmpty := by
    cases xs <;> simp [PyData.eqv, PyData.eqvAll]
  have h5 : min (PyData.list xs).depth 1 ≤ 128 := Nat.le_trans (Nat.min_le_right _ _) (by decide)
  have h6 : okEq (.list xs) (.list []) = true := by
    unfold okEq
    rw [h1, h3, decide_eq_true h5]
    rfl
  exact ⟨by simp [Mp.cmp, h6, h4], by simp [Mp.cmp, h6, h4]⟩
theorem leaf_of {n : Nat} (hn : 2 ≤ n) (A : D) (Γ : List Str) (v : Int) : ∃ d, (P n).F 18 [A, scD Γ, .int v] = .ok d [] ∧ WF 1 Γ d := by
  refine at_ex (c := 1) (Q := fun R => ∃ d, R = .ok d [] ∧ WF 1 Γ d) (d := d__law_leaf) rfl (fun n hn => ?_) n hn
  have hc := (cmp_list_nil (Γ.map .str) (hasDict_strs Γ)).1
  obtain ⟨i, hi⟩ := number_of hn (v / 4)
  have hnum : ∀ e, e = [some A, some (scD Γ), some (.int v)] → ev (P n) (.tup [.lit (.str "num"), .call 17 [.bin .fdiv (.var 2) (.lit (.int 4))]]) e = .ok (.tuple [.str "num", .int i]) e := by
    rintro e rfl
    exact ev_tup (evs_cons (ev_lit _) (evs_cons (ev_call0 rfl (evs_one (ev_bin (ev_var 2 rfl) (ev_lit _) (bfd _ _ (by decide) (by decide)))) hi) evs_nil)) (by simp)
  have hcond : ev (P n) (.and [.cmp .ne (.var 1) (.lst []), .cmp .gt (.bin .mod (.var 2) (.lit (.int 4))) (.lit (.int 0))]) [some A, some (scD Γ), some (.int v)] = .ok (.bool ((!(Γ.map PyData.str).isEmpty) && decide (0 < v % 4))) [some A, some (scD Γ), some (.int v)] :=
    ev_and2 (ev_cmp (ev_var 1 rfl) (ev_lst evs_nil (by simp)) hc) (ev_cmp (ev_bin (ev_var 2 rfl) (ev_lit _) (bmd _ _ (by decide))) (ev_lit _) (cmp_gt_int _ _))
  cases hb : ((!(Γ.map PyData.str).isEmpty) && decide (0 < v % 4)) with
  | false =>
    rw [hb] at hcond
    exact ⟨_, runDf_ret (d := d__law_leaf) (e0 := [some A, some (scD Γ), some (.int v)]) rfl rfl rfl rfl (e := [some A, some (scD Γ), some (.int v)]) (execs_if_not hcond (execs_ret1 (hnum _ rfl))), wf_num 0 Γ i⟩
  | true =>
    rw [hb] at hcond
    rw [Bool.and_eq_true] at hb
    have hpos : 0 < Γ.length := by
      cases Γ with
      | nil => simp at hb
      | cons => simp
    have h1 : 0 ≤ v / 4 % (Γ.length : Int) := Int.emod_nonneg _ (by omega)
    have h2 : v / 4 % (Γ.length : Int) < Γ.length := Int.emod_lt_of_pos _ (by omega)
    obtain ⟨j, hj⟩ := Int.eq_ofNat_of_zero_le h1
    have hj' : j < Γ.length := by omega
    have hx : Γ[j]? = some Γ[j] := List.getElem?_eq_getElem hj'
    have hi : index (scD Γ) (.int (v / 4 % (Γ.length : Int))) = some (.str Γ[j]) := by
      rw [hj]
      exact index_list_str hx
    refine ⟨_, runDf_ret (d := d__law_leaf) (e0 := [some A, some (scD Γ), some (.int v)]) rfl rfl rfl rfl (e := [some A, some (scD Γ), some (.int v)]) (execs_if_ret hcond (ev_tup (evs_cons (ev_lit _) (evs_cons (ev_idx (ev_var 1 rfl) (ev_bin (ev_bin (ev_var 2 rfl) (ev_lit _) (bfd _ _ (by decide) (by decide))) (ev_blt (evs_one (ev_var 1 rfl)) (by rw [scD, bf_len_l, List.length_map])) (bmd _ _ (by omega))) hi) evs_nil)) (by simp))), wf_use 0 (List.getElem_mem hj')⟩
end K06.Pu

namespace K06.Pu
open K06 PySem Mp
theorem evs_c {p : Px} {a : Ex} {as : List Ex} {e e1 e2 : En} {x : D} {xs : List D} (h : ev p a e = .ok x e1) (hs : evs p as e1 = .ok xs e2) : evs p (a :: as) e = .ok (x :: xs) e2 := by rw [evs, h, Out.bind_ok, hs, Out.bind_ok]
theorem ev_tupc {p : Px} {as : List Ex} {e e1 : En} {xs : List D} (h : evs p as e = .ok xs e1) (hl : xs.length ≤ 16777216) : ev p (.tup as) e = .ok (.tuple xs) e1 := by
  rw [ev, h, Out.bind_ok, if_pos (by rw [okLen, decide_eq_true_eq]; exact hl)]
def AH (ah : List Ah) : Prop := ah.length ≤ 1000 ∧ ∀ a ∈ ah, a.2.2.1 ≤ 3
def EP (cs : List Int) (t : Nat) : Prop := ∀ n, 2 * t + 4 ≤ n → ∀ (ns : List Str) (ah : List Ah) (q : Bool) (Γ : List Str) (k : Int), NS ns → AH ah → Γ.length + 2 * t ≤ 100 → -1 ≤ k → k + ((4 ^ t : Nat) : Int) ≤ 1000000000 →
  ∃ d k', (P n).F 22 [cellsD cs, spotD k, atD ns ah q, scD Γ, nD t] = .ok d [spotD k'] ∧ WF (t + 1) Γ d ∧ k ≤ k' ∧ k' ≤ k + ((4 ^ t : Nat) : Int)
theorem sub_call {cs : List Int} {t t' : Nat} (hE : EP cs t') {n : Nat} (hn : 2 * t' + 4 ≤ n) {ns : List Str} {ah : List Ah} {q : Bool} {Γ : List Str} {k : Int} (hns : NS ns) (hah : AH ah) (hΓ : Γ.length + 2 * t' ≤ 100) (hk : -1 ≤ k) (hk2 : k + ((4 ^ t' : Nat) : Int) ≤ 1000000000) {j : Nat} {s : Int} (hs : (t : Int) - s = t') {e : En}
    (h0 : e[0]?.getD none = some (cellsD cs)) (h1 : e[1]?.getD none = some (spotD k)) (h2 : e[2]?.getD none = some (atD ns ah q)) (h3 : e[j]?.getD none = some (scD Γ)) (h4 : e[4]?.getD none = some (nD t)) :
    ∃ d k', ev (P n) (.call 22 [.var 0, .var 1, .var 2, .var j, .bin .sub (.var 4) (.lit (.int s))]) e = .ok d (setE e 1 (spotD k')) ∧ WF (t' + 1) Γ d ∧ k ≤ k' ∧ k' ≤ k + ((4 ^ t' : Nat) : Int) := by
  obtain ⟨d, k', hF, hw, hl, hu⟩ := hE n hn ns ah q Γ k hns hah hΓ hk hk2
  refine ⟨d, k', ev_call1 rfl rfl h1 rfl (evs_cons (ev_var 0 h0) (evs_cons (ev_var 1 h1) (evs_cons (ev_var 2 h2) (evs_cons (ev_var j h3) (evs_cons (ev_bin (z := nD t') (ev_var 4 h4) (ev_lit _) (by rw [nD, nD, bin_sub_int, hs])) evs_nil))))) rfl hF, hw, hl, hu⟩
theorem draws_lc {cs : List Int} {t t' : Nat} (hE : EP cs t') {n : Nat} (hn : 2 * t' + 4 ≤ n) {ns : List Str} {ah : List Ah} {q : Bool} {Γ : List Str} {k : Int} (hns : NS ns) (hah : AH ah) (hΓ : Γ.length + 2 * t' ≤ 100) (hk : -1 ≤ k) (M : Nat) (hM : M ≤ 1000) (hk2 : k + ((4 ^ t' : Nat) : Int) * (M : Int) ≤ 1000000000) (hs : (t : Int) - 1 = t') (x5 x6 x7 x8 x9 x10 x11 : Option D) {its : List Ex}
    (hits : evs (P n) its [some (cellsD cs), some (spotD k), some (atD ns ah q), some (scD Γ), some (nD t), x5, x6, x7, x8, x9, x10, x11, none] = .ok [nD M] [some (cellsD cs), some (spotD k), some (atD ns ah q), some (scD Γ), some (nD t), x5, x6, x7, x8, x9, x10, x11, none]) :
    ∃ ds k', ev (P n) (.lc (.call 22 [.var 0, .var 1, .var 2, .var 3, .bin .sub (.var 4) (.lit (.int 1))]) (.nm 12) .rng its [] [12]) [some (cellsD cs), some (spotD k), some (atD ns ah q), some (scD Γ), some (nD t), x5, x6, x7, x8, x9, x10, x11, none] = .ok (.list ds) [some (cellsD cs), some (spotD k'), some (atD ns ah q), some (scD Γ), some (nD t), x5, x6, x7, x8, x9, x10, x11, none] ∧ ds.length = M ∧ (∀ d ∈ ds, WF (t' + 1) Γ d) ∧ k ≤ k' ∧ k' ≤ k + ((4 ^ t' : Nat) : Int) * (M : Int) := by
  have hrng : itemsK .rng [nD M] = some ((List.range M).map fun (i : Nat) => .int i) := by
    have h1 : (-4611686018427387904 : Int) ≤ M := by omega
    have h2 : (M : Int) < 4611686018427387904 := by omega
    simp [nD, h1, h2]
  suffices hh : ∀ R, ev (P n) (.lc (.call 22 [.var 0, .var 1, .var 2, .var 3, .bin .sub (.var 4) (.lit (.int 1))]) (.nm 12) .rng its [] [12]) [some (cellsD cs), some (spotD k), some (atD ns ah q), some (scD Γ), some (nD t), x5, x6, x7, x8, x9, x10, x11, none] = R → ∃ ds k', R = .ok (.list ds) [some (cellsD cs), some (spotD k'), some (atD ns ah q), some (scD Γ), some (nD t), x5, x6, x7, x8, x9, x10, x11, none] ∧ ds.length = M ∧ (∀ d ∈ ds, WF (t' + 1) Γ d) ∧ k ≤ k' ∧ k' ≤ k + ((4 ^ t' : Nat) : Int) * (M : Int) from hh _ rfl
  intro R hR
  rw [ev, hits, Out.bind_ok] at hR
  simp only [hrng] at hR
  rw [show wipeE [some (cellsD cs), some (spotD k), some (atD ns ah q), some (scD Γ), some (nD t), x5, x6, x7, x8, x9, x10, x11, none] [12] = [some (cellsD cs), some (spotD k), some (atD ns ah q), some (scD Γ), some (nD t), x5, x6, x7, x8, x9, x10, x11, none] from rfl] at hR
  generalize hS : loopC _ = LC at hR
  obtain ⟨ds, k', h1, hlen, hq, hl, hu⟩ : ∃ ds k', LC ((List.range M).map fun (i : Nat) => .int i) [some (cellsD cs), some (spotD k), some (atD ns ah q), some (scD Γ), some (nD t), x5, x6, x7, x8, x9, x10, x11, none] = .ok ds [some (cellsD cs), some (spotD k'), some (atD ns ah q), some (scD Γ), some (nD t), x5, x6, x7, x8, x9, x10, x11, none] ∧ ds.length = ((List.range M).map fun (i : Nat) => (.int i : D)).length ∧ (∀ d ∈ ds, WF (t' + 1) Γ d) ∧ k ≤ k' ∧ k' ≤ k + ((4 ^ t' : Nat) : Int) * ((((List.range M).map fun (i : Nat) => (.int i : D)).length : Nat) : Int) := by
    subst hS
    refine loopC_draw (fun k => [some (cellsD cs), some (spotD k), some (atD ns ah q), some (scD Γ), some (nD t), x5, x6, x7, x8, x9, x10, x11, none]) (WF (t' + 1) Γ) ((4 ^ t' : Nat) : Int) 1000000000 (Int.natCast_nonneg _) ((List.range M).map fun (i : Nat) => .int i) (fun i _ k hk hk2 => ?_) k hk (by rw [List.length_map, List.length_range]; exact hk2)
    obtain ⟨d, k', hF, hw, hl, hu⟩ := sub_call (t := t) hE hn hns hah hΓ hk hk2 (j := 3) hs (q := q) (e := [some (cellsD cs), some (spotD k), some (atD ns ah q), some (scD Γ), some (nD t), x5, x6, x7, x8, x9, x10, x11, some i]) rfl rfl rfl rfl rfl
    refine ⟨d, k', ?_, hw, hl, hu⟩
    simp only [Mp.assign]
    rw [evAnd, Out.bind_ok]
    simp only [onBool]
    rw [show setE [some (cellsD cs), some (spotD k), some (atD ns ah q), some (scD Γ), some (nD t), x5, x6, x7, x8, x9, x10, x11, none] 12 i = [some (cellsD cs), some (spotD k), some (atD ns ah q), some (scD Γ), some (nD t), x5, x6, x7, x8, x9, x10, x11, some i] from rfl, hF, Out.bind_ok]
    rfl
  rw [List.length_map, List.length_range] at hlen hu
  refine ⟨ds, k', ?_, hlen, hq, hl, hu⟩
  rw [← hR, h1]
  simp only [Out.noEx, Out.bind_ok]
  rw [if_pos (by rw [okLen, decide_eq_true_eq]; omega)]
  rfl
theorem ev_lc_sel {α : Type} {p : Px} {elt c : Ex} {i : Nat} {k : IK} {its : List Ex} {own : List Nat} {e : En} {ds : List D} (xs : List α) (φ g : α → D) (b : α → Bool) (hits : evs p its e = .ok ds e) (hk : itemsK k ds = some (xs.map φ)) (hc : ∀ x ∈ xs, ev p c (setE (wipeE e own) i (φ x)) = .ok (.bool (b x)) (setE (wipeE e own) i (φ x))) (hstep : ∀ x ∈ xs, ev p elt (setE (wipeE e own) i (φ x)) = .ok (g x) (setE (wipeE e own) i (φ x)))
    (hw : ∀ x ∈ xs, wipeE (setE (wipeE e own) i (φ x)) own = wipeE e own) (hlen : xs.length ≤ 16777216) (hback : backE e own (wipeE e own) = e) : ev p (.lc elt (.nm i) k its [c] own) e = .ok (.list ((xs.filter b).map g)) e := by
  rw [ev, hits, Out.bind_ok]
  simp only [hk]
  rw [loopC_fmap _ φ (fun x => if b x then some (g x) else none) _ xs (fun x hx => by
    have h := hstep x hx
    have h2 := hc x hx
    have hw := hw x hx
    simp only [Mp.assign]
    rw [evAnd, h2, Out.bind_ok]
    cases hb : b x
    · simp only [onBool, Out.bind_ok]
      rw [hw]
      rfl
    · simp only [onBool]
      rw [evAnd, Out.bind_ok]
      simp only [onBool]
      rw [h, Out.bind_ok, hw]
      rfl)]
  simp only [Out.noEx, Out.bind_ok]
  rw [fm_filter, if_pos (by
    rw [List.length_map, okLen, decide_eq_true_eq]
    exact Nat.le_trans (List.length_filter_le _ _) hlen), hback]
theorem sign_at {i : Int} (h0 : 0 ≤ i) (h1 : i < 7) : ∃ sg, index (.str "+-*=</&") (.int i) = some (.str sg) := by
  obtain ⟨j, rfl⟩ := Int.eq_ofNat_of_zero_le h0
  have hj : j < 7 := by omega
  have hl : ("+-*=</&" : Str).cps.toList.length = 7 := by decide +kernel
  have hk : okLen ("+-*=</&" : Str).length = true := by decide +kernel
  refine ⟨⟨#[("+-*=</&" : Str).cps.toList[j]]⟩, ?_⟩
  show (if okLen ("+-*=</&" : Str).length then (L2.atI ("+-*=</&" : Str).cps.toList (j : Int)).map fun c => PyData.str ⟨#[c]⟩ else none) = _
  rw [if_pos hk, atI_nat, List.getElem?_eq_getElem (by omega)]
  rfl
theorem op_of {cs : List Int} {t : Nat} (hE : EP cs t) {n : Nat} (hn : 2 * t + 5 ≤ n) {ns : List Str} {ah : List Ah} {q : Bool} {Γ : List Str} {k v : Int} (hns : NS ns) (hah : AH ah) (hΓ : Γ.length + 2 * t ≤ 100) (hk : -1 ≤ k) (hk2 : k + 3 * ((4 ^ t : Nat) : Int) ≤ 1000000000) (hv : 0 ≤ v) :
    ∃ d k', (P n).F 19 [cellsD cs, spotD k, atD ns ah q, scD Γ, nD (t + 1), .int v] = .ok d [spotD k'] ∧ WF (t + 2) Γ d ∧ k ≤ k' ∧ k' ≤ k + 3 * ((4 ^ t : Nat) : Int) := by
  refine at_ex (c := 2 * t + 4) (Q := fun R => ∃ d k', R = .ok d [spotD k'] ∧ WF (t + 2) Γ d ∧ k ≤ k' ∧ k' ≤ k + 3 * ((4 ^ t : Nat) : Int)) (d := d__law_op) rfl (fun n hn => ?_) n hn
  have hpos : 0 < ((4 ^ t : Nat) : Int) := by
    have := Nat.one_le_pow t 4 (by omega)
    omega
  obtain ⟨M, hM0, hM7, hMi⟩ : ∃ M : Int, 0 < M ∧ M ≤ 7 ∧ index (.list [.int 7, .int 5]) (.int (if q then 1 else 0)) = some (.int M) := by
    cases q
    · exact ⟨7, by decide, by decide, by simp⟩
    · exact ⟨5, by decide, by decide, by simp⟩
  have hm0 : 0 ≤ v % M := Int.emod_nonneg _ (by omega)
  have hm1 : v % M < M := Int.emod_lt_of_pos _ hM0
  obtain ⟨sg, hsg⟩ := sign_at hm0 (by omega)
  obtain ⟨d1, k1, hd1, hw1, hl1, hu1⟩ := sub_call (t := t + 1) hE hn hns hah hΓ hk (by omega) (j := 3) (s := 1) (by omega) (q := q) (e := [some (cellsD cs), some (spotD k), some (atD ns ah q), some (scD Γ), some (nD (t + 1)), some (.int v), some (.str sg), none]) rfl rfl rfl rfl rfl
  have hset6 : ev (P n) (.idx (.lit (.str "+-*=</&")) (.bin .mod (.var 5) (.idx (.lst [.lit (.int 7), .lit (.int 5)]) (.blt .int [.idx (.var 2) (.lit (.str "quiet"))])))) [some (cellsD cs), some (spotD k), some (atD ns ah q), some (scD Γ), some (nD (t + 1)), some (.int v), none, none] = .ok (.str sg) [some (cellsD cs), some (spotD k), some (atD ns ah q), some (scD Γ), some (nD (t + 1)), some (.int v), none, none] :=
    ev_idx (ev_lit _) (ev_bin (ev_var 5 rfl) (ev_idx (ev_lst (evs_cons (ev_lit _) (evs_cons (ev_lit _) evs_nil)) (by simp)) (ev_blt (d := .int (if q then 1 else 0)) (evs_one (ev_idx (ev_var 2 rfl) (ev_lit _) (at_qu ns ah q))) rfl) hMi) (bmd _ _ hM0)) hsg
  by_cases hst : sg = "*"
  · refine ⟨.tuple [.str "op", .str sg, d1, .tuple [.str "num", .int (v / 7 % 1000 - 3)]], k1, runDf_io1 (d := d__law_op) (s := spotD k) (e0 := [some (cellsD cs), some (spotD k), some (atD ns ah q), some (scD Γ), some (nD (t + 1)), some (.int v), none, none]) rfl rfl rfl rfl rfl rfl (e := [some (cellsD cs), some (spotD k1), some (atD ns ah q), some (scD Γ), some (nD (t + 1)), some (.int v), some (.str sg), some d1]) (execs_set hset6 (execs_set hd1 (execs_if_ret (ev_cmp (z := true) (ev_var 6 rfl) (ev_lit _) (by simp [hst])) (ev_tup (evs_cons (ev_lit _) (evs_cons (ev_var 6 rfl) (evs_cons (ev_var 7 rfl) (evs_cons (ev_tup (evs_cons (ev_lit _) (evs_cons (ev_bin (ev_bin (ev_bin (ev_var 5 rfl) (ev_lit _) (bfd _ _ (by decide) (by decide))) (ev_lit _) (bmd _ _ (by decide))) (ev_lit _) rfl) evs_nil)) (by simp)) evs_nil)))) (by simp))))) rfl, ?_, hl1, by omega⟩
    refine wf_oth (Hd.op sg _ _) (by simp) fun p hp => ?_
    rcases List.mem_cons.mp hp with rfl | hp
    · exact hw1
    · rw [List.mem_singleton.mp hp]
      exact wf_num t Γ _
  · obtain ⟨d2, k2, hd2, hw2, hl2, hu2⟩ := sub_call (t := t + 1) hE hn hns hah hΓ (k := k1) (by omega) (by omega) (j := 3) (s := 1) (by omega) (q := q) (e := [some (cellsD cs), some (spotD k1), some (atD ns ah q), some (scD Γ), some (nD (t + 1)), some (.int v), some (.str sg), some d1]) rfl rfl rfl rfl rfl
    refine ⟨.tuple [.str "op", .str sg, d1, d2], k2, runDf_io1 (d := d__law_op) (s := spotD k) (e0 := [some (cellsD cs), some (spotD k), some (atD ns ah q), some (scD Γ), some (nD (t + 1)), some (.int v), none, none]) rfl rfl rfl rfl rfl rfl (e := [some (cellsD cs), some (spotD k2), some (atD ns ah q), some (scD Γ), some (nD (t + 1)), some (.int v), some (.str sg), some d1]) (execs_set hset6 (execs_set hd1 (execs_if_not (ev_cmp (z := false) (ev_var 6 rfl) (ev_lit _) (by simp [hst])) (execs_ret1 (ev_tupc (evs_c (ev_lit _) (evs_c (ev_var 6 rfl) (evs_c (ev_var 7 rfl) (evs_c hd2 evs_nil)))) (by simp)))))) rfl, ?_, by omega, by omega⟩
    refine wf_oth (Hd.op sg _ _) (by simp) fun p hp => ?_
    rcases List.mem_cons.mp hp with rfl | hp
    · exact hw1
    · rw [List.mem_singleton.mp hp]
      exact hw2
end K06.Pu

namespace K06.Pu
open K06 PySem Mp
theorem nin_list {x a b : Str} : Mp.cmp .nin (.str x) (.tuple [.str a, .str b]) = some (!(decide (a = x) || decide (b = x))) := nin2 x a b
theorem times_of {cs : List Int} {t : Nat} (hE : EP cs (t + 1)) (hE2 : EP cs t) {n : Nat} (hn : 2 * t + 7 ≤ n) {ns : List Str} {ah : List Ah} {q : Bool} {Γ : List Str} {k v : Int} (hns : NS ns) (hah : AH ah) (hΓ : Γ.length + 2 * (t + 2) ≤ 100) (hk : -1 ≤ k) (hk2 : k + 9 * ((4 ^ t : Nat) : Int) ≤ 1000000000) (hv : 0 ≤ v) :
    ∃ d k', (P n).F 20 [cellsD cs, spotD k, atD ns ah q, scD Γ, nD (t + 2), .int v] = .ok d [spotD k'] ∧ WF (t + 3) Γ d ∧ k ≤ k' ∧ k' ≤ k + 9 * ((4 ^ t : Nat) : Int) := by
  refine at_ex (c := 2 * t + 6) (Q := fun R => ∃ d k', R = .ok d [spotD k'] ∧ WF (t + 3) Γ d ∧ k ≤ k' ∧ k' ≤ k + 9 * ((4 ^ t : Nat) : Int)) (d := d__law_times) rfl (fun n hn => ?_) n hn
  have h41 : ((4 ^ (t + 1) : Nat) : Int) = 4 * ((4 ^ t : Nat) : Int) := by
    rw [Nat.pow_succ]
    push_cast
    omega
  have hpos : 0 < ((4 ^ t : Nat) : Int) := by
    have := Nat.one_le_pow t 4 (by omega)
    omega
  -- the two names
  obtain ⟨i1, hi1⟩ := Int.eq_ofNat_of_zero_le (show 0 ≤ v / 7 % 5 by omega)
  obtain ⟨bh, hbh⟩ := Int.eq_ofNat_of_zero_le (show 0 ≤ v / 35 % 4 by omega)
  obtain ⟨i2, hi2⟩ := Int.eq_ofNat_of_zero_le (show 0 ≤ (v / 7 % 5 + 1 + v / 35 % 4) % 5 by omega)
  have h15 : i1 < 5 := by omega
  have h25 : i2 < 5 := by omega
  have hb4 : bh < 4 := by omega
  have hne : i1 ≠ i2 := by omega
  obtain ⟨x, hx, _⟩ := hns.ok i1 (by omega)
  obtain ⟨y, hy, _⟩ := hns.ok i2 (by omega)
  have hxy : x ≠ y := fun h => hne (hns.ne i1 i2 x h15 h25 hx (h ▸ hy))
  have hix : index (.list (ns.map .str)) (.int (v / 7 % 5)) = some (.str x) := by rw [hi1]; exact index_list_str hx
  have hiy : index (.list (ns.map .str)) (.int ((v / 7 % 5 + 1 + v / 35 % 4) % 5)) = some (.str y) := by rw [hi2]; exact index_list_str hy
  -- how many
  have hmany : ∀ R, Mp.execs (P n) [.ite (.and [.not (.idx (.var 2) (.lit (.str "quiet"))), .cmp .eq (.bin .mod (.bin .fdiv (.var 5) (.lit (.int 140))) (.lit (.int 3))) (.lit (.int 1))])
    [.set 8 (.tup [.lit (.str "op"), .lit (.str "&"), .call 22 [.var 0, .var 1, .var 2, .var 3, .bin .sub (.var 4) (.lit (.int 2))], .tup [.lit (.str "num"), .lit (.int 4)]])]
    [.ite (.and [.not (.idx (.var 2) (.lit (.str "quiet"))), .cmp .eq (.bin .mod (.bin .fdiv (.var 5) (.lit (.int 140))) (.lit (.int 12))) (.lit (.int 2))])
      [.set 8 (.tup [.lit (.str "num"), .bin .add (.lit (.int 1000)) (.bin .mod (.bin .fdiv (.var 5) (.lit (.int 1680))) (.lit (.int 3)))])]
      []]] [some (cellsD cs), some (spotD k), some (atD ns ah q), some (scD Γ), some (nD (t + 2)), some (.int v), some (.list (ns.map .str)), some (.int ((v / 7 % 5 + 1 + v / 35 % 4) % 5)), some (.tuple [.str "num", .int (v % 4)]), none, none, none, some (.int (v / 7 % 5)), some (.int (v / 35 % 4)), none] = R →
      ∃ c k1, R = .ok .nx [some (cellsD cs), some (spotD k1), some (atD ns ah q), some (scD Γ), some (nD (t + 2)), some (.int v), some (.list (ns.map .str)), some (.int ((v / 7 % 5 + 1 + v / 35 % 4) % 5)), some c, none, none, none, some (.int (v / 7 % 5)), some (.int (v / 35 % 4)), none] ∧ WF (t + 2) Γ c ∧ k ≤ k1 ∧ k1 ≤ k + ((4 ^ t : Nat) : Int) := by
    intro R hR
    have hq : ∀ {e : En}, e[2]?.getD none = some (atD ns ah q) → ev (P n) (.not (.idx (.var 2) (.lit (.str "quiet")))) e = .ok (.bool (!q)) e := fun he => ev_not (ev_idx (ev_var 2 he) (ev_lit _) (at_qu ns ah q))
    have hc1 : ∀ {e : En}, e[2]?.getD none = some (atD ns ah q) → e[5]?.getD none = some (.int v) → ev (P n) (.and [.not (.idx (.var 2) (.lit (.str "quiet"))), .cmp .eq (.bin .mod (.bin .fdiv (.var 5) (.lit (.int 140))) (.lit (.int 3))) (.lit (.int 1))]) e = .ok (.bool (!q && decide (v / 140 % 3 = 1))) e := fun he h5 => ev_and2 (hq he) (ev_cmp (ev_bin (ev_bin (ev_var 5 h5) (ev_lit _) (bfd _ _ (by decide) (by decide))) (ev_lit _) (bmd _ _ (by decide))) (ev_lit _) (cmp_eq_int _ _))
    have hc2 : ∀ {e : En}, e[2]?.getD none = some (atD ns ah q) → e[5]?.getD none = some (.int v) → ev (P n) (.and [.not (.idx (.var 2) (.lit (.str "quiet"))), .cmp .eq (.bin .mod (.bin .fdiv (.var 5) (.lit (.int 140))) (.lit (.int 12))) (.lit (.int 2))]) e = .ok (.bool (!q && decide (v / 140 % 12 = 2))) e := fun he h5 => ev_and2 (hq he) (ev_cmp (ev_bin (ev_bin (ev_var 5 h5) (ev_lit _) (bfd _ _ (by decide) (by decide))) (ev_lit _) (bmd _ _ (by decide))) (ev_lit _) (cmp_eq_int _ _))
    cases h1 : (!q && decide (v / 140 % 3 = 1)) with
    | true =>
      obtain ⟨d, k1, hd, hw, hl, hu⟩ := sub_call (t := t + 2) hE2 (by omega) hns hah (by omega) hk (by omega) (j := 3) (s := 2) (by omega) (q := q) (n := n) (Γ := Γ) (e := [some (cellsD cs), some (spotD k), some (atD ns ah q), some (scD Γ), some (nD (t + 2)), some (.int v), some (.list (ns.map .str)), some (.int ((v / 7 % 5 + 1 + v / 35 % 4) % 5)), some (.tuple [.str "num", .int (v % 4)]), none, none, none, some (.int (v / 7 % 5)), some (.int (v / 35 % 4)), none]) rfl rfl rfl rfl rfl
      refine ⟨.tuple [.str "op", .str "&", d, .tuple [.str "num", .int 4]], k1, ?_, ?_, hl, hu⟩
      · rw [← hR]
        exact execs_if_nx (b := true) ((hc1 rfl rfl).trans (by rw [h1])) (execs_set (ev_tupc (evs_c (ev_lit _) (evs_c (ev_lit _) (evs_c hd (evs_c (ev_tup (evs_cons (ev_lit _) (evs_cons (ev_lit _) evs_nil)) (by simp)) evs_nil)))) (by simp)) execs_nil) execs_nil
      · refine wf_oth (Hd.op _ _ _) (by simp) fun p hp => ?_
        rcases List.mem_cons.mp hp with rfl | hp
        · exact hw
        · rw [List.mem_singleton.mp hp]
          exact wf_num t Γ _
    | false =>
      cases h2 : (!q && decide (v / 140 % 12 = 2)) with
      | true =>
        refine ⟨.tuple [.str "num", .int (1000 + v / 1680 % 3)], k, ?_, wf_num (t + 1) Γ _, by omega, by omega⟩
        rw [← hR]
        exact execs_if_nx (b := false) ((hc1 rfl rfl).trans (by rw [h1])) (execs_if_nx (b := true) ((hc2 rfl rfl).trans (by rw [h2])) (execs_set (ev_tup (evs_cons (ev_lit _) (evs_cons (ev_bin (ev_lit _) (ev_bin (ev_bin (ev_var 5 rfl) (ev_lit _) (bfd _ _ (by decide) (by decide))) (ev_lit _) (bmd _ _ (by decide))) rfl) evs_nil)) (by simp)) execs_nil) execs_nil) execs_nil
      | false =>
        refine ⟨.tuple [.str "num", .int (v % 4)], k, ?_, wf_num (t + 1) Γ _, by omega, by omega⟩
        rw [← hR]
        exact execs_if_nx (b := false) ((hc1 rfl rfl).trans (by rw [h1])) (execs_if_nx (b := false) ((hc2 rfl rfl).trans (by rw [h2])) execs_nil execs_nil) execs_nil
  obtain ⟨c, k1, hm, hwc, hl1, hu1⟩ := hmany _ rfl
  obtain ⟨d1, k2, hd1, hw1, hl2, hu2⟩ := sub_call (t := t + 2) hE (by omega) hns hah (by omega) (k := k1) (by omega) (by omega) (j := 3) (s := 1) (by omega) (q := q) (n := n) (Γ := Γ) (e := [some (cellsD cs), some (spotD k1), some (atD ns ah q), some (scD Γ), some (nD (t + 2)), some (.int v), some (.list (ns.map .str)), some (.int ((v / 7 % 5 + 1 + v / 35 % 4) % 5)), some c, none, none, none, some (.int (v / 7 % 5)), some (.int (v / 35 % 4)), none]) rfl rfl rfl rfl rfl
  have hinner : ev (P n) (.bin .add (.lc (.var 14) (.nm 14) .seq [.var 3] [.cmp .nin (.var 14) (.tup [.idx (.var 6) (.var 12), .idx (.var 6) (.var 7)])] [14]) (.lst [.idx (.var 6) (.var 12), .idx (.var 6) (.var 7)])) [some (cellsD cs), some (spotD k2), some (atD ns ah q), some (scD Γ), some (nD (t + 2)), some (.int v), some (.list (ns.map .str)), some (.int ((v / 7 % 5 + 1 + v / 35 % 4) % 5)), some c, some d1, none, none, some (.int (v / 7 % 5)), some (.int (v / 35 % 4)), none]
      = .ok (scD (Γ.filter (fun z => !(decide (x = z) || decide (y = z))) ++ [x, y])) [some (cellsD cs), some (spotD k2), some (atD ns ah q), some (scD Γ), some (nD (t + 2)), some (.int v), some (.list (ns.map .str)), some (.int ((v / 7 % 5 + 1 + v / 35 % 4) % 5)), some c, some d1, none, none, some (.int (v / 7 % 5)), some (.int (v / 35 % 4)), none] := by
    refine ev_bin (x := .list ((Γ.filter (fun z => !(decide (x = z) || decide (y = z)))).map .str)) (y := .list [.str x, .str y]) (ev_lc_sel Γ PyData.str PyData.str _ (evs_one (ev_var 3 rfl)) rfl (fun z hz => ev_cmp (ev_var 14 rfl) (ev_tup (evs_cons (ev_idx (ev_var 6 rfl) (ev_var 12 rfl) hix) (evs_cons (ev_idx (ev_var 6 rfl) (ev_var 7 rfl) hiy) evs_nil)) (by simp)) (nin2 z x y)) (fun z hz => ev_var 14 rfl) (fun _ _ => rfl) (by omega) rfl) (ev_lst (evs_cons (ev_idx (ev_var 6 rfl) (ev_var 12 rfl) hix) (evs_cons (ev_idx (ev_var 6 rfl) (ev_var 7 rfl) hiy) evs_nil)) (by simp)) ?_
    have := List.length_filter_le (fun z => !(decide (x = z) || decide (y = z))) Γ
    rw [bin_add_list, if_pos (by rw [okLen, decide_eq_true_eq, List.length_map]; simp only [List.length_cons, List.length_nil]; omega)]
    simp [scD]
  have hfl := List.length_filter_le (fun z => !(decide (x = z) || decide (y = z))) Γ
  obtain ⟨d2, k3, hd2, hw2, hl3, hu3⟩ := sub_call (t := t + 2) hE (by omega) hns hah (Γ := Γ.filter (fun z => !(decide (x = z) || decide (y = z))) ++ [x, y]) (by rw [List.length_append]; simp only [List.length_cons, List.length_nil]; omega) (k := k2) (by omega) (by omega) (j := 10) (s := 1) (by omega) (q := q) (n := n) (e := [some (cellsD cs), some (spotD k2), some (atD ns ah q), some (scD Γ), some (nD (t + 2)), some (.int v), some (.list (ns.map .str)), some (.int ((v / 7 % 5 + 1 + v / 35 % 4) % 5)), some c, some d1, some (scD (Γ.filter (fun z => !(decide (x = z) || decide (y = z))) ++ [x, y])), none, some (.int (v / 7 % 5)), some (.int (v / 35 % 4)), none]) rfl rfl rfl rfl rfl
  refine ⟨.tuple [.str "times", c, .str x, .str y, d1, d2], k3, runDf_io1 (d := d__law_times) (s := spotD k) (e0 := [some (cellsD cs), some (spotD k), some (atD ns ah q), some (scD Γ), some (nD (t + 2)), some (.int v), none, none, none, none, none, none, none, none, none]) rfl rfl rfl rfl rfl rfl (e := [some (cellsD cs), some (spotD k3), some (atD ns ah q), some (scD Γ), some (nD (t + 2)), some (.int v), some (.list (ns.map .str)), some (.int ((v / 7 % 5 + 1 + v / 35 % 4) % 5)), some c, some d1, some (scD (Γ.filter (fun z => !(decide (x = z) || decide (y = z))) ++ [x, y])), some d2, some (.int (v / 7 % 5)), some (.int (v / 35 % 4)), none]) ?_ rfl, ?_, by omega, by omega⟩
  · refine execs_set (ev_idx (ev_var 2 rfl) (ev_lit _) (at_nm ns ah q)) (execs_setT (ev_tup (evs_cons (ev_bin (ev_bin (ev_var 5 rfl) (ev_lit _) (bfd _ _ (by decide) (by decide))) (ev_lit _) (bmd _ _ (by decide))) (evs_cons (ev_bin (ev_bin (ev_var 5 rfl) (ev_lit _) (bfd _ _ (by decide) (by decide))) (ev_lit _) (bmd _ _ (by decide))) evs_nil)) (by simp)) rfl (execs_set (ev_bin (ev_bin (ev_bin (ev_var 12 rfl) (ev_lit _) rfl) (ev_var 13 rfl) rfl) (ev_lit _) (bmd _ _ (by decide))) (execs_set (ev_tup (evs_cons (ev_lit _) (evs_cons (ev_bin (ev_var 5 rfl) (ev_lit _) (bmd _ _ (by decide))) evs_nil)) (by simp)) ?_)))
    rw [execs_split (P n) 1]
    rw [show ∀ (a b : Mp.St) (l : List Mp.St), (a :: b :: l).take 1 = [a] from fun _ _ _ => rfl]
    refine (congrArg (fun o => Out.bind o _) hm).trans ?_
    rw [Out.bind_ok]
    exact execs_set hd1 (execs_set hinner (execs_set hd2 (execs_ret1 (ev_tup (evs_cons (ev_lit _) (evs_cons (ev_var 8 rfl) (evs_cons (ev_idx (ev_var 6 rfl) (ev_var 12 rfl) hix) (evs_cons (ev_idx (ev_var 6 rfl) (ev_var 7 rfl) hiy) (evs_cons (ev_var 9 rfl) (evs_cons (ev_var 11 rfl) evs_nil)))))) (by simp)))))
  · refine wf_tm hxy hwc hw1 (hw2.mono (Nat.le_refl _) fun z hz => ?_)
    rcases List.mem_append.mp hz with hz | hz
    · exact List.mem_cons_of_mem _ (List.mem_cons_of_mem _ (List.mem_filter.mp hz).1)
    · rcases List.mem_cons.mp hz with rfl | hz
      · exact List.mem_cons_self
      · rw [List.mem_singleton.mp hz]
        exact List.mem_cons_of_mem _ List.mem_cons_self
end K06.Pu

namespace K06.Pu
open K06 PySem Mp
theorem call_of {cs : List Int} {t : Nat} (hE : EP cs t) {n : Nat} (hn : 2 * t + 5 ≤ n) {ns : List Str} {ah : List Ah} {q : Bool} {Γ : List Str} {k v : Int} (hns : NS ns) (hah : AH ah) (hΓ : Γ.length + 2 * t ≤ 100) (hk : -1 ≤ k) (hk2 : k + 3 * ((4 ^ t : Nat) : Int) ≤ 1000000000) (hv : 0 ≤ v) :
    ∃ d k', (P n).F 21 [cellsD cs, spotD k, atD ns ah q, scD Γ, nD (t + 1), .int v] = .ok d [spotD k'] ∧ WF (t + 2) Γ d ∧ k ≤ k' ∧ k' ≤ k + 3 * ((4 ^ t : Nat) : Int) := by
  refine at_ex (c := 2 * t + 4) (Q := fun R => ∃ d k', R = .ok d [spotD k'] ∧ WF (t + 2) Γ d ∧ k ≤ k' ∧ k' ≤ k + 3 * ((4 ^ t : Nat) : Int)) (d := d__law_call) rfl (fun n hn => ?_) n hn
  have hpos : 0 < ((4 ^ t : Nat) : Int) := by
    have := Nat.one_le_pow t 4 (by omega)
    omega
  have h6 : ev (P n) (.lc (.var 11) (.nm 11) .seq [.idx (.var 2) (.lit (.str "ahead"))] [.or [.idx (.var 11) (.lit (.int 3)), .not (.idx (.var 2) (.lit (.str "quiet")))]] [11]) [some (cellsD cs), some (spotD k), some (atD ns ah q), some (scD Γ), some (nD (t + 1)), some (.int v), none, none, none, none, none, none, none] = .ok (.list ((ah.filter fun a => a.2.2.2 || !q).map ahD)) [some (cellsD cs), some (spotD k), some (atD ns ah q), some (scD Γ), some (nD (t + 1)), some (.int v), none, none, none, none, none, none, none] :=
    ev_lc_sel ah ahD ahD _ (evs_one (ev_idx (ev_var 2 rfl) (ev_lit _) (at_ah ns ah q))) rfl (fun a ha => ev_or2 (ev_idx (ev_var 11 rfl) (ev_lit _) (index_t3 _ _ _ _ _)) (ev_not (ev_idx (ev_var 2 rfl) (ev_lit _) (at_qu ns ah q)))) (fun a ha => ev_var 11 rfl) (fun _ _ => rfl) (by have := hah.1; omega) rfl
  generalize hfs : (ah.filter fun a => a.2.2.2 || !q) = fs at h6
  have hfl : fs.length ≤ 1000 := by
    rw [← hfs]
    exact Nat.le_trans (List.length_filter_le _ _) hah.1
  have hcmp := (cmp_list_nil (fs.map ahD) (hasDict_ah fs)).2
  cases hfe : fs with
  | nil =>
    rw [hfe] at h6 hcmp
    obtain ⟨d, hd, hw⟩ := leaf_of (show 2 ≤ n by omega) (atD ns ah q) Γ v
    refine ⟨d, k, runDf_io1 (d := d__law_call) (s := spotD k) (e0 := [some (cellsD cs), some (spotD k), some (atD ns ah q), some (scD Γ), some (nD (t + 1)), some (.int v), none, none, none, none, none, none, none]) rfl rfl rfl rfl rfl rfl (e := [some (cellsD cs), some (spotD k), some (atD ns ah q), some (scD Γ), some (nD (t + 1)), some (.int v), some (.list []), none, none, none, none, none, none]) (execs_set h6 (execs_if_ret (ev_cmp (ev_var 6 rfl) (ev_lst evs_nil (by simp)) hcmp) (ev_call0 rfl (evs_cons (ev_var 2 rfl) (evs_cons (ev_var 3 rfl) (evs_cons (ev_var 5 rfl) evs_nil))) hd))) rfl, hw.mono (by omega) fun _ h => h, by omega, by omega⟩
  | cons a0 fr =>
    have hfp : 0 < fs.length := by rw [hfe]; simp
    obtain ⟨j, hj⟩ := Int.eq_ofNat_of_zero_le (Int.emod_nonneg v (show (fs.length : Int) ≠ 0 by omega))
    have hjl := Int.emod_lt_of_pos v (show (0 : Int) < fs.length by omega)
    have hj' : j < fs.length := by omega
    have hmem : fs[j] ∈ ah := by
      have h : fs[j] ∈ fs := List.getElem_mem hj'
      have hsub : ∀ z ∈ fs, z ∈ ah := fun z hz => by
        rw [← hfs] at hz
        exact (List.mem_filter.mp hz).1
      exact hsub _ h
    generalize hfa : fs[j] = a at hmem
    have hia : index (.list (fs.map ahD)) (.int (v % (fs.length : Int))) = some (ahD a) := by
      rw [hj, index_ln, List.getElem?_map, List.getElem?_eq_getElem hj', hfa]
      rfl
    have ha3 := hah.2 a hmem
    have hbl : bf .len [.list (fs.map ahD)] = some (.int fs.length) := by rw [bf_len_l, List.length_map]
    have hie : (fs.map ahD).isEmpty = false := by rw [hfe]; rfl
    rw [hie] at hcmp
    have hM3 : ((4 ^ t : Nat) : Int) * (a.2.2.1 : Int) ≤ 3 * ((4 ^ t : Nat) : Int) := by
      rw [Int.mul_comm]
      exact Int.mul_le_mul_of_nonneg_right (by omega) (by omega)
    obtain ⟨ds, k', hds, hlen, hq, hl, hu⟩ := draws_lc (t := t + 1) hE (n := n) (by omega) hns hah (q := q) hΓ hk a.2.2.1 (by omega) (by omega) (by omega) (some (.int v)) (some (.list (fs.map ahD))) (some (.str a.1)) (some (.str a.2.1)) (some (.int (a.2.2.1 : Int))) (some (.bool a.2.2.2)) none (its := [.var 9]) (evs_one (ev_var 9 rfl))
    refine ⟨.tuple [.str "call", .str a.1, .str a.2.1, .tuple ds], k', runDf_io1 (d := d__law_call) (s := spotD k) (e0 := [some (cellsD cs), some (spotD k), some (atD ns ah q), some (scD Γ), some (nD (t + 1)), some (.int v), none, none, none, none, none, none, none]) rfl rfl rfl rfl rfl rfl (e := [some (cellsD cs), some (spotD k'), some (atD ns ah q), some (scD Γ), some (nD (t + 1)), some (.int v), some (.list (fs.map ahD)), some (.str a.1), some (.str a.2.1), some (.int (a.2.2.1 : Int)), some (.bool a.2.2.2), none, none]) (execs_set h6 (execs_if_not (ev_cmp (ev_var 6 rfl) (ev_lst evs_nil (by simp)) hcmp) (execs_setT (e2 := [some (cellsD cs), some (spotD k), some (atD ns ah q), some (scD Γ), some (nD (t + 1)), some (.int v), some (.list (fs.map ahD)), some (.str a.1), some (.str a.2.1), some (.int (a.2.2.1 : Int)), some (.bool a.2.2.2), none, none]) (ev_idx (ev_var 6 rfl) (ev_bin (ev_var 5 rfl) (ev_blt (evs_one (ev_var 6 rfl)) hbl) (bmd _ _ (by omega))) hia) rfl (execs_ret1 (ev_tupc (evs_c (ev_lit _) (evs_c (ev_var 7 rfl) (evs_c (ev_var 8 rfl) (evs_c (ev_blt (evs_one hds) (bf_tuple_l ds)) evs_nil)))) (by simp)))))) rfl, wf_oth (Hd.call _ _ _) (by omega) hq, hl, by omega⟩
theorem expr_prefix {cs : List Int} {t : Nat} {n : Nat} {ns : List Str} {ah : List Ah} {q : Bool} {Γ : List Str} {k v : Int} {Q : D → Int → Prop} (hcell : (P n).F 15 [cellsD cs, spotD k] = .ok (.int v) [spotD (k + 1)])
    (h : ∃ d k' e', Mp.execs (P n) (d__law_expression.body.drop 2) [some (cellsD cs), some (spotD (k + 1)), some (atD ns ah q), some (scD Γ), some (nD t), some (.int v), some (.int (v % 16)), some (.int (v / 16)), none, none, none, none, none] = .ok (.ret d) e' ∧ e'[1]?.getD none = some (spotD k') ∧ Q d k') :
    ∃ d k', runDf (P n) d__law_expression [cellsD cs, spotD k, atD ns ah q, scD Γ, nD t] = .ok d [spotD k'] ∧ Q d k' := by
  obtain ⟨d, k', e', he, h1, hq⟩ := h
  refine ⟨d, k', runDf_io1 (d := d__law_expression) (s := spotD k) (e0 := [some (cellsD cs), some (spotD k), some (atD ns ah q), some (scD Γ), some (nD t), none, none, none, none, none, none, none, none]) rfl rfl rfl rfl rfl rfl (e := e') ?_ h1, hq⟩
  exact execs_set (ev_call1 rfl rfl rfl rfl (evs_cons (ev_var 0 rfl) (evs_cons (ev_var 1 rfl) evs_nil)) rfl hcell) (execs_par (evs_cons (ev_bin (ev_var 5 rfl) (ev_lit _) (bmd _ _ (by decide))) (evs_cons (ev_bin (ev_var 5 rfl) (ev_lit _) (bfd _ _ (by decide) (by decide))) evs_nil)) rfl he)
theorem EP_small {cs : List Int} (hcs : cs.length ≤ 1000) {t : Nat} (ht : t < 2) : EP cs t := by
  intro n hn ns ah q Γ k hns hah hΓ hk hk2
  have hpos : 0 < ((4 ^ t : Nat) : Int) := by
    have := Nat.one_le_pow t 4 (by omega)
    omega
  refine at_ex (c := 2 * t + 3) (Q := fun R => ∃ d k', R = .ok d [spotD k'] ∧ WF (t + 1) Γ d ∧ k ≤ k' ∧ k' ≤ k + ((4 ^ t : Nat) : Int)) (d := d__law_expression) rfl (fun n hn => ?_) n hn
  obtain ⟨v, hv, hcell⟩ := cell_of (n := n) (cs := cs) (k := k) (by omega) hk (by omega) hcs
  refine expr_prefix (Q := fun d k' => WF (t + 1) Γ d ∧ k ≤ k' ∧ k' ≤ k + ((4 ^ t : Nat) : Int)) hcell ?_
  obtain ⟨d, hd, hw⟩ := leaf_of (show 2 ≤ n by omega) (atD ns ah q) Γ (v / 16)
  refine ⟨d, k + 1, [some (cellsD cs), some (spotD (k + 1)), some (atD ns ah q), some (scD Γ), some (nD t), some (.int v), some (.int (v % 16)), some (.int (v / 16)), none, none, none, none, none], execs_if_ret (ev_or2 (x := true) (ev_cmp (ev_var 4 rfl) (ev_lit _) (by rw [nD, cmp_lt_int, decide_eq_true (by omega)])) (ev_cmp (ev_var 6 rfl) (ev_lit _) (cmp_lt_int _ _))) (ev_call0 rfl (evs_cons (ev_var 2 rfl) (evs_cons (ev_var 3 rfl) (evs_cons (ev_var 7 rfl) evs_nil))) hd), rfl, hw.mono (by omega) fun _ h => h, by omega, by omega⟩
theorem EP_big {cs : List Int} (hcs : cs.length ≤ 1000) {s : Nat} (hE : EP cs (s + 1)) (hE2 : EP cs s) : EP cs (s + 2) := by
  intro n hn ns ah q Γ k hns hah hΓ hk hk2
  have hpos : 0 < ((4 ^ s : Nat) : Int) := by
    have := Nat.one_le_pow s 4 (by omega)
    omega
  have h41 : ((4 ^ (s + 1) : Nat) : Int) = 4 * ((4 ^ s : Nat) : Int) := by
    rw [Nat.pow_succ]
    push_cast
    omega
  have h42 : ((4 ^ (s + 2) : Nat) : Int) = 16 * ((4 ^ s : Nat) : Int) := by
    rw [Nat.pow_succ, Nat.pow_succ]
    push_cast
    omega
  rw [h42] at hk2 ⊢
  refine at_ex (c := 2 * (s + 2) + 3) (Q := fun R => ∃ d k', R = .ok d [spotD k'] ∧ WF (s + 2 + 1) Γ d ∧ k ≤ k' ∧ k' ≤ k + 16 * ((4 ^ s : Nat) : Int)) (d := d__law_expression) rfl (fun n hn => ?_) n hn
  obtain ⟨v, hv, hcell⟩ := cell_of (n := n) (cs := cs) (k := k) (by omega) hk (by omega) hcs
  refine expr_prefix (Q := fun d k' => WF (s + 2 + 1) Γ d ∧ k ≤ k' ∧ k' ≤ k + 16 * ((4 ^ s : Nat) : Int)) hcell ?_
  have hm : 0 ≤ v / 16 := by omega
  have c1 : ev (P n) (.or [.cmp .lt (.var 4) (.lit (.int 2)), .cmp .lt (.var 6) (.lit (.int 3))]) [some (cellsD cs), some (spotD (k + 1)), some (atD ns ah q), some (scD Γ), some (nD (s + 2)), some (.int v), some (.int (v % 16)), some (.int (v / 16)), none, none, none, none, none] = .ok (.bool (decide (v % 16 < 3))) [some (cellsD cs), some (spotD (k + 1)), some (atD ns ah q), some (scD Γ), some (nD (s + 2)), some (.int v), some (.int (v % 16)), some (.int (v / 16)), none, none, none, none, none] :=
    ev_or2 (x := false) (ev_cmp (ev_var 4 rfl) (ev_lit _) (by rw [nD, cmp_lt_int, decide_eq_false (by omega)])) (ev_cmp (ev_var 6 rfl) (ev_lit _) (cmp_lt_int _ _))
  have cl : ∀ j : Int, ev (P n) (.cmp .lt (.var 6) (.lit (.int j))) [some (cellsD cs), some (spotD (k + 1)), some (atD ns ah q), some (scD Γ), some (nD (s + 2)), some (.int v), some (.int (v % 16)), some (.int (v / 16)), none, none, none, none, none] = .ok (.bool (decide (v % 16 < j))) [some (cellsD cs), some (spotD (k + 1)), some (atD ns ah q), some (scD Γ), some (nD (s + 2)), some (.int v), some (.int (v % 16)), some (.int (v / 16)), none, none, none, none, none] := fun j => ev_cmp (ev_var 6 rfl) (ev_lit _) (cmp_lt_int _ _)
  have ce : ∀ j : Int, ev (P n) (.cmp .eq (.var 6) (.lit (.int j))) [some (cellsD cs), some (spotD (k + 1)), some (atD ns ah q), some (scD Γ), some (nD (s + 2)), some (.int v), some (.int (v % 16)), some (.int (v / 16)), none, none, none, none, none] = .ok (.bool (decide (v % 16 = j))) [some (cellsD cs), some (spotD (k + 1)), some (atD ns ah q), some (scD Γ), some (nD (s + 2)), some (.int v), some (.int (v % 16)), some (.int (v / 16)), none, none, none, none, none] := fun j => ev_cmp (ev_var 6 rfl) (ev_lit _) (cmp_eq_int _ _)
  by_cases h1 : v % 16 < 3
  · obtain ⟨d, hd, hw⟩ := leaf_of (show 2 ≤ n by omega) (atD ns ah q) Γ (v / 16)
    rw [decide_eq_true h1] at c1
    exact ⟨d, k + 1, [some (cellsD cs), some (spotD (k + 1)), some (atD ns ah q), some (scD Γ), some (nD (s + 2)), some (.int v), some (.int (v % 16)), some (.int (v / 16)), none, none, none, none, none], execs_if_ret c1 (ev_call0 rfl (evs_cons (ev_var 2 rfl) (evs_cons (ev_var 3 rfl) (evs_cons (ev_var 7 rfl) evs_nil))) hd), rfl, hw.mono (by omega) fun _ h => h, by omega, by omega⟩
  rw [decide_eq_false h1] at c1
  by_cases h2 : v % 16 < 5
  · obtain ⟨d, k', hd, hw, hl, hu⟩ := call_of hE (n := n) (by omega) hns hah (q := q) (Γ := Γ) (k := k + 1) (v := v / 16) (by omega) (by omega) (by omega) hm
    exact ⟨d, k', [some (cellsD cs), some (spotD k'), some (atD ns ah q), some (scD Γ), some (nD (s + 2)), some (.int v), some (.int (v % 16)), some (.int (v / 16)), none, none, none, none, none], execs_if_not c1 (execs_if_ret ((cl 5).trans (by rw [decide_eq_true h2])) (ev_call1 rfl rfl rfl rfl (evs_cons (ev_var 0 rfl) (evs_cons (ev_var 1 rfl) (evs_cons (ev_var 2 rfl) (evs_cons (ev_var 3 rfl) (evs_cons (ev_var 4 rfl) (evs_cons (ev_var 7 rfl) evs_nil)))))) rfl hd)), rfl, hw, by omega, by omega⟩
  by_cases h3 : v % 16 = 5
  · obtain ⟨d, k', hd, hw, hl, hu⟩ := times_of hE hE2 (n := n) (by omega) hns hah (q := q) (Γ := Γ) (k := k + 1) (v := v / 16) (by omega) (by omega) (by omega) hm
    exact ⟨d, k', [some (cellsD cs), some (spotD k'), some (atD ns ah q), some (scD Γ), some (nD (s + 2)), some (.int v), some (.int (v % 16)), some (.int (v / 16)), none, none, none, none, none], execs_if_not c1 (execs_if_not ((cl 5).trans (by rw [decide_eq_false h2])) (execs_if_ret ((ce 5).trans (by rw [decide_eq_true h3])) (ev_call1 rfl rfl rfl rfl (evs_cons (ev_var 0 rfl) (evs_cons (ev_var 1 rfl) (evs_cons (ev_var 2 rfl) (evs_cons (ev_var 3 rfl) (evs_cons (ev_var 4 rfl) (evs_cons (ev_var 7 rfl) evs_nil)))))) rfl hd))), rfl, hw, by omega, by omega⟩
  have cq : ev (P n) (.not (.idx (.var 2) (.lit (.str "quiet")))) [some (cellsD cs), some (spotD (k + 1)), some (atD ns ah q), some (scD Γ), some (nD (s + 2)), some (.int v), some (.int (v % 16)), some (.int (v / 16)), none, none, none, none, none] = .ok (.bool (!q)) [some (cellsD cs), some (spotD (k + 1)), some (atD ns ah q), some (scD Γ), some (nD (s + 2)), some (.int v), some (.int (v % 16)), some (.int (v / 16)), none, none, none, none, none] := ev_not (ev_idx (ev_var 2 rfl) (ev_lit _) (at_qu ns ah q))
  have pre3 : ∀ {r}, Mp.execs (P n) (d__law_expression.body.drop 5) [some (cellsD cs), some (spotD (k + 1)), some (atD ns ah q), some (scD Γ), some (nD (s + 2)), some (.int v), some (.int (v % 16)), some (.int (v / 16)), none, none, none, none, none] = r → Mp.execs (P n) (d__law_expression.body.drop 2) [some (cellsD cs), some (spotD (k + 1)), some (atD ns ah q), some (scD Γ), some (nD (s + 2)), some (.int v), some (.int (v % 16)), some (.int (v / 16)), none, none, none, none, none] = r := fun hr => execs_if_not c1 (execs_if_not ((cl 5).trans (by rw [decide_eq_false h2])) (execs_if_not ((ce 5).trans (by rw [decide_eq_false h3])) hr))
  by_cases h4 : v % 16 < 9
  · obtain ⟨j, hj⟩ := Int.eq_ofNat_of_zero_le (show 0 ≤ v / 16 % 5 by omega)
    have hj5 : j < 5 := by omega
    obtain ⟨x, hx, _⟩ := hns.ok j (by omega)
    have hix : index (.list (ns.map .str)) (.int (v / 16 % 5)) = some (.str x) := by rw [hj]; exact index_list_str hx
    obtain ⟨d1, k1, hd1, hw1, hl1, hu1⟩ := sub_call (t := s + 2) hE (n := n) (by omega) hns hah (Γ := Γ) (by omega) (k := k + 1) (by omega) (by omega) (j := 3) (s := 1) (by omega) (q := q) (e := [some (cellsD cs), some (spotD (k + 1)), some (atD ns ah q), some (scD Γ), some (nD (s + 2)), some (.int v), some (.int (v % 16)), some (.int (v / 16)), some (.str x), none, none, none, none]) rfl rfl rfl rfl rfl
    have hfl := List.length_filter_le (fun z => !(decide (z = x))) Γ
    have hin : ev (P n) (.bin .add (.lc (.var 11) (.nm 11) .seq [.var 3] [.cmp .ne (.var 11) (.var 8)] [11]) (.lst [.var 8])) [some (cellsD cs), some (spotD k1), some (atD ns ah q), some (scD Γ), some (nD (s + 2)), some (.int v), some (.int (v % 16)), some (.int (v / 16)), some (.str x), some d1, none, none, none] = .ok (scD (Γ.filter (fun z => !(decide (z = x))) ++ [x])) [some (cellsD cs), some (spotD k1), some (atD ns ah q), some (scD Γ), some (nD (s + 2)), some (.int v), some (.int (v % 16)), some (.int (v / 16)), some (.str x), some d1, none, none, none] := by
      refine ev_bin (x := .list ((Γ.filter (fun z => !(decide (z = x)))).map .str)) (y := .list [.str x]) (ev_lc_sel Γ PyData.str PyData.str _ (evs_one (ev_var 3 rfl)) rfl (fun z hz => ev_cmp (ev_var 11 rfl) (ev_var 8 rfl) (cmp_ne_str z x)) (fun z hz => ev_var 11 rfl) (fun _ _ => rfl) (by omega) rfl) (ev_lst (evs_one (ev_var 8 rfl)) (by simp)) ?_
      rw [bin_add_list, if_pos (by rw [okLen, decide_eq_true_eq, List.length_map]; simp only [List.length_cons, List.length_nil]; omega)]
      simp [scD]
    obtain ⟨d2, k2, hd2, hw2, hl2, hu2⟩ := sub_call (t := s + 2) hE (n := n) (by omega) hns hah (Γ := (Γ.filter (fun z => !(decide (z = x))) ++ [x])) (by rw [List.length_append]; simp only [List.length_cons, List.length_nil]; omega) (k := k1) (by omega) (by omega) (j := 10) (s := 1) (by omega) (q := q) (e := [some (cellsD cs), some (spotD k1), some (atD ns ah q), some (scD Γ), some (nD (s + 2)), some (.int v), some (.int (v % 16)), some (.int (v / 16)), some (.str x), some d1, some (scD (Γ.filter (fun z => !(decide (z = x))) ++ [x])), none, none]) rfl rfl rfl rfl rfl
    refine ⟨.tuple [.str "let", .str x, d1, d2], k2, [some (cellsD cs), some (spotD k2), some (atD ns ah q), some (scD Γ), some (nD (s + 2)), some (.int v), some (.int (v % 16)), some (.int (v / 16)), some (.str x), some d1, some (scD (Γ.filter (fun z => !(decide (z = x))) ++ [x])), none, none], pre3 (execs_if_body (e1 := [some (cellsD cs), some (spotD (k + 1)), some (atD ns ah q), some (scD Γ), some (nD (s + 2)), some (.int v), some (.int (v % 16)), some (.int (v / 16)), none, none, none, none, none]) ((cl 9).trans (by rw [decide_eq_true h4])) (execs_set (ev_idx (ev_idx (ev_var 2 rfl) (ev_lit _) (at_nm ns ah q)) (ev_bin (ev_var 7 rfl) (ev_lit _) (bmd _ _ (by decide))) hix) (execs_set hd1 (execs_set hin (execs_ret1 (ev_tupc (evs_c (ev_lit _) (evs_c (ev_var 8 rfl) (evs_c (ev_var 9 rfl) (evs_c hd2 evs_nil)))) (by simp))))))), rfl, wf_lt hw1 (hw2.mono (Nat.le_refl _) fun z hz => ?_), by omega, by omega⟩
    rcases List.mem_append.mp hz with hz | hz
    · exact List.mem_cons_of_mem _ (List.mem_filter.mp hz).1
    · rw [List.mem_singleton.mp hz]
      exact List.mem_cons_self
  by_cases h5 : v % 16 = 9
  · obtain ⟨ds, k', hds, hlen, hq, hl, hu⟩ := draws_lc (t := s + 2) hE (n := n) (by omega) hns hah (q := q) (Γ := Γ) (by omega) (k := k + 1) (by omega) 3 (by omega) (by omega) (by omega) (some (.int v)) (some (.int (v % 16))) (some (.int (v / 16))) none none none none (its := [.lit (.int 3)]) (evs_one (ev_lit _))
    obtain ⟨a, b, c, rfl⟩ : ∃ a b c, ds = [a, b, c] := by
      match ds, hlen with
      | [a, b, c], _ => exact ⟨a, b, c, rfl⟩
    exact ⟨.tuple [.str "if", a, b, c], k', [some (cellsD cs), some (spotD k'), some (atD ns ah q), some (scD Γ), some (nD (s + 2)), some (.int v), some (.int (v % 16)), some (.int (v / 16)), none, none, none, none, none], pre3 (execs_if_not ((cl 9).trans (by rw [decide_eq_false h4])) (execs_if_ret ((ce 9).trans (by rw [decide_eq_true h5])) (by
      rw [ev, ev_tup (evs_one (ev_lit _)) (by simp), Out.bind_ok, ev_blt (evs_one hds) (bf_tuple_l _), Out.bind_ok]
      rfl))), rfl, wf_oth (Hd.ite a b c) (by simp) hq, by omega, by omega⟩
  have pre5 : ∀ {r}, Mp.execs (P n) (d__law_expression.body.drop 7) [some (cellsD cs), some (spotD (k + 1)), some (atD ns ah q), some (scD Γ), some (nD (s + 2)), some (.int v), some (.int (v % 16)), some (.int (v / 16)), none, none, none, none, none] = r → Mp.execs (P n) (d__law_expression.body.drop 2) [some (cellsD cs), some (spotD (k + 1)), some (atD ns ah q), some (scD Γ), some (nD (s + 2)), some (.int v), some (.int (v % 16)), some (.int (v / 16)), none, none, none, none, none] = r := fun hr => pre3 (execs_if_not ((cl 9).trans (by rw [decide_eq_false h4])) (execs_if_not ((ce 9).trans (by rw [decide_eq_false h5])) hr))
  have c6 := ev_and2 (cl 12) cq
  cases h6 : (decide (v % 16 < 12) && !q) with
  | true =>
    obtain ⟨d1, k1, hd1, hw1, hl1, hu1⟩ := sub_call (t := s + 2) hE (n := n) (by omega) hns hah (Γ := Γ) (by omega) (k := k + 1) (by omega) (by omega) (j := 3) (s := 1) (by omega) (q := q) (e := [some (cellsD cs), some (spotD (k + 1)), some (atD ns ah q), some (scD Γ), some (nD (s + 2)), some (.int v), some (.int (v % 16)), some (.int (v / 16)), none, none, none, none, none]) rfl rfl rfl rfl rfl
    obtain ⟨d2, k2, hd2, hw2, hl2, hu2⟩ := sub_call (t := s + 2) hE (n := n) (by omega) hns hah (Γ := Γ) (by omega) (k := k1) (by omega) (by omega) (j := 3) (s := 1) (by omega) (q := q) (e := [some (cellsD cs), some (spotD k1), some (atD ns ah q), some (scD Γ), some (nD (s + 2)), some (.int v), some (.int (v % 16)), some (.int (v / 16)), none, some d1, none, none, none]) rfl rfl rfl rfl rfl
    refine ⟨.tuple [.str "tell", d1, d2], k2, [some (cellsD cs), some (spotD k2), some (atD ns ah q), some (scD Γ), some (nD (s + 2)), some (.int v), some (.int (v % 16)), some (.int (v / 16)), none, some d1, none, none, none], pre5 (execs_if_body (c6.trans (by rw [h6])) (execs_set hd1 (execs_ret1 (ev_tupc (evs_c (ev_lit _) (evs_c (ev_var 9 rfl) (evs_c hd2 evs_nil))) (by simp))))), rfl, wf_oth (Hd.tell _ _) (by simp) fun p hp => ?_, by omega, by omega⟩
    rcases List.mem_cons.mp hp with rfl | hp
    · exact hw1
    · rw [List.mem_singleton.mp hp]
      exact hw2
  | false =>
    have c7 := ev_and3 (ce 12) cq (ev_cmp (ev_bin (ev_var (e := [some (cellsD cs), some (spotD (k + 1)), some (atD ns ah q), some (scD Γ), some (nD (s + 2)), some (.int v), some (.int (v % 16)), some (.int (v / 16)), none, none, none, none, none]) 7 rfl) (ev_lit _) (bmd _ _ (show (0 : Int) < 4 by decide))) (ev_lit (.int 1)) (cmp_eq_int _ _))
    cases h7 : (decide (v % 16 = 12) && ((!q) && decide (v / 16 % 4 = 1))) with
    | true =>
      obtain ⟨d1, k1, hd1, hw1, hl1, hu1⟩ := sub_call (t := s + 2) hE (n := n) (by omega) hns hah (Γ := Γ) (by omega) (k := k + 1) (by omega) (by omega) (j := 3) (s := 1) (by omega) (q := q) (e := [some (cellsD cs), some (spotD (k + 1)), some (atD ns ah q), some (scD Γ), some (nD (s + 2)), some (.int v), some (.int (v % 16)), some (.int (v / 16)), none, none, none, none, none]) rfl rfl rfl rfl rfl
      refine ⟨.tuple [.str "stop", d1], k1, [some (cellsD cs), some (spotD k1), some (atD ns ah q), some (scD Γ), some (nD (s + 2)), some (.int v), some (.int (v % 16)), some (.int (v / 16)), none, none, none, none, none], pre5 (execs_if_not (c6.trans (by rw [h6])) (execs_if_ret (c7.trans (by rw [h7])) (ev_tupc (evs_c (ev_lit _) (evs_c hd1 evs_nil)) (by simp)))), rfl, wf_oth (Hd.stop _) (by simp) fun p hp => ?_, by omega, by omega⟩
      rw [List.mem_singleton.mp hp]
      exact hw1
    | false =>
      obtain ⟨d, k', hd, hw, hl, hu⟩ := op_of hE (n := n) (by omega) hns hah (q := q) (Γ := Γ) (k := k + 1) (v := v / 16) (by omega) (by omega) (by omega) hm
      exact ⟨d, k', [some (cellsD cs), some (spotD k'), some (atD ns ah q), some (scD Γ), some (nD (s + 2)), some (.int v), some (.int (v % 16)), some (.int (v / 16)), none, none, none, none, none], pre5 (execs_if_not (c6.trans (by rw [h6])) (execs_if_not (c7.trans (by rw [h7])) (execs_ret1 (ev_call1 rfl rfl rfl rfl (evs_cons (ev_var 0 rfl) (evs_cons (ev_var 1 rfl) (evs_cons (ev_var 2 rfl) (evs_cons (ev_var 3 rfl) (evs_cons (ev_var 4 rfl) (evs_cons (ev_var 7 rfl) evs_nil)))))) rfl hd)))), rfl, hw, by omega, by omega⟩
theorem EP_all {cs : List Int} (hcs : cs.length ≤ 1000) : ∀ t, EP cs t ∧ EP cs (t + 1)
  | 0 => ⟨EP_small hcs (by decide), EP_small hcs (by decide)⟩
  | t + 1 => ⟨(EP_all hcs t).2, EP_big hcs (EP_all hcs t).2 (EP_all hcs t).1⟩
end K06.Pu

namespace K06.Pu
open K06 PySem Mp
theorem execs_app {p : Px} {i : Nat} {a : Ex} {rest : List Mp.St} {e e1 : En} {x : D} {xs : List D} {r : Out Fl} (hl : listAt e i = true) (h : ev p a e = .ok x e1) (hx : e1[i]?.getD none = some (.list xs)) (hlen : xs.length ≤ 16777215) (hr : Mp.execs p rest (setE e1 i (.list (xs ++ [x]))) = r) : Mp.execs p (.app i a :: rest) e = r := by
  rw [Mp.execs, Mp.exec, if_pos hl, h, Out.bind_ok]
  unfold atSlot
  rw [hx]
  simp only [appOp]
  rw [if_pos (by rw [okLen, decide_eq_true_eq]; omega)]
  exact hr
theorem execs_for {p : Px} {tg : Tg} {k : IK} {its : List Ex} {b rest : List Mp.St} {e e1 e2 : En} {ds items : List D} {r : Out Fl} (hits : evs p its e = .ok ds e1) (hk : itemsK k ds = some items) (hl : loopF tg (fun e => Mp.execs p b e) items e1 = .ok .nx e2) (hr : Mp.execs p rest e2 = r) : Mp.execs p (.for_ tg k its b :: rest) e = r := by
  rw [Mp.execs, Mp.exec, hits, Out.bind_ok]
  simp only [hk]
  rw [hl]
  exact hr
theorem ev_binc {p : Px} {o : Bo} {a b : Ex} {e e1 e2 : En} {x y z : D} (ha : ev p a e = .ok x e1) (hb : ev p b e1 = .ok y e2) (hz : Mp.bin o x y = some z) : ev p (.bin o a b) e = .ok z e2 := by
  rw [ev, ha, Out.bind_ok, hb, Out.bind_ok, hz]
  rfl
theorem ev_dic {p : Px} {as : List Ex} {e : En} {xs : List D} {d : D} (h : evs p as e = .ok xs e) (hd : dispD xs = some d) : ev p (.dic as) e = .ok d e := by
  rw [ev, h, Out.bind_ok, hd]
  rfl
theorem disp_at (a b c : D) : dispD [.str "names", a, .str "ahead", b, .str "quiet", c] = some (.dict [(.str "names", a), (.str "ahead", b), (.str "quiet", c)]) := by
  simp [dispD, pairUp, Mp.keyOk, dput, eqv_str]
def FnOk (g : Fu) : Prop := nmOk g.1 = true ∧ WF 6 g.2.1 g.2.2 ∧ g.2.1.Nodup ∧ g.2.1.length ≤ 3
theorem rng_small {c : Nat} (hc : c ≤ 1000) : itemsK .rng [.int (c : Int)] = some ((List.range c).map fun (i : Nat) => .int i) := by
  have h1 : (-4611686018427387904 : Int) ≤ c := by omega
  have h2 : (c : Int) < 4611686018427387904 := by omega
  simp [h1, h2]
theorem small_3 : small64 3 = true := by decide +kernel
/-- one function more -/
theorem fn_step {cs : List Int} (hcs : cs.length ≤ 1000) {n : Nat} (hn : 20 ≤ n) {ns rs : List Str} (hns : NS ns) (hrs : NS rs) {ah : List Ah} (hah : AH ah) (hahl : ah.length ≤ 900) {mods : List (Str × List Fu)} {fs : List Fu} (hfl : fs.length ≤ 100) {kk j : Nat} (hkk : kk < 3) {n0 : D} {k : Int} (hk : -1 ≤ k) (hk2 : k ≤ 100000) (x11 x12 x13 x14 x15 : Option D) :
    ∃ k' a g y11 y12 y13 y14 y15, Mp.execs (P n) [.set 11 (.call 15 [.var 0, .var 1]),
      .set 12 (.lc (.idx (.var 7) (.bin .mod (.bin .add (.var 11) (.bin .mul (.lit (.int 3)) (.var 16))) (.lit (.int 5)))) (.nm 16) .rng [.bin .mod (.bin .fdiv (.var 11) (.lit (.int 5))) (.lit (.int 4))] [] [16]),
      .set 13 (.dic [.lit (.str "names"), .var 7, .lit (.str "ahead"), .var 4, .lit (.str "quiet"), .cmp .eq (.bin .mod (.bin .fdiv (.var 11) (.lit (.int 20))) (.lit (.int 3))) (.lit (.int 0))]),
      .set 14 (.call 22 [.var 0, .var 1, .var 13, .var 12, .bin .add (.lit (.int 2)) (.bin .mod (.bin .fdiv (.var 11) (.lit (.int 60))) (.lit (.int 4)))]),
      .set 15 (.idx (.var 8) (.bin .mod (.bin .add (.bin .add (.bin .mod (.bin .fdiv (.var 11) (.lit (.int 240))) (.lit (.int 3))) (.lit (.int 5))) (.bin .mul (.lit (.int 3)) (.var 10))) (.lit (.int 16)))),
      .app 9 (.tup [.var 15, .blt .tuple [.var 12], .var 14]),
      .set 4 (.bin .add (.var 4) (.lst [.tup [.idx (.var 8) (.var 6), .var 15, .blt .len [.var 12], .idx (.var 13) (.lit (.str "quiet"))]]))]
      [some (cellsD cs), some (spotD k), some (.int 3), some n0, some (.list (ah.map ahD)), some (.list (mods.map modD)), some (nD kk), some (.list (ns.map .str)), some (.list (rs.map .str)), some (.list (fs.map fnD)), some (nD j), x11, x12, x13, x14, x15, none] =
      .ok .nx [some (cellsD cs), some (spotD k'), some (.int 3), some n0, some (.list ((ah ++ [a]).map ahD)), some (.list (mods.map modD)), some (nD kk), some (.list (ns.map .str)), some (.list (rs.map .str)), some (.list ((fs ++ [g]).map fnD)), some (nD j), y11, y12, y13, y14, y15, none] ∧
      a.2.2.1 ≤ 3 ∧ FnOk g ∧ k ≤ k' ∧ k' ≤ k + 1025 := by
  obtain ⟨v, hv, hcell⟩ := cell_of (n := n) (cs := cs) (k := k) (by omega) hk (by omega) hcs
  obtain ⟨m, rfl⟩ := Int.eq_ofNat_of_zero_le hv
  have hg : ∀ i, i < 3 → ∃ x, ns[(m + 3 * i) % 5]? = some x := fun i hi => by
    obtain ⟨x, hx, _⟩ := hns.ok ((m + 3 * i) % 5) (by omega)
    exact ⟨x, hx⟩
  -- the params
  generalize hps : (List.range (m / 5 % 4)).map (fun i => ns[(m + 3 * i) % 5]?.getD ⟨#[]⟩) = ps
  have hpsl : ps.length ≤ 3 := by
    rw [← hps, List.length_map, List.length_range]
    omega
  have hpsn : ps.Nodup := by
    rw [← hps]
    refine List.pairwise_map.mpr (List.pairwise_iff_getElem.mpr fun a b ha hb hab he => ?_)
    rw [List.length_range] at ha hb
    rw [List.getElem_range, List.getElem_range] at he
    obtain ⟨x, hx⟩ := hg a (by omega)
    obtain ⟨y, hy⟩ := hg b (by omega)
    rw [hx, hy] at he
    have hxy : x = y := he
    have := hns.ne ((m + 3 * a) % 5) ((m + 3 * b) % 5) x (by omega) (by omega) hx (hxy ▸ hy)
    omega
  have h12 : ∀ {e : En}, e = [some (cellsD cs), some (spotD (k + 1)), some (.int 3), some n0, some (.list (ah.map ahD)), some (.list (mods.map modD)), some (nD kk), some (.list (ns.map .str)), some (.list (rs.map .str)), some (.list (fs.map fnD)), some (nD j), some (.int (m : Int)), x12, x13, x14, x15, none] →
      ev (P n) (.lc (.idx (.var 7) (.bin .mod (.bin .add (.var 11) (.bin .mul (.lit (.int 3)) (.var 16))) (.lit (.int 5)))) (.nm 16) .rng [.bin .mod (.bin .fdiv (.var 11) (.lit (.int 5))) (.lit (.int 4))] [] [16]) e = .ok (scD ps) e := by
    rintro e rfl
    have h := ev_lc_map (p := P n) (elt := .idx (.var 7) (.bin .mod (.bin .add (.var 11) (.bin .mul (.lit (.int 3)) (.var 16))) (.lit (.int 5)))) (i := 16) (k := .rng) (own := [16]) (its := [.bin .mod (.bin .fdiv (.var 11) (.lit (.int 5))) (.lit (.int 4))]) (ds := [.int ((m / 5 % 4 : Nat) : Int)]) (e := [some (cellsD cs), some (spotD (k + 1)), some (.int 3), some n0, some (.list (ah.map ahD)), some (.list (mods.map modD)), some (nD kk), some (.list (ns.map .str)), some (.list (rs.map .str)), some (.list (fs.map fnD)), some (nD j), some (.int (m : Int)), x12, x13, x14, x15, none]) (List.range (m / 5 % 4)) (fun i : Nat => .int (i : Int)) (fun i => .str (ns[(m + 3 * i) % 5]?.getD ⟨#[]⟩))
      (evs_one (ev_bin (ev_bin (ev_var 11 rfl) (ev_lit _) (bfd _ _ (by decide) (by decide))) (ev_lit _) ((bmd _ _ (by decide)).trans (by rw [show ((m : Int) / 5 % 4) = ((m / 5 % 4 : Nat) : Int) from by omega])))) (rng_small (by omega)) (fun i hi => by
        have hi := List.mem_range.mp hi
        obtain ⟨x, hx⟩ := hg i (by omega)
        have hix : index (.list (ns.map .str)) (.int (((m : Int) + 3 * (i : Int)) % 5)) = some (.str x) := by
          rw [show ((m : Int) + 3 * (i : Int)) % 5 = (((m + 3 * i) % 5 : Nat) : Int) from by omega]
          exact index_list_str hx
        rw [hx]
        exact ev_idx (ev_var 7 rfl) (ev_bin (ev_bin (ev_var 11 rfl) (ev_bin (ev_lit _) (ev_var 16 rfl) (bml _ _ small_3)) rfl) (ev_lit _) (bmd _ _ (by decide))) hix) (fun _ _ => rfl) (by rw [List.length_range]; omega) rfl
    rw [h, scD, ← hps, List.map_map]
    rfl
  -- what is ahead
  generalize hq : decide ((m : Int) / 20 % 3 = 0) = q
  obtain ⟨t, ht⟩ : ∃ t : Nat, t = 2 + m / 60 % 4 := ⟨_, rfl⟩
  have hpow : (4 ^ t : Nat) ≤ 4 ^ 5 := Nat.pow_le_pow_right (by omega) (by omega)
  have hpow' : ((4 ^ t : Nat) : Int) ≤ 1024 := by omega
  obtain ⟨d, k', hF, hw, hl, hu⟩ := (EP_all hcs t).1 n (by omega) ns ah q ps (k + 1) hns hah (by omega) (by omega) (by omega)
  obtain ⟨nm, hnm, hno⟩ := hrs.ok ((m / 240 % 3 + 5 + 3 * j) % 16) (by omega)
  obtain ⟨mn, hmn, _⟩ := hrs.ok kk (by omega)
  have hin : index (.list (rs.map .str)) (.int (((m : Int) / 240 % 3 + 5 + 3 * (j : Int)) % 16)) = some (.str nm) := by
    rw [show ((m : Int) / 240 % 3 + 5 + 3 * (j : Int)) % 16 = (((m / 240 % 3 + 5 + 3 * j) % 16 : Nat) : Int) from by omega]
    exact index_list_str hnm
  have hlp : bf .len [scD ps] = some (.int (ps.length : Int)) := by rw [scD, bf_len_l, List.length_map]
  refine ⟨k', (mn, nm, ps.length, q), (nm, ps, d), some (.int (m : Int)), some (scD ps), some (atD ns ah q), some d, some (.str nm), ?_, hpsl, ⟨hno, hw.mono (by omega) fun _ h => h, hpsn, hpsl⟩, by omega, by omega⟩
  refine execs_set (ev_call1 rfl rfl rfl rfl (evs_cons (ev_var 0 rfl) (evs_cons (ev_var 1 rfl) evs_nil)) rfl hcell) (execs_set (h12 rfl) (execs_set (ev_dic (evs_cons (ev_lit _) (evs_cons (ev_var 7 rfl) (evs_cons (ev_lit _) (evs_cons (ev_var 4 rfl) (evs_cons (ev_lit _) (evs_cons (ev_cmp (ev_bin (ev_bin (ev_var 11 rfl) (ev_lit _) (bfd _ _ (by decide) (by decide))) (ev_lit _) (bmd _ _ (by decide))) (ev_lit _) ((cmp_eq_int _ _).trans (by rw [hq]))) evs_nil)))))) (disp_at _ _ _)) (execs_set (ev_call1 rfl rfl rfl rfl (evs_cons (ev_var 0 rfl) (evs_cons (ev_var 1 rfl) (evs_cons (ev_var 13 rfl) (evs_cons (ev_var 12 rfl) (evs_cons (ev_bin (z := nD t) (ev_lit _) (ev_bin (ev_bin (ev_var 11 rfl) (ev_lit _) (bfd _ _ (by decide) (by decide))) (ev_lit _) (bmd _ _ (by decide))) (by rw [bin_add_int, nD, ht]; congr 2)) evs_nil))))) rfl hF) (execs_set (ev_idx (ev_var 8 rfl) (ev_bin (ev_bin (ev_bin (ev_bin (ev_bin (ev_var 11 rfl) (ev_lit _) (bfd _ _ (by decide) (by decide))) (ev_lit _) (bmd _ _ (by decide))) (ev_lit _) rfl) (ev_bin (ev_lit _) (ev_var 10 rfl) (bml _ _ small_3)) rfl) (ev_lit _) (bmd _ _ (by decide))) hin) (execs_app (xs := fs.map fnD) rfl (ev_tup (evs_cons (ev_var 15 rfl) (evs_cons (ev_blt (evs_one (ev_var 12 rfl)) (bf_tuple_l _)) (evs_cons (ev_var 14 rfl) evs_nil))) (by simp)) rfl (by rw [List.length_map]; omega) (execs_set (ev_bin (z := .list ((ah ++ [(mn, nm, ps.length, q)]).map ahD)) (ev_var 4 rfl) (ev_lst (evs_one (ev_tup (evs_cons (ev_idx (ev_var 8 rfl) (ev_var 6 rfl) (index_list_str hmn)) (evs_cons (ev_var 15 rfl) (evs_cons (ev_blt (evs_one (ev_var 12 rfl)) hlp) (evs_cons (ev_idx (ev_var 13 rfl) (ev_lit _) (at_qu ns ah q)) evs_nil)))) (by simp))) (by simp)) ?_) ?_))))))
  · rw [bin_add_list, if_pos (by rw [okLen, decide_eq_true_eq, List.length_map]; simp only [List.length_cons, List.length_nil]; omega), List.map_append]
    rfl
  · rw [execs_nil]
    simp only [List.map_append]
    rfl
end K06.Pu

namespace K06.Pu
open K06 PySem Mp
abbrev fnBody : List Mp.St := [.set 11 (.call 15 [.var 0, .var 1]),
      .set 12 (.lc (.idx (.var 7) (.bin .mod (.bin .add (.var 11) (.bin .mul (.lit (.int 3)) (.var 16))) (.lit (.int 5)))) (.nm 16) .rng [.bin .mod (.bin .fdiv (.var 11) (.lit (.int 5))) (.lit (.int 4))] [] [16]),
      .set 13 (.dic [.lit (.str "names"), .var 7, .lit (.str "ahead"), .var 4, .lit (.str "quiet"), .cmp .eq (.bin .mod (.bin .fdiv (.var 11) (.lit (.int 20))) (.lit (.int 3))) (.lit (.int 0))]),
      .set 14 (.call 22 [.var 0, .var 1, .var 13, .var 12, .bin .add (.lit (.int 2)) (.bin .mod (.bin .fdiv (.var 11) (.lit (.int 60))) (.lit (.int 4)))]),
      .set 15 (.idx (.var 8) (.bin .mod (.bin .add (.bin .add (.bin .mod (.bin .fdiv (.var 11) (.lit (.int 240))) (.lit (.int 3))) (.lit (.int 5))) (.bin .mul (.lit (.int 3)) (.var 10))) (.lit (.int 16)))),
      .app 9 (.tup [.var 15, .blt .tuple [.var 12], .var 14]),
      .set 4 (.bin .add (.var 4) (.lst [.tup [.idx (.var 8) (.var 6), .var 15, .blt .len [.var 12], .idx (.var 13) (.lit (.str "quiet"))]]))]
theorem fns_loop {cs : List Int} (hcs : cs.length ≤ 1000) {n : Nat} (hn : 20 ≤ n) {ns rs : List Str} (hns : NS ns) (hrs : NS rs) {ah : List Ah} (hah : AH ah) (hahl : ah.length ≤ 800) {mods : List (Str × List Fu)} {kk c : Nat} (hkk : kk < 3) (hc : c ≤ 3) {n0 : D} {k : Int} (hk : -1 ≤ k) (hk2 : k ≤ 90000) (x10 x11 x12 x13 x14 x15 : Option D) :
    ∃ e', loopF (.nm 10) (fun e => Mp.execs (P n) fnBody e) ((List.range c).map fun i : Nat => .int (i : Int)) [some (cellsD cs), some (spotD k), some (.int 3), some n0, some (.list (ah.map ahD)), some (.list (mods.map modD)), some (nD kk), some (.list (ns.map .str)), some (.list (rs.map .str)), some (.list []), x10, x11, x12, x13, x14, x15, none] = .ok .nx e' ∧
      ∃ (k' : Int) (ah' : List Ah) (fs : List Fu) (y10 y11 y12 y13 y14 y15 : Option D), e' = [some (cellsD cs), some (spotD k'), some (.int 3), some n0, some (.list (ah'.map ahD)), some (.list (mods.map modD)), some (nD kk), some (.list (ns.map .str)), some (.list (rs.map .str)), some (.list (fs.map fnD)), y10, y11, y12, y13, y14, y15, none] ∧
        AH ah' ∧ ah'.length ≤ ah.length + c ∧ fs.length ≤ c ∧ (∀ g ∈ fs, FnOk g) ∧ k ≤ k' ∧ k' ≤ k + 1025 * (c : Int) := by
  have h := loopF_map (tg := .nm 10) (body := fun e => Mp.execs (P n) fnBody e) (fun i : Nat => .int (i : Int)) (fun done e => ∃ (k' : Int) (ah' : List Ah) (fs : List Fu) (y10 y11 y12 y13 y14 y15 : Option D), e = [some (cellsD cs), some (spotD k'), some (.int 3), some n0, some (.list (ah'.map ahD)), some (.list (mods.map modD)), some (nD kk), some (.list (ns.map .str)), some (.list (rs.map .str)), some (.list (fs.map fnD)), y10, y11, y12, y13, y14, y15, none] ∧
        AH ah' ∧ ah'.length ≤ ah.length + done.length ∧ fs.length ≤ done.length ∧ (∀ g ∈ fs, FnOk g) ∧ k ≤ k' ∧ k' ≤ k + 1025 * (done.length : Int)) (xs := List.range c) (e := [some (cellsD cs), some (spotD k), some (.int 3), some n0, some (.list (ah.map ahD)), some (.list (mods.map modD)), some (nD kk), some (.list (ns.map .str)), some (.list (rs.map .str)), some (.list []), x10, x11, x12, x13, x14, x15, none])
    ⟨k, ah, [], x10, x11, x12, x13, x14, x15, rfl, hah, Nat.le_refl _, Nat.le_refl _, (fun g hg => by cases hg), by omega, by simp⟩ (by
      rintro done j more e hx ⟨k', ah', fs, y10, y11, y12, y13, y14, y15, rfl, hah', hl1, hl2, hfs, hk1, hk3⟩
      have hdl : done.length < c := by
        have := congrArg List.length hx
        rw [List.length_range, List.length_append, List.length_cons] at this
        omega
      obtain ⟨k2, a, g, z11, z12, z13, z14, z15, he, ha, hg, hl, hu⟩ := fn_step hcs hn hns hrs hah' (by omega) (mods := mods) (fs := fs) (by omega) (kk := kk) (j := j) hkk (n0 := n0) (k := k') (by omega) (by omega) y11 y12 y13 y14 y15
      refine ⟨_, _, rfl, .inl he, k2, ah' ++ [a], fs ++ [g], some (nD j), z11, z12, z13, z14, z15, rfl, ⟨?_, ?_⟩, ?_, ?_, ?_, by omega, ?_⟩
      · rw [List.length_append, List.length_singleton]
        have := hah'.1
        omega
      · intro b hb
        rcases List.mem_append.mp hb with hb | hb
        · exact hah'.2 b hb
        · rw [List.mem_singleton.mp hb]
          exact ha
      · rw [List.length_append, List.length_append, List.length_singleton, List.length_singleton]
        omega
      · rw [List.length_append, List.length_append, List.length_singleton, List.length_singleton]
        omega
      · intro b hb
        rcases List.mem_append.mp hb with hb | hb
        · exact hfs b hb
        · rw [List.mem_singleton.mp hb]
          exact hg
      · rw [List.length_append, List.length_singleton]
        push_cast
        omega)
  obtain ⟨e', he, k', ah', fs, y10, y11, y12, y13, y14, y15, h1, h2, h3, h4, h5, h6, h7⟩ := h
  rw [List.length_range] at h3 h4 h7
  exact ⟨e', he, k', ah', fs, y10, y11, y12, y13, y14, y15, h1, h2, h3, h4, h5, h6, h7⟩
abbrev modBody : List Mp.St := [.set 9 (.lst []),
    .for_ (.nm 10) .rng [.blt .max [.blt .int [.cmp .eq (.var 6) (.lit (.int 0))], .bin .mod (.bin .fdiv (.call 15 [.var 0, .var 1]) (.lit (.int 5))) (.bin .add (.var 2) (.lit (.int 1)))]] fnBody,
    .app 5 (.tup [.idx (.var 8) (.var 6), .blt .tuple [.var 9]])]
def MdOk (md : Str × List Fu) : Prop := nmOk md.1 = true ∧ md.2.length ≤ 3 ∧ ∀ g ∈ md.2, FnOk g
theorem mod_step {cs : List Int} (hcs : cs.length ≤ 1000) {n : Nat} (hn : 20 ≤ n) {ns rs : List Str} (hns : NS ns) (hrs : NS rs) {ah : List Ah} (hah : AH ah) (hahl : ah.length ≤ 800) {mods : List (Str × List Fu)} (hml : mods.length ≤ 100) {kk : Nat} (hkk : kk < 3) {n0 : D} {k : Int} (hk : -1 ≤ k) (hk2 : k ≤ 80000) (x9 x10 x11 x12 x13 x14 x15 : Option D) :
    ∃ (k' : Int) (ah' : List Ah) (md : Str × List Fu) (y9 y10 y11 y12 y13 y14 y15 : Option D), Mp.execs (P n) modBody [some (cellsD cs), some (spotD k), some (.int 3), some n0, some (.list (ah.map ahD)), some (.list (mods.map modD)), some (nD kk), some (.list (ns.map .str)), some (.list (rs.map .str)), x9, x10, x11, x12, x13, x14, x15, none] =
      .ok .nx [some (cellsD cs), some (spotD k'), some (.int 3), some n0, some (.list (ah'.map ahD)), some (.list ((mods ++ [md]).map modD)), some (nD kk), some (.list (ns.map .str)), some (.list (rs.map .str)), y9, y10, y11, y12, y13, y14, y15, none] ∧
      AH ah' ∧ ah'.length ≤ ah.length + 3 ∧ MdOk md ∧ k ≤ k' ∧ k' ≤ k + 3076 := by
  obtain ⟨v, hv, hcell⟩ := cell_of (n := n) (cs := cs) (k := k) (by omega) hk (by omega) hcs
  obtain ⟨c, hc3, hmx⟩ : ∃ c : Nat, c ≤ 3 ∧ bf .max [.int (if decide ((kk : Int) = 0) then 1 else 0), .int (v / 5 % 4)] = some (.int (c : Int)) := by
    by_cases hkz : (kk : Int) = 0
    · by_cases hgt : v / 5 % 4 > 1
      · exact ⟨(v / 5 % 4).toNat, by omega, by rw [decide_eq_true hkz]; simp only [bf, if_true, hgt]; congr 2; omega⟩
      · exact ⟨1, by omega, by rw [decide_eq_true hkz]; simp only [bf, if_true, hgt, if_false]; rfl⟩
    · by_cases hgt : v / 5 % 4 > 0
      · exact ⟨(v / 5 % 4).toNat, by omega, by rw [decide_eq_false hkz]; simp only [bf, Bool.false_eq_true, if_false, hgt, if_true]; congr 2; omega⟩
      · exact ⟨0, by omega, by rw [decide_eq_false hkz]; simp only [bf, Bool.false_eq_true, if_false, hgt]; rfl⟩
  obtain ⟨e', he', k', ah', fs, y10, y11, y12, y13, y14, y15, rfl, h2, h3, h4, h5, h6, h7⟩ := fns_loop hcs hn hns hrs hah hahl (mods := mods) (kk := kk) (c := c) hkk hc3 (n0 := n0) (k := k + 1) (by omega) (by omega) x10 x11 x12 x13 x14 x15
  obtain ⟨mn, hmn, hmo⟩ := hrs.ok kk (by omega)
  refine ⟨k', ah', (mn, fs), some (.list (fs.map fnD)), y10, y11, y12, y13, y14, y15, ?_, h2, by omega, ⟨hmo, by show fs.length ≤ 3; omega, h5⟩, by omega, by omega⟩
  refine execs_set (ev_lst evs_nil (by simp)) (execs_for (e1 := [some (cellsD cs), some (spotD (k + 1)), some (.int 3), some n0, some (.list (ah.map ahD)), some (.list (mods.map modD)), some (nD kk), some (.list (ns.map .str)), some (.list (rs.map .str)), some (.list []), x10, x11, x12, x13, x14, x15, none]) (evs_one (ev_blt (evs_c (ev_blt (d := .int (if decide ((kk : Int) = 0) then 1 else 0)) (evs_one (ev_cmp (ev_var 6 rfl) (ev_lit _) (nD_eq kk 0))) rfl) (evs_c (ev_binc (ev_binc (ev_call1 rfl rfl rfl rfl (evs_cons (ev_var 0 rfl) (evs_cons (ev_var 1 rfl) evs_nil)) rfl hcell) (ev_lit _) (bfd _ _ (by decide) (by decide))) (ev_binc (ev_var 2 rfl) (ev_lit _) (bin_add_int 3 1)) (bmd _ _ (by decide))) evs_nil)) hmx)) (rng_small (by omega)) he' (execs_app (xs := mods.map modD) rfl (ev_tup (evs_cons (ev_idx (ev_var 8 rfl) (ev_var 6 rfl) (index_list_str hmn)) (evs_cons (ev_blt (evs_one (ev_var 9 rfl)) (bf_tuple_l _)) evs_nil)) (by simp)) rfl (by rw [List.length_map]; omega) ?_))
  rw [execs_nil]
  simp only [List.map_append]
  rfl
theorem runDf_io {p : Px} {d : Df} {ds : List D} {e0 e : En} {v s s' : D} (h1 : ds.length = d.ps) (ho : (d.own.all fun i => d.io.contains i || !((ds[i]?.map isMut).getD false)) = true) (hio : d.io = [1]) (hs : ds[1]? = some s) (hm : isMut s = true) (he : ds.map some ++ List.replicate (d.n - ds.length) none = e0) (h : Mp.execs p d.body e0 = .ok (.ret v) e) (hs' : e[1]?.getD none = some s') : runDf p d ds = .ok v [s'] := by
  unfold runDf
  rw [if_pos ⟨h1, ho, by rw [hio, List.all_cons, hs]; show (isMut s && _) = true; rw [hm]; rfl⟩, he, h, hio]
  simp only [iosOf, hs', Option.map_some]
structure PgOk (p : Pg) : Prop where
  len : p.length ≤ 3
  ok : ∀ md ∈ p, MdOk md
theorem program_of {cs : List Int} (hcs : cs.length ≤ 1000) {n : Nat} (hn : 21 ≤ n) {k : Int} (hk : -1 ≤ k) (hk2 : k ≤ 70000) : ∃ p k', (P n).F 23 [cellsD cs, spotD k, .int 3] = .ok (progD p) [spotD k'] ∧ PgOk p ∧ k ≤ k' ∧ k' ≤ k + 9300 := by
  suffices hh : ∃ d k', (P n).F 23 [cellsD cs, spotD k, .int 3] = .ok d [spotD k'] ∧ ∃ p, d = progD p ∧ PgOk p ∧ k ≤ k' ∧ k' ≤ k + 9300 by
    obtain ⟨d, k', h, p, rfl, h2⟩ := hh
    exact ⟨p, k', h, h2⟩
  refine at_ex (c := 20) (Q := fun R => ∃ d k', R = .ok d [spotD k'] ∧ ∃ p, d = progD p ∧ PgOk p ∧ k ≤ k' ∧ k' ≤ k + 9300) (d := d__law_program) rfl (fun n hn => ?_) n hn
  obtain ⟨v, hv, hcell⟩ := cell_of (n := n) (cs := cs) (k := k) (by omega) hk (by omega) hcs
  obtain ⟨j1, a1, b1, hj1, ha1, hb1, hN1⟩ := at_names hv
  obtain ⟨j2, a2, b2, hj2, ha2, hb2, hN2⟩ := at_names (v := v / 7) (by omega)
  have hns : NS (nms j1 a1 b1) := ⟨fun k hk => by obtain ⟨x, hx, hn, _⟩ := nms_at (a := a1) (b := b1) hj1 hk; exact ⟨x, hx, hn⟩, fun k k' x hk hk' h h' => nms_ne hj1 ha1 hb1 hk hk' h h'⟩
  have hrs : NS (nms j2 a2 b2) := ⟨fun k hk => by obtain ⟨x, hx, hn, _⟩ := nms_at (a := a2) (b := b2) hj2 hk; exact ⟨x, hx, hn⟩, fun k k' x hk hk' h h' => nms_ne hj2 ha2 hb2 hk hk' h h'⟩
  have hF1 := hN1 n (by omega)
  have hF2 := hN2 n (by omega)
  generalize nms j1 a1 b1 = ns at hns hF1
  generalize nms j2 a2 b2 = rs at hrs hF2
  obtain ⟨c, hc, hc3⟩ : ∃ c : Nat, 1 + v / 384 % 3 = (c : Int) ∧ c ≤ 3 := ⟨(1 + v / 384 % 3).toNat, by omega, by omega⟩
  have h := loopF_map (tg := .nm 6) (body := fun e => Mp.execs (P n) modBody e) (fun i : Nat => .int (i : Int)) (fun done e => ∃ (k' : Int) (ah : List Ah) (mods : List (Str × List Fu)) (x6 x9 x10 x11 x12 x13 x14 x15 : Option D), e = [some (cellsD cs), some (spotD k'), some (.int 3), some (.int v), some (.list (ah.map ahD)), some (.list (mods.map modD)), x6, some (.list (ns.map .str)), some (.list (rs.map .str)), x9, x10, x11, x12, x13, x14, x15, none] ∧
        AH ah ∧ ah.length ≤ 3 * done.length ∧ mods.length ≤ done.length ∧ (∀ md ∈ mods, MdOk md) ∧ k + 1 ≤ k' ∧ k' ≤ k + 1 + 3076 * (done.length : Int)) (xs := List.range c) (e := [some (cellsD cs), some (spotD (k + 1)), some (.int 3), some (.int v), some (.list []), some (.list []), none, some (.list (ns.map .str)), some (.list (rs.map .str)), none, none, none, none, none, none, none, none])
    ⟨k + 1, [], [], none, none, none, none, none, none, none, none, rfl, ⟨by simp, fun a h => by cases h⟩, by simp, by simp, (fun g hg => by cases hg), by omega, by simp⟩ (by
      rintro done j more e hx ⟨k', ah, mods, x6, x9, x10, x11, x12, x13, x14, x15, rfl, hah, hl1, hl2, hms, hk1, hk3⟩
      have hdl : done.length < c := by
        have := congrArg List.length hx
        rw [List.length_range, List.length_append, List.length_cons] at this
        omega
      have hjc : j < c := List.mem_range.mp (by rw [hx]; simp)
      obtain ⟨k2, ah2, md, y9, y10, y11, y12, y13, y14, y15, he, hah2, hl3, hmd, hl, hu⟩ := mod_step hcs (by omega) hns hrs hah (by omega) (mods := mods) (by omega) (kk := j) (by omega) (n0 := .int v) (k := k') (by omega) (by omega) x9 x10 x11 x12 x13 x14 x15
      refine ⟨_, _, rfl, .inl he, k2, ah2, mods ++ [md], some (nD j), y9, y10, y11, y12, y13, y14, y15, rfl, hah2, ?_, ?_, ?_, by omega, ?_⟩
      · rw [List.length_append, List.length_singleton]
        omega
      · rw [List.length_append, List.length_append, List.length_singleton, List.length_singleton]
        omega
      · intro b hb
        rcases List.mem_append.mp hb with hb | hb
        · exact hms b hb
        · rw [List.mem_singleton.mp hb]
          exact hmd
      · rw [List.length_append, List.length_singleton]
        push_cast
        omega)
  obtain ⟨e', he, k', ah, mods, x6, x9, x10, x11, x12, x13, x14, x15, rfl, h2, h3, h4, h5, h6, h7⟩ := h
  rw [List.length_range] at h3 h4 h7
  refine ⟨progD mods, k', runDf_io (d := d__law_program) (s := spotD k) (e0 := [some (cellsD cs), some (spotD k), some (.int 3), none, none, none, none, none, none, none, none, none, none, none, none, none, none]) rfl rfl rfl rfl rfl rfl (e := [some (cellsD cs), some (spotD k'), some (.int 3), some (.int v), some (.list (ah.map ahD)), some (.list (mods.map modD)), x6, some (.list (ns.map .str)), some (.list (rs.map .str)), x9, x10, x11, x12, x13, x14, x15, none]) ?_ rfl, mods, rfl, ⟨by omega, h5⟩, by omega, by omega⟩
  exact execs_set (ev_call1 rfl rfl rfl rfl (evs_cons (ev_var 0 rfl) (evs_cons (ev_var 1 rfl) evs_nil)) rfl hcell) (execs_setT (ev_tup (evs_cons (ev_call0 rfl (evs_one (ev_var 3 rfl)) hF1) (evs_cons (ev_call0 rfl (evs_one (ev_bin (ev_var 3 rfl) (ev_lit _) (bfd _ _ (by decide) (by decide)))) hF2) evs_nil)) (by simp)) rfl (execs_set (ev_lst evs_nil (by simp)) (execs_set (ev_lst evs_nil (by simp)) (execs_for (evs_one (ev_bin (z := .int (c : Int)) (ev_lit _) (ev_bin (ev_bin (ev_var 3 rfl) (ev_lit _) (bfd _ _ (by decide) (by decide))) (ev_lit _) (bmd _ _ (by decide))) (by rw [bin_add_int, hc]))) (rng_small (by omega)) he (execs_ret1 (ev_blt (evs_one (ev_var 5 rfl)) (bf_tuple_l _)))))))
end K06.Pu

namespace K06.Pu
open K06 PySem Mp
theorem ev_callio {p : Px} {f j : Nat} {es : List Ex} {e : En} {ds : List D} {d sd s' : D} (hio : p.io f = [1]) (hs : es[1]?.bind slotOf = some j) (he : e[j]?.getD none = some sd) (hm : isMut sd = true) (hev : evs p es e = .ok ds e) (hd : ds.set 1 sd = ds) (hF : p.F f ds = .ok d [s']) : ev p (.call f es) e = .ok d (setE e j s') := by
  rw [ev, hev, Out.bind_ok, hio]
  simp only [rereadIo, hs, he, hm, if_true, hd, hF, putIo]
theorem fns_len {p : Pg} (h : PgOk p) : (fnsP p).length ≤ 1000 := by
  unfold fnsP
  rw [List.length_flatMap]
  have := sum_le_mul (fun m : Str × List Fu => (m.2.map fun f => (m.1, f)).length) 3 p (fun md hmd => by
    rw [List.length_map]
    exact (h.ok md hmd).2.1)
  have h2 := h.len
  have h3 : p.length * 3 ≤ 9 := by omega
  exact Nat.le_trans this (by omega)
theorem right_of {p : Pg} (h : PgOk p) {md : Str × List Fu} (hmd : md ∈ p) {g : Fu} (hg : g ∈ md.2) : At 12 31 [progD p, .str md.1, .str g.1] (.ok (.bool true) []) := by
  obtain ⟨m, fs⟩ := md
  obtain ⟨g', hf, md', hmd', hg'⟩ := fnd2_ex hmd hg rfl
  have hok := (h.ok md' hmd').2.2 g' hg'
  exact at_right (n := 6) ⟨⟨fns_len h, hf.fnd, by have := hok.2.2.2; omega⟩, hf, hok.2.1, hok.2.2.1, Nat.le_refl _, (h.ok _ hmd).1, ((h.ok _ hmd).2.2 g hg).1⟩
theorem law_loop {N : Nat} (hN : 21 ≤ N) {ns : List Int} (hns : ns.length ≤ 63) {k : Int} (hk : -1 ≤ k) (hk2 : k ≤ 70000) (x1 x4 x5 x6 x7 : Option D) :
    ∃ e', Mp.execs (P N) [.set 4 (.call 23 [.var 2, .var 3, .lit (.int 3)]), .for_ (.tp [5, 6]) .seq [.var 4] [.for_ (.nm 7) .seq [.var 6] [.ite (.not (.call 31 [.var 4, .var 5, .idx (.var 7) (.lit (.int 0))])) [.ret (.lit (.bool false))] []]]] [some (cellsD ns), x1, some (cellsD ns), some (spotD k), x4, x5, x6, x7] = .ok .nx e' ∧
      ∃ (k' : Int) (y4 y5 y6 y7 : Option D), e' = [some (cellsD ns), x1, some (cellsD ns), some (spotD k'), y4, y5, y6, y7] ∧ k ≤ k' ∧ k' ≤ k + 9300 := by
  obtain ⟨p, k', hF, hp, hl, hu⟩ := program_of (cs := ns) (by omega) hN hk hk2
  obtain ⟨e', he, y5, y6, y7, rfl⟩ := loopF_skip (tg := .tp [5, 6]) (body := fun e => Mp.execs (P N) [.for_ (.nm 7) .seq [.var 6] [.ite (.not (.call 31 [.var 4, .var 5, .idx (.var 7) (.lit (.int 0))])) [.ret (.lit (.bool false))] []]] e) modD (fun e => ∃ y5 y6 y7 : Option D, e = [some (cellsD ns), x1, some (cellsD ns), some (spotD k'), some (progD p), y5, y6, y7]) (xs := p) (e := [some (cellsD ns), x1, some (cellsD ns), some (spotD k'), some (progD p), x5, x6, x7]) ⟨_, _, _, rfl⟩ (by
    rintro md hmd e ⟨y5, y6, y7, rfl⟩
    obtain ⟨e2, he2, z7, rfl⟩ := loopF_skip (tg := .nm 7) (body := fun e => Mp.execs (P N) [.ite (.not (.call 31 [.var 4, .var 5, .idx (.var 7) (.lit (.int 0))])) [.ret (.lit (.bool false))] []] e) fnD (fun e => ∃ y7 : Option D, e = [some (cellsD ns), x1, some (cellsD ns), some (spotD k'), some (progD p), some (.str md.1), some (.tuple (md.2.map fnD)), y7]) (xs := md.2) (e := [some (cellsD ns), x1, some (cellsD ns), some (spotD k'), some (progD p), some (.str md.1), some (.tuple (md.2.map fnD)), y7]) ⟨_, rfl⟩ (by
      rintro g hg e ⟨y7, rfl⟩
      refine ⟨_, [some (cellsD ns), x1, some (cellsD ns), some (spotD k'), some (progD p), some (.str md.1), some (.tuple (md.2.map fnD)), some (fnD g)], rfl, ?_, ⟨_, rfl⟩⟩
      have hr := right_of hp hmd hg N (by omega)
      exact execs_if_not (ev_not (b := true) (ev_call0 rfl (evs_cons (ev_var 4 rfl) (evs_cons (ev_var 5 rfl) (evs_cons (ev_idx (ev_var 7 rfl) (ev_lit _) (index_t0 _ _)) evs_nil))) hr)) execs_nil)
    exact ⟨_, _, rfl, execs_for (evs_one (ev_var 6 rfl)) rfl he2 execs_nil, _, _, _, rfl⟩)
  refine ⟨_, execs_set (ev_callio (j := 3) rfl rfl rfl rfl (evs_cons (ev_var 2 rfl) (evs_cons (ev_var 3 rfl) (evs_cons (ev_lit _) evs_nil))) rfl hF) (execs_for (evs_one (ev_var 4 rfl)) rfl he execs_nil), k', some (progD p), y5, y6, y7, rfl, hl, hu⟩
theorem law_of {N : Nat} (hN : 21 ≤ N) {ns : List Int} (hns : ns.length ≤ 63) : Mp.run T G 100 (N + 1) 32 [.list (ns.map .int)] = .ok (.bool true) [] := by
  rw [run_succ (d := d_law) rfl]
  obtain ⟨c, hc, hc6⟩ : ∃ c : Nat, 1 + (if (ns.length : Int) < 5 then (ns.length : Int) else 5) = (c : Int) ∧ c ≤ 6 := by
    refine ⟨(1 + (if (ns.length : Int) < 5 then (ns.length : Int) else 5)).toNat, ?_, ?_⟩ <;> split <;> omega
  have h := loopF_map (tg := .nm 1) (body := fun e => Mp.execs (P N) [.set 4 (.call 23 [.var 2, .var 3, .lit (.int 3)]), .for_ (.tp [5, 6]) .seq [.var 4] [.for_ (.nm 7) .seq [.var 6] [.ite (.not (.call 31 [.var 4, .var 5, .idx (.var 7) (.lit (.int 0))])) [.ret (.lit (.bool false))] []]]] e) (fun i : Nat => .int (i : Int))
    (fun done e => ∃ (k' : Int) (x1 x4 x5 x6 x7 : Option D), e = [some (cellsD ns), x1, some (cellsD ns), some (spotD k'), x4, x5, x6, x7] ∧ -1 ≤ k' ∧ k' ≤ -1 + 9300 * (done.length : Int)) (xs := List.range c) (e := [some (cellsD ns), none, some (cellsD ns), some (spotD (-1)), none, none, none, none])
    ⟨-1, none, none, none, none, none, rfl, by omega, by simp⟩ (by
      rintro done j more e hx ⟨k', x1, x4, x5, x6, x7, rfl, hk1, hk3⟩
      have hdl : done.length < c := by
        have := congrArg List.length hx
        rw [List.length_range, List.length_append, List.length_cons] at this
        omega
      obtain ⟨e', he, k2, y4, y5, y6, y7, rfl, hl, hu⟩ := law_loop hN hns (k := k') hk1 (by omega) (some (.int (j : Int))) x4 x5 x6 x7
      refine ⟨_, _, rfl, .inl he, k2, _, y4, y5, y6, y7, rfl, by omega, ?_⟩
      rw [List.length_append, List.length_singleton]
      push_cast
      omega)
  obtain ⟨e', he, k', x1, x4, x5, x6, x7, rfl, _, _⟩ := h
  refine runDf_ret (d := d_law) (e0 := [some (cellsD ns), none, none, none, none, none, none, none]) rfl rfl rfl rfl (e := [some (cellsD ns), x1, some (cellsD ns), some (spotD k'), x4, x5, x6, x7]) ?_
  have hbl : bf .len [cellsD ns] = some (.int (ns.length : Int)) := by rw [cellsD, bf_len_l, List.length_map]
  exact execs_par (ds := [cellsD ns, spotD (-1)]) (evs_cons (ev_blt (evs_one (ev_var 0 rfl)) (bf_list_l _)) (evs_cons (ev_lst (evs_one (ev_neg (ev_lit _))) (by simp)) evs_nil)) rfl (execs_for (evs_one (ev_bin (z := .int (c : Int)) (ev_lit _) (ev_blt (d := .int (if (ns.length : Int) < 5 then (ns.length : Int) else 5)) (evs_cons (ev_lit _) (evs_cons (ev_blt (evs_one (ev_var 0 rfl)) hbl) evs_nil)) rfl) (by rw [bin_add_int, hc]))) (rng_small (by omega)) he (execs_ret1 (ev_lit _)))
theorem pure_k06 (ns : List Int) (hns : ns.length ≤ 63) : Mp.run T G 100 200 32 [.list (ns.map .int)] = .ok (.bool true) [] := law_of (by decide) hns
end K06.Pu
theorem PySem.Challenge.cw_turnpaper_k06_whole_binders_holds : PySem.Challenge.rw_turnpaper_k06_whole_binders.Holds := by
  exact K06.holds_of 100 K06.Pu.pure_k06
