import PyProof.Rows.All
import Wide.All
import OpenK.AllK
import Wide.FinOn
import HandS.ForMost
import HandS.Exc
import HandS.ExcOwn
import HandS.TryOnly
import HandS.Defaults
import HandS.Style
import HandS.Flow
import HandS.Walk
import HandS.IsInst
import HandS.Wide
import HandS.CallSlots
import KE.KeyNested
import KE.KDictKeyed
import KE.DataEq
import KE.LtData
import HandS.TupAny
import HandS.TupMul
import HandS.Deep
import HandS.Conv
import KE.DataFind
import KE.SortData
import KE.KDictSum
import KE.KDictCopyH
import HandS.TupLen
import HandS.ExcValue
import HandS.Zip
import KE.GoesMore
import KE.GoesEnum
import HandS.Comp
import PyProof.AutoSeq1
import HandS.Strs
import HandS.Dict
import KE.KDictDisplayH
import HandS.EndBits
import HandS.HeadEnd
import KE.KStateDown
import HandS.Head0
import HandS.Head1
import HandS.Head2
import HandS.HeadHook1
import HandS.HeadHook2
import HandS.Codes
import PySem.Challenge.RW_lettermovers_k28_across_rows_and_words_m
/-! text EvA -/
set_option Elab.async false
set_option linter.all false
/-! Ev: a small core language with value semantics over PyData, and its evaluator. -/
namespace Ev
open PySem

abbrev D := PyData
inductive Op2 where | add | sub | mul | fdiv | mod | pow | shl
  deriving DecidableEq
inductive Cm where | eq | ne | lt | le | gt | ge | isIn | notIn
  deriving DecidableEq
inductive Ty where | int | bool | str | tuple | list
  deriving DecidableEq
inductive Bi where | len | tuple | list | sorted | sum | max1 | min1 | all | any | abs | int | str | dict | max2 | min2 | lenSet | sortedSet
  deriving DecidableEq
inductive Mt where | index | count | get2
  deriving DecidableEq

inductive Tg where
  | nm (i : Nat)
  | tp (ts : List Tg)

mutual
inductive E where
  | var (i : Nat)
  | cst (d : D)
  | tup (es : List E)
  | lst (es : List E)
  | dic0
  | dic1 (k v : E)
  | bin (o : Op2) (a b : E)
  | neg (a : E)
  | cmp (c : Cm) (a b : E)
  | isN (a : E)
  | notN (a : E)
  | chain (c1 c2 : Cm) (a b c : E)
  | not (a : E)
  | and (a b : E)
  | or (a b : E)
  | ite (c a b : E)
  | idx (a b : E)
  | sl (a : E) (lo hi : Option E)
  | rev (a : E)
  | call (f : Nat) (ios : List Nat) (args : List E)
  | bi (b : Bi) (args : List E)
  | rngL (a b : E)
  | rngT (a b : E)
  | isi (ts : List Ty) (a : E)
  | mth (m : Mt) (o : E) (args : List E)
  | app (i : Nat) (a : E)
  | ext (i : Nat) (a : E)
  | pop (i : Nat)
  | popAt (i : Nat) (a : E)
  | sdf (i : Nat) (k v : E)
  | comp (elt : E) (tg : Tg) (it : It) (cond : Option E) (ws : List Nat)
inductive It where
  | src (e : E)
  | rng (a b : E)
  | rng1 (b : E)
  | enum (e : E)
  | zip2 (a b : E)
  | zip3 (a b c : E)
end

inductive S where
  | asg (tg : Tg) (e : E)
  | pars (is : List Nat) (es : List E)
  | setI (i : Nat) (k v : E)
  | aug (i : Nat) (e : E)
  | ex (e : E)
  | ite (c : E) (a b : List S)
  | forr (tg : Tg) (it : It) (b : List S)
  | whl (c : E) (b : List S)
  | ret (e : E)
  | retN
  | brk
  | cont
  | pass
  | rais (c : Nat)
  | tryy (b : List S) (hs : List (List Nat × List S))

/-! ### data -/
def sz : Nat := 16777216
def eqv (a b : D) : Bool := PyData.eqv a b
/-- the items of what may be walked -/
def items? : D → Option (List D)
  | .list ds => some ds
  | .tuple ds => some ds
  | .dict kvs => some (kvs.map (·.1))
  | _ => none
def seq? : D → Option (List D)
  | .list ds => some ds
  | .tuple ds => some ds
  | _ => none
def ixN (n : Nat) (i : Int) : Option Nat := if 0 ≤ i then (if i < n then some i.toNat else none) else if -(n : Int) ≤ i then some (i + n).toNat else none
def sIx (n d : Nat) : Option Int → Nat
  | none => d
  | some v => if v < 0 then (v + (n : Int)).toNat else min v.toNat n
def cut (xs : List D) (lo hi : Option Int) : List D := (xs.drop (sIx xs.length 0 lo)).take (sIx xs.length xs.length hi - sIx xs.length 0 lo)
mutual
/-- a dict's key: ints, texts, tuples of such -/
def keyOk : D → Bool
  | .int _ => true
  | .str _ => true
  | .tuple ds => keyOkAll ds
  | _ => false
def keyOkAll : List D → Bool
  | [] => true
  | d :: ds => keyOk d && keyOkAll ds
end
mutual
def nkDepth : D → Nat
  | .tuple ds => nkDepthAll ds + 1
  | _ => 0
def nkDepthAll : List D → Nat
  | [] => 0
  | d :: ds => max (nkDepth d) (nkDepthAll ds)
end
def keyF (d : D) : Bool := keyOk d && decide (nkDepth d ≤ 8)
def isTup : D → Bool
  | .tuple _ => true
  | _ => false
/-- a key for a dict of such keys -/
def kOk (k : D) (kvs : List (D × D)) : Bool := keyF k && isTup k && kvs.all fun p => isTup p.1
def dget (k : D) : List (D × D) → Option D
  | [] => none
  | (a, v) :: r => if PyData.eqv a k then some v else dget k r
def dput (k v : D) : List (D × D) → List (D × D)
  | [] => [(k, v)]
  | (a, u) :: r => if PyData.eqv a k then (a, v) :: r else (a, u) :: dput k v r
def truth? : D → Option Bool
  | .none => some false
  | .bool b => some b
  | .int i => some (i != 0)
  | .str s => if s.length ≤ sz then some ((s.length : Int) != 0) else none
  | .list xs => some (!xs.isEmpty)
  | .tuple xs => some (!xs.isEmpty)
  | .dict _ => none
def isNB : D → Bool
  | .none => true
  | _ => false
def shp (d : D) : Bool := d.plain && decide (d.depth ≤ 64)
def int? : D → Option Int
  | .int i => some i
  | _ => none
def bool? : D → Option Bool
  | .bool i => some i
  | _ => none
def ints? : List D → Option (List Int)
  | [] => some []
  | d :: ds => match d, ints? ds with
    | .int i, some r => some (i :: r)
    | _, _ => none
def bools? : List D → Option (List Bool)
  | [] => some []
  | d :: ds => match d, bools? ds with
    | .bool i, some r => some (i :: r)
    | _, _ => none

/-! ### the state -/
inductive Slot where
  | no | im (d : D) | ow (d : D) | io (d : D)
abbrev VEnv := List Slot
/-- a value as it comes: made up, what a slot holds, a new list or dict that nothing else holds -/
inductive R where
  | val (d : D) | slot (i : Nat) | fresh (d : D)
inductive O (α : Type) where
  | ok (a : α) (e : VEnv)
  | exc (c : Nat) (e : VEnv)
  | bad
abbrev M (α : Type) := VEnv → O α
def ret {α : Type} (a : α) : M α := fun e => .ok a e
def bad {α : Type} : M α := fun _ => .bad
def bnd {α β : Type} (x : M α) (f : α → M β) : M β := fun e => match x e with
  | .ok a e' => f a e'
  | .exc c e' => .exc c e'
  | .bad => .bad
/-- an outcome that may be none -/
def opt {α : Type} : Option α → M α
  | some a => ret a
  | none => bad
def Slot.data : Slot → Option D
  | .no => none
  | .im d => some d
  | .ow d => some d
  | .io d => some d
/-- what a value holds now -/
def rd (e : VEnv) : R → Option D
  | .val d => some d
  | .fresh d => some d
  | .slot i => (e.getD i .no).data
def rdM (r : R) : M D := fun e => match rd e r with
  | some d => .ok d e
  | none => .bad
/-- it is held for ever -/
def fz (r : R) : M D := fun e => match r with
  | .val d => .ok d e
  | .fresh d => .ok d e
  | .slot i => match e.getD i .no with
    | .im d => .ok d e
    | .ow d => .ok d (e.set i (.im d))
    | _ => .bad
/-- a name is bound to a value -/
def bind1 (i : Nat) (s : Slot) : M Unit := fun e => match e.getD i .no with
  | .io _ => .bad
  | _ => if i < e.length then .ok () (e.set i s) else .bad
mutual
/-- a target takes data -/
def bindT : Tg → D → M Unit
  | .nm i, d => bind1 i (.im d)
  | .tp ts, d => match seq? d with
    | some ds => bindTs ts ds
    | none => bad
def bindTs : List Tg → List D → M Unit
  | [], [] => ret ()
  | t :: ts, d :: ds => bnd (bindT t d) fun _ => bindTs ts ds
  | _, _ => bad
end
/-- a name takes a value as it comes -/
def bindR (i : Nat) (r : R) : M Unit := match r with
  | .val d => bind1 i (.im d)
  | .fresh d => bind1 i (.ow d)
  | .slot _ => bnd (fz r) fun d => bind1 i (.im d)
def bindTR (t : Tg) (r : R) : M Unit := match t with
  | .nm i => bindR i r
  | .tp ts => bnd (rdM r) fun d => bindT (.tp ts) d

/-- what a call gives -/
inductive CR where
  | ok (d : D) (fresh : Bool) (outs : List D)
  | exc (c : Nat) (outs : List D)
  | bad
abbrev CallF := Nat → List Nat → List D → CR

/-! ### operators -/
def inW (i : Int) : Bool := decide (-(2 ^ 64) < i) && decide (i < 2 ^ 64)
def bits (i : Int) : Nat := i.natAbs.log2 + 1
def addD : D → D → Option R
  | .int i, .int j => some (.val (.int (i + j)))
  | .tuple xs, .tuple ys => if xs.length + ys.length ≤ sz then some (.val (.tuple (xs ++ ys))) else none
  | .list xs, .list ys => if xs.length + ys.length ≤ sz then some (.fresh (.list (xs ++ ys))) else none
  | _, _ => none
def subD : D → D → Option R
  | .int i, .int j => some (.val (.int (i - j)))
  | _, _ => none
def repOk (n : Nat) (k : Int) : Bool := decide (n * k.toNat ≤ sz) && decide (-(2 ^ 62) < k) && decide (k < 2 ^ 62)
def mulD : D → D → Option R
  | .int i, .int j => if inW i || inW j then some (.val (.int (i * j))) else none
  | .list xs, .int k => if repOk xs.length k then some (.fresh (.list (List.replicate k.toNat xs).flatten)) else none
  | .tuple xs, .int k => if repOk xs.length k then some (.val (.tuple (List.replicate k.toNat xs).flatten)) else none
  | _, _ => none
def fdivD : D → D → Option R
  | .int i, .int j => if decide (0 < j) && decide (j < 1073741824) then some (.val (.int (i / j))) else none
  | _, _ => none
def modD : D → D → Option R
  | .int i, .int j => if 0 < j then some (.val (.int (i % j))) else none
  | _, _ => none
def powD : D → D → Option R
  | .int i, .int j => if decide (0 ≤ j) && decide (j ≤ 1000) && inW i then some (.val (.int (i ^ j.toNat))) else none
  | _, _ => none
def shlD : D → D → Option R
  | .int i, .int j => if decide (0 ≤ j) && decide (j ≤ 1000) && inW i then some (.val (.int (i * 2 ^ j.toNat))) else none
  | _, _ => none
def op2 : Op2 → D → D → Option R
  | .add => addD
  | .sub => subD
  | .mul => mulD
  | .fdiv => fdivD
  | .mod => modD
  | .pow => powD
  | .shl => shlD
def eqB (a b : D) : Option Bool := if shp a && shp b then some (PyData.eqv a b) else none
def neB (a b : D) : Option Bool := if shp a && shp b then some (!PyData.eqv a b) else none
def inB (a b : D) : Option Bool := match b with
  | .dict kvs => if kOk a kvs then some ((dget a kvs).isSome) else none
  | .list ys => if shp a && shp (.list ys) then some (ys.any fun y => PyData.eqv y a) else none
  | .tuple ys => if shp a && shp (.tuple ys) then some (ys.any fun y => PyData.eqv y a) else none
  | _ => none
def ninB (a b : D) : Option Bool := (inB a b).map fun k => !k
def ltB : D → D → Option Bool
  | .int i, .int j => some (decide (i < j))
  | .tuple xs, .tuple ys => if PySem.W.alikeAll xs ys && shp (.tuple xs) && shp (.tuple ys) then some (PySem.W.dataLt (.tuple xs) (.tuple ys)) else none
  | _, _ => none
def leB : D → D → Option Bool
  | .int i, .int j => some (decide (i ≤ j))
  | _, _ => none
def gtB : D → D → Option Bool
  | .int i, .int j => some (decide (j < i))
  | _, _ => none
def geB : D → D → Option Bool
  | .int i, .int j => some (decide (j ≤ i))
  | _, _ => none
def cmp2 : Cm → D → D → Option Bool
  | .eq => eqB
  | .ne => neB
  | .lt => ltB
  | .le => leB
  | .gt => gtB
  | .ge => geB
  | .isIn => inB
  | .notIn => ninB
def idx2 : D → D → Option D
  | .list xs, .int i => (ixN xs.length i).bind fun j => xs[j]?
  | .tuple xs, .int i => (ixN xs.length i).bind fun j => xs[j]?
  | .dict kvs, k => if kOk k kvs then dget k kvs else none
  | _, _ => none
def cut2 (lo hi : Option Int) : D → Option R
  | .list xs => some (.fresh (.list (cut xs lo hi)))
  | .tuple xs => some (.val (.tuple (cut xs lo hi)))
  | _ => none
def rev1 : D → Option R
  | .list xs => some (.fresh (.list xs.reverse))
  | .tuple xs => some (.val (.tuple xs.reverse))
  | _ => none
def isTy : Ty → D → Bool
  | .int, .int _ => true
  | .int, .bool _ => true
  | .bool, .bool _ => true
  | .str, .str _ => true
  | .tuple, .tuple _ => true
  | .list, .list _ => true
  | _, _ => false
def sortD (ds : List D) : List D := ds.mergeSort fun a b => !PySem.W.dataLt b a
def dedup (ds : List D) : List D := ds.foldl (fun acc d => if acc.any (fun y => PyData.eqv y d) then acc else acc ++ [d]) []
def maxI (n : Int) (ns : List Int) : Int := ns.foldl (fun a b => if b > a then b else a) n
def minI (n : Int) (ns : List Int) : Int := ns.foldl (fun a b => if b < a then b else a) n
def pairs? : List D → Option (List (D × D))
  | [] => some []
  | .tuple [k, v] :: ds => (pairs? ds).map fun r => (k, v) :: r
  | _ => none
def sortOk (ds : List D) : Bool := ds.all (fun a => ds.all fun b => PySem.W.alike a b) && ds.all (fun d => shp d && !isNB d) && decide (ds.length < sz)
def bi1 : Bi → D → Option R
  | .len, .list ds => some (.val (.int ds.length))
  | .len, .tuple ds => some (.val (.int ds.length))
  | .len, .dict ds => some (.val (.int ds.length))
  | .len, .str s => if s.length ≤ sz then some (.val (.int s.length)) else none
  | .tuple, .list ds => some (.val (.tuple ds))
  | .tuple, .tuple ds => some (.val (.tuple ds))
  | .list, .list ds => some (.fresh (.list ds))
  | .list, .tuple ds => some (.fresh (.list ds))
  | .list, .dict kvs => some (.fresh (.list (kvs.map (·.1))))
  | .sorted, .list ds => if sortOk ds then some (.fresh (.list (sortD ds))) else none
  | .sorted, .tuple ds => if sortOk ds then some (.fresh (.list (sortD ds))) else none
  | .sorted, .dict kvs => if sortOk (kvs.map (·.1)) then some (.fresh (.list (sortD (kvs.map (·.1))))) else none
  | .sum, .list ds => (ints? ds).map fun ns => .val (.int ns.sum)
  | .max1, .list ds => match ints? ds with
    | some (n :: ns) => some (.val (.int (maxI n ns)))
    | _ => none
  | .min1, .list ds => match ints? ds with
    | some (n :: ns) => some (.val (.int (minI n ns)))
    | _ => none
  | .all, .list ds => (bools? ds).map fun bs => .val (.bool (bs.all id))
  | .any, .list ds => (bools? ds).map fun bs => .val (.bool (bs.any id))
  | .abs, .int i => some (.val (.int (if i < 0 then -i else i)))
  | .int, .int i => some (.val (.int i))
  | .int, .bool b => some (.val (.int (if b then 1 else 0)))
  | .dict, .list ds => match pairs? ds with
    | some kvs => if kvs.all (fun p => keyF p.1) then some (.fresh (.dict (kvs.foldl (fun acc p => dput p.1 p.2 acc) []))) else none
    | none => none
  | .dict, .dict kvs => some (.fresh (.dict kvs))
  | .lenSet, .list ds => if ds.all keyF then some (.val (.int (dedup ds).length)) else none
  | .lenSet, .tuple ds => if ds.all keyF then some (.val (.int (dedup ds).length)) else none
  | .sortedSet, .list ds => if ds.all keyF && sortOk ds then some (.fresh (.list (sortD (dedup ds)))) else none
  | .sortedSet, .tuple ds => if ds.all keyF && sortOk ds then some (.fresh (.list (sortD (dedup ds)))) else none
  | _, _ => none
def biF : Bi → List D → Option R
  | .max2, [.int i, .int j] => some (.val (.int (if j > i then j else i)))
  | .min2, [.int i, .int j] => some (.val (.int (if j < i then j else i)))
  | b, [d] => bi1 b d
  | _, _ => none
def indexD (x : D) : List D → Option Nat
  | [] => none
  | y :: r => if PyData.eqv y x then some 0 else (indexD x r).map (· + 1)
def mthF : Mt → D → List D → Option R
  | .index, d, [x] => match seq? d with
    | some ds => if shp d && shp x then (indexD x ds).map fun (j : Nat) => R.val (.int (j : Int)) else none
    | none => none
  | .count, .list ds, [x] => if shp (.list ds) && shp x then some (.val (.int (ds.countP fun y => PyData.eqv y x))) else none
  | .count, .tuple ds, [x] => if shp (.tuple ds) && shp x then some (.val (.int (ds.countP fun y => PyData.eqv y x))) else none
  | .get2, .dict kvs, [k, v] => if kOk k kvs then some (.val ((dget k kvs).getD v)) else none
  | _, _, _ => none
def rangeD (a b : Int) : Option (List D) := if decide (-(2 ^ 62) ≤ a) && decide (a < 2 ^ 62) && decide (-(2 ^ 62) ≤ b) && decide (b < 2 ^ 62) && decide ((b - a).toNat ≤ sz) then some ((List.range (b - a).toNat).map fun (i : Nat) => .int (a + (i : Int))) else none
def enumD (ds : List D) : List D := (ds.zipIdx).map fun p => .tuple [.int p.2, p.1]
def zipD (as bs : List D) : List D := (as.zip bs).map fun p => .tuple [p.1, p.2]
def zip2D : List D → Option (List D)
  | [.list as, .list bs] => some (zipD as bs)
  | [.tuple as, .tuple bs] => some (zipD as bs)
  | _ => none
def enum1D : List D → Option (List D)
  | [.list as] => some (enumD as)
  | [.tuple as] => some (enumD as)
  | _ => none
def rng2D : List D → Option (List D)
  | [.int i, .int j] => rangeD i j
  | _ => none
def zipD3 (as bs cs : List D) : List D := (as.zip (bs.zip cs)).map fun p => .tuple [p.1, p.2.1, p.2.2]
def zip3D : List D → Option (List D)
  | [.list as, .list bs, .list cs] => some (zipD3 as bs cs)
  | [.tuple as, .tuple bs, .tuple cs] => some (zipD3 as bs cs)
  | _ => none

/-! ### own objects -/
/-- the list that a slot holds, to be changed -/
def ownL (i : Nat) (f : List D → Option (R × List D)) : M R := fun e => match e.getD i .no with
  | .ow (.list ds) => (match f ds with
    | some (r, ds') => .ok r (e.set i (.ow (.list ds')))
    | none => .bad)
  | .io (.list ds) => (match f ds with
    | some (r, ds') => .ok r (e.set i (.io (.list ds')))
    | none => .bad)
  | _ => .bad
def ownD (i : Nat) (f : D → Option (R × D)) : M R := fun e => match e.getD i .no with
  | .ow d => (match f d with
    | some (r, d') => .ok r (e.set i (.ow d'))
    | none => .bad)
  | .io d => (match f d with
    | some (r, d') => .ok r (e.set i (.io d'))
    | none => .bad)
  | _ => .bad
def setD (k v : D) : D → Option (R × D)
  | .list ds => (match k with
    | .int i => (ixN ds.length i).map fun j => (.val .none, .list (ds.set j v))
    | _ => none)
  | .dict kvs => if kOk k kvs && decide (kvs.length < sz) then some (.val .none, .dict (dput k v kvs)) else none
  | _ => none
/-- the slots of inout arguments take what the call leaves -/
def putOuts : List Nat → List D → M Unit
  | [], [] => ret ()
  | i :: is, d :: ds => fun e => match e.getD i .no with
    | .ow _ => putOuts is ds (e.set i (.ow d))
    | .io _ => putOuts is ds (e.set i (.io d))
    | _ => .bad
  | _, _ => bad
/-- arguments: inout ones by their slots -/
def ownAt (e : VEnv) (i : Nat) : Option D := match e.getD i .no with
  | .ow d => some d
  | .io d => some d
  | _ => none
def doCall (c : CallF) (f : Nat) (pos : List Nat) (is : List Nat) (args : List D) : M R := fun e => match c f pos args with
  | .ok d fr outs => (match putOuts is outs e with
    | .ok _ e' => .ok (if fr then .fresh d else .val d) e'
    | _ => .bad)
  | .exc x outs => (match putOuts is outs e with
    | .ok _ e' => .exc x e'
    | _ => .bad)
  | .bad => .bad

/-! ### comprehensions -/
/-- the own slots of a block: what they hold is held for ever, then they are forgotten -/
def fzAt (e : VEnv) (i : Nat) : Option VEnv := match e.getD i .no with
  | .ow d => some (e.set i (.im d))
  | .io _ => none
  | _ => some e
def fzAll : List Nat → VEnv → Option VEnv
  | [], e => some e
  | i :: is, e => (fzAt e i).bind fun e' => fzAll is e'
def wipeE (ws : List Nat) (e : VEnv) : VEnv := ws.foldl (fun e i => e.set i .no) e
/-- behind a block the own slots are as they were -/
def back (ws : List Nat) (e0 e : VEnv) : VEnv := ws.foldl (fun e i => e.set i (e0.getD i .no)) e
def compL (ws : List Nat) (tg : Tg) (cond : M Bool) (elt : M D) : List D → List D → M (List D)
  | [], acc => ret acc
  | d :: ds, acc => bnd (bindT tg d) fun _ => bnd cond fun b =>
      if b then bnd elt fun x => fun e => compL ws tg cond elt ds (acc ++ [x]) (wipeE ws e)
      else fun e => compL ws tg cond elt ds acc (wipeE ws e)
def compM (ws : List Nat) (tg : Tg) (cond : M Bool) (elt : M D) (ds : List D) : M R := fun e => if sz < ds.length then .bad else match fzAll ws e with
  | some e0 => (match compL ws tg cond elt ds [] (wipeE ws e0) with
    | .ok acc e1 => .ok (.fresh (.list acc)) (back ws e0 e1)
    | _ => .bad)
  | none => .bad

/-! ### expressions -/
def truthM (r : R) : M Bool := bnd (rdM r) fun d => opt (truth? d)
def varM (i : Nat) : M R := fun e => match e.getD i .no with
  | .no => .bad
  | _ => .ok (.slot i) e
def fzM (x : M R) : M D := bnd x fz
def consV (x : M D) (y : M (List D)) : M (List D) := bnd x fun d => bnd y fun ds => ret (d :: ds)
def consR (x : M R) (y : M (List R)) : M (List R) := bnd x fun d => bnd y fun ds => ret (d :: ds)
def tupM (x : M (List D)) : M R := bnd x fun ds => if ds.length ≤ sz then ret (.val (.tuple ds)) else bad
def lstM (x : M (List D)) : M R := bnd x fun ds => if ds.length ≤ sz then ret (.fresh (.list ds)) else bad
def dic1M (k v : M D) : M R := bnd k fun dk => bnd v fun dv => if kOk dk [] then ret (.fresh (.dict [(dk, dv)])) else bad
/-- two operands, then an operator -/
def bin2 (xa xb : M R) (f : D → D → Option R) : M R := bnd xa fun ra => bnd xb fun rb => bnd (rdM ra) fun da => bnd (rdM rb) fun db => opt (f da db)
def un1 (xa : M R) (f : D → Option R) : M R := bnd xa fun ra => bnd (rdM ra) fun da => opt (f da)
def chainM (x y z : M R) (c1 c2 : D → D → Option Bool) : M R := bnd x fun rx => bnd y fun ry => bnd (rdM rx) fun dx => bnd (rdM ry) fun dy => bnd (opt (c1 dx dy)) fun k =>
  if k then bnd z fun rz => bnd (rdM ry) fun dy => bnd (rdM rz) fun dz => opt ((c2 dy dz).map fun k => .val (.bool k)) else ret (.val (.bool false))
def notM (x : M R) : M R := bnd x fun ra => bnd (truthM ra) fun k => ret (.val (.bool (!k)))
def andM (x y : M R) : M R := bnd x fun ra => bnd (truthM ra) fun k => if k then y else ret ra
def orM (x y : M R) : M R := bnd x fun ra => bnd (truthM ra) fun k => if k then ret ra else y
def iteM (q x y : M R) : M R := bnd q fun rq => bnd (truthM rq) fun k => if k then x else y
def negD (d : D) : Option R := (int? d).map fun i => .val (.int (-i))
def cmpD (o : Cm) (a b : D) : Option R := (cmp2 o a b).map fun k => .val (.bool k)
def isND (d : D) : Option R := some (.val (.bool (isNB d)))
def notND (d : D) : Option R := some (.val (.bool (!isNB d)))
def idxD (a b : D) : Option R := (idx2 a b).map .val
def isiD (ts : List Ty) (d : D) : Option R := some (.val (.bool (ts.any fun t => isTy t d)))
def slM (x : M R) (lo hi : M (Option Int)) : M R := bnd x fun ra => bnd lo fun l => bnd hi fun h => bnd (rdM ra) fun da => opt (cut2 l h da)
def biM (b : Bi) (xs : M (List R)) : M R := bnd xs fun rs => fun e => match rs.mapM (rd e) with
  | some ds => opt (biF b ds) e
  | none => .bad
inductive Kd where | list | tuple | dict
  deriving DecidableEq
def kd? : D → Option Kd
  | .list _ => some .list
  | .tuple _ => some .tuple
  | .dict _ => some .dict
  | _ => none
def kdM : Mt → D → Option Kd
  | .get2, .dict _ => some .dict
  | .index, .list _ => some .list
  | .index, .tuple _ => some .tuple
  | .count, .list _ => some .list
  | .count, .tuple _ => some .tuple
  | _, _ => none
def mthK (m : Mt) (k : Kd) (ds : List D) : Option R := match ds with
  | d :: r => if kd? d = some k then mthF m d r else none
  | [] => none
def mthM (m : Mt) (x : M R) (xs : M (List R)) : M R := bnd x fun ro => bnd (rdM ro) fun d0 => bnd (opt (kdM m d0)) fun k => bnd xs fun rs => fun e => match (ro :: rs).mapM (rd e) with
  | some ds => opt (mthK m k ds) e
  | none => .bad
def rngLD (a b : D) : Option R := match a, b with
  | .int i, .int j => (rangeD i j).map fun ds => .fresh (.list ds)
  | _, _ => none
def rngTD (a b : D) : Option R := match a, b with
  | .int i, .int j => (rangeD i j).map fun ds => .val (.tuple ds)
  | _, _ => none
def optIM (x : M R) : M (Option Int) := bnd x fun ra => bnd (rdM ra) fun da => match da with
  | .int i => ret (some i)
  | _ => bad
/-- the arguments, the inout ones as they stand at the call -/
def fillA (ios : List Nat) (os : List D) (ds : List D) : List D := (ds.zipIdx).map fun p => ((ios.zip os).lookup p.2).getD p.1
def callM (c : CallF) (f : Nat) (ios : List Nat) (is : Option (List Nat)) (xs : M (List D)) : M R := bnd xs fun ds => match is with
  | some is => fun e => if decide is.Nodup && decide ios.Nodup && ios.all (fun p => decide (p < ds.length)) then (match is.mapM (ownAt e) with
    | some os => doCall c f ios is (fillA ios os ds) e
    | none => .bad) else .bad
  | none => bad
def chkL (i : Nat) : M Unit := fun e => match e.getD i .no with
  | .ow (.list _) => .ok () e
  | .io (.list _) => .ok () e
  | _ => .bad
def chkD (i : Nat) : M Unit := fun e => match e.getD i .no with
  | .ow (.dict _) => .ok () e
  | .io (.dict _) => .ok () e
  | _ => .bad
def appM (i : Nat) (x : M D) : M R := bnd (chkL i) fun _ => bnd x fun d => ownL i fun ds => if ds.length < sz then some (.val .none, ds ++ [d]) else none
def extM (i : Nat) (x : M D) : M R := bnd (chkL i) fun _ => bnd x fun d => match seq? d with
  | some xs => ownL i fun ds => if ds.length + xs.length ≤ sz then some (.val .none, ds ++ xs) else none
  | none => bad
def popM (i : Nat) : M R := ownL i fun ds => match ds.getLast? with
  | some d => some (.val d, ds.dropLast)
  | none => none
def popAtM (i : Nat) (x : M R) : M R := bnd (chkL i) fun _ => bnd x fun ra => bnd (rdM ra) fun da => match da with
  | .int k => ownL i fun ds => (ixN ds.length k).bind fun j => ds[j]?.map fun d => (.val d, ds.eraseIdx j)
  | _ => bad
def sdfM (i : Nat) (k v : M D) : M R := bnd (chkD i) fun _ => bnd k fun dk => bnd v fun dv => ownD i fun d => match d with
  | .dict kvs => if kOk dk kvs && decide (kvs.length < sz) then (match dget dk kvs with
    | some u => some (.val u, .dict kvs)
    | none => some (.val dv, .dict (dput dk dv kvs))) else none
  | _ => none
/-- the slot of a name -/
def slotOf : E → Option Nat
  | .var i => some i
  | _ => none
/-- an inout argument: a slot that holds an own object -/
def chkO : Option Nat → M D
  | some i => fun e => match ownAt e i with
    | some _ => .ok .none e
    | none => .bad
  | none => bad
/-- which arguments are inout: theirs slots; all must be names -/
def iosOf (pos : List Nat) (args : List E) : Option (List Nat) := pos.mapM fun p => (args[p]?).bind slotOf
mutual
def evE (c : CallF) : E → M R
  | .var i => varM i
  | .cst d => ret (.val d)
  | .tup es => tupM (evVs c es)
  | .lst es => lstM (evVs c es)
  | .dic0 => ret (.fresh (.dict []))
  | .dic1 k v => dic1M (fzM (evE c k)) (fzM (evE c v))
  | .bin o a b => bin2 (evE c a) (evE c b) (op2 o)
  | .neg a => un1 (evE c a) negD
  | .cmp o a b => bin2 (evE c a) (evE c b) (cmpD o)
  | .isN a => un1 (evE c a) isND
  | .notN a => un1 (evE c a) notND
  | .chain c1 c2 x y z => chainM (evE c x) (evE c y) (evE c z) (cmp2 c1) (cmp2 c2)
  | .not a => notM (evE c a)
  | .and a b => andM (evE c a) (evE c b)
  | .or a b => orM (evE c a) (evE c b)
  | .ite q a b => iteM (evE c q) (evE c a) (evE c b)
  | .idx a b => bin2 (evE c a) (evE c b) idxD
  | .sl a lo hi => slM (evE c a) (evO c lo) (evO c hi)
  | .rev a => un1 (evE c a) rev1
  | .call f ios args => callM c f ios (iosOf ios args) (evAs c ios 0 args)
  | .bi b args => biM b (evRs c args)
  | .rngL a b => bin2 (evE c a) (evE c b) rngLD
  | .rngT a b => bin2 (evE c a) (evE c b) rngTD
  | .isi ts a => un1 (evE c a) (isiD ts)
  | .mth m o args => mthM m (evE c o) (evRs c args)
  | .app i a => appM i (fzM (evE c a))
  | .ext i a => extM i (fzM (evE c a))
  | .pop i => popM i
  | .popAt i a => popAtM i (evE c a)
  | .sdf i k v => sdfM i (fzM (evE c k)) (fzM (evE c v))
  | .comp elt tg it cond ws => bnd (evI c it) fun ds => compM ws tg (match cond with
      | none => ret true
      | some q => bnd (evE c q) truthM) (fzM (evE c elt)) ds
/-- held for ever -/
def evVs (c : CallF) : List E → M (List D)
  | [] => ret []
  | a :: r => consV (fzM (evE c a)) (evVs c r)
/-- as they come -/
def evRs (c : CallF) : List E → M (List R)
  | [] => ret []
  | a :: r => consR (evE c a) (evRs c r)
/-- arguments: those at ios are slots, left as they are -/
def evAs (c : CallF) (ios : List Nat) (n : Nat) : List E → M (List D)
  | [] => ret []
  | a :: r => consV (if ios.contains n then chkO (slotOf a) else fzM (evE c a)) (evAs c ios (n + 1) r)
def evO (c : CallF) : Option E → M (Option Int)
  | none => ret none
  | some a => optIM (evE c a)
def evI (c : CallF) : It → M (List D)
  | .src a => bnd (fzM (evE c a)) fun d => opt (items? d)
  | .rng a b => bnd (consV (fzM (evE c a)) (consV (fzM (evE c b)) (ret []))) fun ds => opt (rng2D ds)
  | .rng1 b => bnd (consV (fzM (evE c b)) (ret [])) fun ds => opt (rng2D (.int 0 :: ds))
  | .enum a => bnd (consV (fzM (evE c a)) (ret [])) fun ds => opt (enum1D ds)
  | .zip2 a b => bnd (consV (fzM (evE c a)) (consV (fzM (evE c b)) (ret []))) fun ds => opt (zip2D ds)
  | .zip3 a b d => bnd (consV (fzM (evE c a)) (consV (fzM (evE c b)) (consV (fzM (evE c d)) (ret [])))) fun ds => opt (zip3D ds)
end

/-! ### statements -/
inductive Fl where
  | nx | brk | cont | ret (d : D) (fresh : Bool)
def forL (tg : Tg) (body : M Fl) : List D → M Fl
  | [] => ret .nx
  | d :: ds => bnd (bindT tg d) fun _ => bnd body fun f => match f with
    | .nx => forL tg body ds
    | .cont => forL tg body ds
    | .brk => ret .nx
    | .ret d fr => ret (.ret d fr)
def whlL (cond : M Bool) (body : M Fl) : Nat → M Fl
  | 0 => bad
  | n + 1 => bnd cond fun b => if b then bnd body fun f => (match f with
    | .nx => whlL cond body n
    | .cont => whlL cond body n
    | .brk => ret .nx
    | .ret d fr => ret (.ret d fr)) else ret .nx
def fuelW : Nat := 1000000000
/-- what a def hands back -/
def retR (r : R) : M Fl := fun e => match r with
  | .val d => .ok (.ret d false) e
  | .fresh d => .ok (.ret d true) e
  | .slot i => match e.getD i .no with
    | .im d => .ok (.ret d false) e
    | .ow d => .ok (.ret d true) e
    | _ => .bad
/-- several names take values, each as it comes -/
def resolve : List R → M (List R)
  | [] => ret []
  | r :: rs => bnd (match r with
    | .slot i => bnd (fz (.slot i)) fun d => ret (R.val d)
    | r => ret r) fun r' => bnd (resolve rs) fun rs' => ret (r' :: rs')
def bindRs : List Nat → List R → M Unit
  | [], [] => ret ()
  | i :: is, r :: rs => bnd (bindR i r) fun _ => bindRs is rs
  | _, _ => bad
def augD (d0 da : D) : Option D := match d0, da with
  | .int x, .int y => some (.int (x + y))
  | _, _ => none
/-- name += int -/
def augM (i : Nat) (x : M R) : M Fl := bnd (rdM (.slot i)) fun d0 => bnd x fun ra => bnd (rdM ra) fun da => bnd (opt (augD d0 da)) fun d => bnd (bind1 i (.im d)) fun _ => ret .nx
def setM (i : Nat) (v k : M D) : M Fl := bnd v fun dv => bnd (rdM (.slot i)) fun _ => bnd k fun dk => bnd (ownD i (setD dk dv)) fun _ => ret .nx
def parM (is : List Nat) (xs : M (List R)) : M Fl := bnd xs fun rs => bnd (resolve rs) fun rs' => bnd (bindRs is rs') fun _ => ret .nx
mutual
def evS (c : CallF) : S → M Fl
  | .asg tg a => bnd (evE c a) fun r => bnd (bindTR tg r) fun _ => ret .nx
  | .pars is es => parM is (evRs c es)
  | .setI i k v => setM i (fzM (evE c v)) (fzM (evE c k))
  | .aug i a => augM i (evE c a)
  | .ex a => bnd (evE c a) fun _ => ret .nx
  | .ite q a b => bnd (evE c q) fun rq => bnd (truthM rq) fun k => if k then evSs c a else evSs c b
  | .forr tg it b => bnd (evI c it) fun ds => forL tg (evSs c b) ds
  | .whl q b => whlL (bnd (evE c q) truthM) (evSs c b) fuelW
  | .ret a => bnd (evE c a) retR
  | .retN => ret (.ret .none false)
  | .brk => ret .brk
  | .cont => ret .cont
  | .pass => ret .nx
  | .rais x => fun e => .exc x e
  | .tryy b hs => fun e => match evSs c b e with
    | .exc x e' => evH c x hs e'
    | r => r
def evSs (c : CallF) : List S → M Fl
  | [] => ret .nx
  | s :: ss => bnd (evS c s) fun f => match f with
    | .nx => evSs c ss
    | f => ret f
def evH (c : CallF) (x : Nat) : List (List Nat × List S) → M Fl
  | [] => fun e => .exc x e
  | h :: hs => if h.1.contains x then evSs c h.2 else evH c x hs
end

/-! ### defs -/
structure FnDef where
  n : Nat
  np : Nat
  io : List Nat
  body : List S
def initE (fd : FnDef) (args : List D) : VEnv := ((args.zipIdx).map fun p => if fd.io.contains p.2 then Slot.io p.1 else Slot.im p.1) ++ List.replicate (fd.n - fd.np) .no
def outsE (fd : FnDef) (e : VEnv) : Option (List D) := fd.io.mapM fun i => match e.getD i .no with
  | .io d => some d
  | _ => none
def fin (fd : FnDef) : O Fl → CR
  | .ok (.ret d fr) e => (match outsE fd e with
    | some os => .ok d fr os
    | none => .bad)
  | .ok .nx e => (match outsE fd e with
    | some os => .ok .none false os
    | none => .bad)
  | .ok _ _ => .bad
  | .exc x e => (match outsE fd e with
    | some os => .exc x os
    | none => .bad)
  | .bad => .bad
def run (T : Nat → Option FnDef) : Nat → CallF
  | 0 => fun _ _ _ => .bad
  | k + 1 => fun f pos args => match T f with
    | none => .bad
    | some fd => if fd.io = pos ∧ args.length = fd.np ∧ fd.np ≤ fd.n then fin fd (evSs (run T k) fd.body (initE fd args)) else .bad
end Ev
/-! text EvB -/
set_option Elab.async false
set_option linter.all false
set_option maxRecDepth 100000
/-! Ev: how data stand in the abstract heap. -/
namespace Ev
open PySem PySem.Spec PyProof.Rows L2

/-! ### keys -/
mutual
def nk : D → NestedKey
  | .int i => .num i
  | .str x => .text x
  | .tuple ds => .tup (nks ds)
  | _ => .none
def nks : List D → List NestedKey
  | [] => []
  | d :: ds => nk d :: nks ds
end
/-- an object that stands just so -/
def ObjO (a : Addr) (o : Obj) : HO := .ext fun h => h.get? a = some o

/-- a tuple that is held: its object keeps no dict -/
def FT (H : Hp) (a : Addr) (xs : List V) : Prop := ∃ o : Obj, o.dict = none ∧ H a = some (.frz o (.tup xs))
theorem FT.rd {H : Hp} {a : Addr} {xs : List V} (h : FT H a xs) : Rd H a (.tup xs) := let ⟨o, _, q⟩ := h; .inr ⟨o, q⟩
theorem FT.kp {H H' : Hp} {a : Addr} {xs : List V} (e : H' a = H a) (h : FT H a xs) : FT H' a xs := let ⟨o, n, q⟩ := h; ⟨o, n, e.trans q⟩
/-- a list that the module holds as it was -/
def KL (K : PySem.W.Frag) (a : Addr) (xs : List V) : Prop := ∃ (its : List Value) (n : Nat), K.lookup a = some { cls := .type "list", data := .seq its.toArray n } ∧ its.length ≤ sizeLine ∧ Vals xs its
def RdL (K : PySem.W.Frag) (H : Hp) (a : Addr) (xs : List V) : Prop := Rd H a (.lst xs) ∨ KL K a xs
def LF (K : PySem.W.Frag) (S : Addr → Prop) (H : Hp) (a : Addr) (xs : List V) : Prop := (S a ∧ Rd H a (.lst xs)) ∨ KL K a xs
theorem RdL.sq {K : PySem.W.Frag} {H : Hp} {a : Addr} {xs : List V} (h : RdL K H a xs) : SqL K H a xs := by
  rcases h with h | ⟨its, n, h1, h2, h3⟩
  · exact .inl h
  · exact .inr ⟨_, its.toArray, n, h1, rfl, rfl, rfl, by simpa using h2, by simpa using h3⟩
theorem LF.rd {K : PySem.W.Frag} {S : Addr → Prop} {H : Hp} {a : Addr} {xs : List V} (h : LF K S H a xs) : RdL K H a xs := h.imp (fun z => z.2) id
mutual
/-- the value v, in the heap H, is the datum d, and all its objects are held for ever (S) -/
inductive Rv (K : PySem.W.Frag) (w : World) (S : Addr → Prop) (H : Hp) : V → D → Prop
  | non : Rv K w S H .non .none
  | bl (b : Bool) : Rv K w S H (.bl b) (.bool b)
  | int (i : Int) : Rv K w S H (.int i) (.int i)
  | str (x : Str) : Rv K w S H (.str x) (.str x)
  | lst {a : Addr} {xs : List V} {ds : List D} : LF K S H a xs → RdL K H a xs → xs.length ≤ sizeLine → Rvs K w S H xs ds → Rv K w S H (.ref a) (.list ds)
  | tup {a : Addr} {xs : List V} {ds : List D} : S a → FT H a xs → xs.length ≤ sizeLine → Rvs K w S H xs ds → Rv K w S H (.ref a) (.tuple ds)
  | dic {a : Addr} {o : Obj} {es : Array DictEntry} {ep : Nat} {kvs : List (D × D)} : S a → H a = some (ObjO a o) → (a == sysModules) = false → o.ExactDict → o.data = .dict es ep → es.size ≤ sizeLine → Rde K w S H es.toList kvs →
      (kvs.map fun p => nk p.1).Nodup → Rv K w S H (.ref a) (.dict kvs)
inductive Rvs (K : PySem.W.Frag) (w : World) (S : Addr → Prop) (H : Hp) : List V → List D → Prop
  | nil : Rvs K w S H [] []
  | cons {v : V} {vs : List V} {d : D} {ds : List D} : Rv K w S H v d → Rvs K w S H vs ds → Rvs K w S H (v :: vs) (d :: ds)
inductive Rde (K : PySem.W.Frag) (w : World) (S : Addr → Prop) (H : Hp) : List DictEntry → List (D × D) → Prop
  | nil : Rde K w S H [] []
  | cons {en : DictEntry} {es : List DictEntry} {k d : D} {kvs : List (D × D)} {kv vv : V} : keyOk k = true → (nk k).depth ≤ 8 → en.hash = (nk k).hash w → RelV kv en.key → Rv K w S H kv k → RelV vv en.val → Rv K w S H vv d →
      Rde K w S H es kvs → Rde K w S H (en :: es) ((k, d) :: kvs)
end
/-- what a slot's own object holds -/
inductive Ro (K : PySem.W.Frag) (w : World) (S : Addr → Prop) (H : Hp) (a : Addr) : D → Prop
  | lst {xs : List V} {ds : List D} : H a = some (.lst xs) → xs.length ≤ sizeLine → Rvs K w S H xs ds → Ro K w S H a (.list ds)
  | dic {o : Obj} {es : Array DictEntry} {ep : Nat} {kvs : List (D × D)} : H a = some (ObjO a o) → (a == sysModules) = false → o.ExactDict → o.data = .dict es ep → es.size ≤ sizeLine → Rde K w S H es.toList kvs →
      (kvs.map fun p => nk p.1).Nodup → Ro K w S H a (.dict kvs)

section
variable {K : PySem.W.Frag} {w : World} {S S' : Addr → Prop} {H H' : Hp}
/-- what is held for ever stays -/
def Kp (S : Addr → Prop) (H : Hp) (S' : Addr → Prop) (H' : Hp) : Prop := ∀ a, S a → S' a ∧ H' a = H a
theorem Kp.refl : Kp S H S H := fun _ h => ⟨h, rfl⟩
theorem Kp.trans {S'' : Addr → Prop} {H'' : Hp} (a : Kp S H S' H') (b : Kp S' H' S'' H'') : Kp S H S'' H'' := fun c h =>
  let ⟨h1, e1⟩ := a c h
  let ⟨h2, e2⟩ := b c h1
  ⟨h2, e2.trans e1⟩
theorem rd_kp {a : Addr} {u : HO} (e : H' a = H a) (h : Rd H a u) : Rd H' a u := by
  rcases h with h | ⟨o, h⟩
  · exact .inl (e.trans h)
  · exact .inr ⟨o, e.trans h⟩
theorem LF.mono {a : Addr} {xs : List V} (k : Kp S H S' H') (h : LF K S H a xs) : LF K S' H' a xs := h.imp (fun z => ⟨(k _ z.1).1, rd_kp (k _ z.1).2 z.2⟩) id
mutual
theorem Rv.mono (k : Kp S H S' H') : ∀ (d : D) (v : V), Rv K w S H v d → Rv K w S' H' v d
  | .none, _, h => by cases h; exact .non
  | .bool b, _, h => by cases h; exact .bl b
  | .int i, _, h => by cases h; exact .int i
  | .str x, _, h => by cases h; exact .str x
  | .list ds, _, h => by
    cases h with
    | lst h1 h2 h3 h4 => exact .lst (h1.mono k) (h1.mono k).rd h3 (Rvs.mono k ds _ h4)
  | .tuple ds, _, h => by
    cases h with
    | tup h1 h2 h3 h4 => exact .tup (k _ h1).1 (h2.kp (k _ h1).2) h3 (Rvs.mono k ds _ h4)
  | .dict kvs, _, h => by
    cases h with
    | dic h1 h2 h3 h4 h5 h6 h7 h8 => exact .dic (k _ h1).1 ((k _ h1).2.trans h2) h3 h4 h5 h6 (Rde.mono k kvs _ h7) h8
theorem Rvs.mono (k : Kp S H S' H') : ∀ (ds : List D) (vs : List V), Rvs K w S H vs ds → Rvs K w S' H' vs ds
  | [], _, h => by cases h; exact .nil
  | d :: ds, _, h => by
    cases h with
    | cons h1 h2 => exact .cons (Rv.mono k d _ h1) (Rvs.mono k ds _ h2)
theorem Rde.mono (k : Kp S H S' H') : ∀ (kvs : List (D × D)) (es : List DictEntry), Rde K w S H es kvs → Rde K w S' H' es kvs
  | [], _, h => by cases h; exact .nil
  | (a, d) :: kvs, _, h => by
    cases h with
    | cons h1 h2 h3 h4 h5 h6 h7 h8 => exact .cons h1 h2 h3 h4 (Rv.mono k a _ h5) h6 (Rv.mono k d _ h7) (Rde.mono k kvs _ h8)
end
theorem Ro.mono (k : Kp S H S' H') {a : Addr} {d : D} (e : H' a = H a) (h : Ro K w S H a d) : Ro K w S' H' a d := by
  cases h with
  | lst h1 h2 h3 => exact .lst (e.trans h1) h2 (h3.mono k)
  | dic h1 h2 h3 h4 h5 h6 h7 => exact .dic (e.trans h1) h2 h3 h4 h5 (h6.mono k) h7
theorem Rvs.length : ∀ {vs : List V} {ds : List D}, Rvs K w S H vs ds → vs.length = ds.length
  | _, [], h => by cases h; rfl
  | _, d :: ds, h => by
    cases h with
    | cons h1 h2 => exact congrArg Nat.succ (Rvs.length h2)
theorem Rvs.get : ∀ {vs : List V} {ds : List D}, Rvs K w S H vs ds → ∀ {i : Nat} {d : D}, ds[i]? = some d → ∃ v, vs[i]? = some v ∧ Rv K w S H v d
  | _, [], h, i, d, e => by simp at e
  | _, d0 :: ds, h, i, d, e => by
    cases h with
    | @cons v vs _ _ h1 h2 =>
      cases i with
      | zero => simp at e; subst e; exact ⟨v, rfl, h1⟩
      | succ i => simpa using Rvs.get h2 (i := i) (by simpa using e)
theorem Rvs.get' : ∀ {vs : List V} {ds : List D}, Rvs K w S H vs ds → ∀ {i : Nat} {v : V}, vs[i]? = some v → ∃ d, ds[i]? = some d ∧ Rv K w S H v d
  | _, [], h, i, v, e => by cases h; simp at e
  | _, d0 :: ds, h, i, v, e => by
    cases h with
    | @cons v0 vs _ _ h1 h2 =>
      cases i with
      | zero => simp at e; subst e; exact ⟨d0, rfl, h1⟩
      | succ i => simpa using Rvs.get' h2 (i := i) (by simpa using e)
theorem Rvs.append : ∀ {vs us : List V} {ds es : List D}, Rvs K w S H vs ds → Rvs K w S H us es → Rvs K w S H (vs ++ us) (ds ++ es)
  | _, _, [], _, h, h' => by cases h; exact h'
  | _, _, d :: ds, _, h, h' => by
    cases h with
    | cons h1 h2 => exact .cons h1 (Rvs.append h2 h')
theorem Rvs.take {vs : List V} : ∀ {ds : List D} (n : Nat), Rvs K w S H vs ds → Rvs K w S H (vs.take n) (ds.take n) := by
  induction vs with
  | nil => intro ds n h; cases h; simp; exact .nil
  | cons v vs ih =>
    intro ds n h
    cases h with
    | cons h1 h2 =>
      cases n with
      | zero => simp; exact .nil
      | succ n => simp; exact .cons h1 (ih n h2)
theorem Rvs.drop {vs : List V} : ∀ {ds : List D} (n : Nat), Rvs K w S H vs ds → Rvs K w S H (vs.drop n) (ds.drop n) := by
  induction vs with
  | nil => intro ds n h; cases h; simp; exact .nil
  | cons v vs ih =>
    intro ds n h
    cases h with
    | cons h1 h2 =>
      cases n with
      | zero => exact .cons h1 h2
      | succ n => simp; exact ih n h2
theorem Rvs.set {vs : List V} {v : V} {d : D} (hv : Rv K w S H v d) : ∀ {ds : List D} (n : Nat), Rvs K w S H vs ds → Rvs K w S H (vs.set n v) (ds.set n d) := by
  induction vs with
  | nil => intro ds n h; cases h; simp; exact .nil
  | cons u vs ih =>
    intro ds n h
    cases h with
    | cons h1 h2 =>
      cases n with
      | zero => exact .cons hv h2
      | succ n => simp; exact .cons h1 (ih n h2)
theorem Rvs.reverse {vs : List V} : ∀ {ds : List D}, Rvs K w S H vs ds → Rvs K w S H vs.reverse ds.reverse := by
  induction vs with
  | nil => intro ds h; cases h; exact .nil
  | cons u vs ih =>
    intro ds h
    cases h with
    | cons h1 h2 => simp; exact (ih h2).append (.cons h1 .nil)
theorem Rvs.eraseIdx {vs : List V} : ∀ {ds : List D} (n : Nat), Rvs K w S H vs ds → Rvs K w S H (vs.eraseIdx n) (ds.eraseIdx n) := by
  induction vs with
  | nil => intro ds n h; cases h; exact .nil
  | cons u vs ih =>
    intro ds n h
    cases h with
    | cons h1 h2 =>
      cases n with
      | zero => exact h2
      | succ n => simp; exact .cons h1 (ih n h2)
theorem Rvs.dropLast {vs : List V} {ds : List D} (h : Rvs K w S H vs ds) : Rvs K w S H vs.dropLast ds.dropLast := by
  rw [List.dropLast_eq_take, List.dropLast_eq_take, h.length]
  exact h.take _
theorem Rvs.rep {vs : List V} {ds : List D} (h : Rvs K w S H vs ds) : ∀ k : Nat, Rvs K w S H (List.replicate k vs).flatten (List.replicate k ds).flatten
  | 0 => .nil
  | k + 1 => by simp only [List.replicate_succ, List.flatten_cons]; exact h.append (Rvs.rep h k)
theorem Rde.length : ∀ {es : List DictEntry} {kvs : List (D × D)}, Rde K w S H es kvs → es.length = kvs.length
  | _, [], h => by cases h; rfl
  | _, _ :: _, h => by
    cases h with
    | cons h1 h2 h3 h4 h5 h6 h7 h8 => exact congrArg Nat.succ (Rde.length h8)
/-- ints, bools as they stand -/
theorem rvs_ints : ∀ {vs : List V} {ds : List D} {ns : List Int}, Rvs K w S H vs ds → ints? ds = some ns → vs = ns.map V.int
  | _, [], ns, h, e => by cases h; simp [ints?] at e; subst e; rfl
  | _, d :: ds, ns, h, e => by
    cases h with
    | cons h1 h2 =>
      unfold ints? at e
      split at e
      · rename_i i r hr
        cases h1
        simp at e; subst e
        rw [rvs_ints h2 hr]; rfl
      · cases e
theorem rvs_bools : ∀ {vs : List V} {ds : List D} {ns : List Bool}, Rvs K w S H vs ds → bools? ds = some ns → vs = ns.map V.bl
  | _, [], ns, h, e => by cases h; simp [bools?] at e; subst e; rfl
  | _, d :: ds, ns, h, e => by
    cases h with
    | cons h1 h2 =>
      unfold bools? at e
      split at e
      · rename_i i r hr
        cases h1
        simp at e; subst e
        rw [rvs_bools h2 hr]; rfl
      · cases e
end

/-! ### what is read off the machine's heap -/
section
variable {X : Cx} {pins : List (Addr × Obj)} {σ : L2.St} {S : Addr → Prop} {H : Hp} {s : Shared}
theorem obj_of (I : Inv X pins σ H s) {a : Addr} {o : Obj} (h : H a = some (ObjO a o)) : s.heap.get? a = some o := (I.hok a _ h).1
mutual
theorem Rv.reads (I : Inv X pins σ H s) : ∀ (d : D) (v : V) (u : Value), Rv X.K X.w S H v d → RelV v u → ∃ as, Reads s.heap u d as
  | .none, _, _, h, r => by cases h; cases r; exact ⟨_, .none⟩
  | .bool b, _, _, h, r => by cases h; cases r; exact ⟨_, .bool b⟩
  | .int i, _, _, h, r => by cases h; obtain ⟨t, rfl⟩ := r; exact ⟨_, .int i t⟩
  | .str x, _, _, h, r => by cases h; obtain ⟨t, rfl⟩ := r; exact ⟨_, .str x t⟩
  | .list ds, _, _, h, r => by
    cases h with
    | lst h1 h2 h3 h4 =>
      cases r
      obtain ⟨its, rv, ⟨o, n, ho, hc, _, hd⟩, _⟩ := I.list h2.sq
      obtain ⟨as, hr⟩ := Rvs.reads I ds _ its h4 rv
      exact ⟨_, .list ho hc hd hr⟩
  | .tuple ds, _, _, h, r => by
    cases h with
    | tup h1 h2 h3 h4 =>
      cases r
      obtain ⟨its, rv, ⟨o, ho, hc, n, hd⟩, _⟩ := I.tuple (.inl h2.rd)
      obtain ⟨as, hr⟩ := Rvs.reads I ds _ its h4 rv
      exact ⟨_, .tuple ho hc hd hr⟩
  | .dict kvs, _, _, h, r => by
    cases h with
    | dic h1 h2 h3 h4 h5 h6 h7 h8 =>
      cases r
      obtain ⟨as, bs, r1, r2⟩ := Rde.reads I kvs _ h7
      exact ⟨_, .dict (obj_of I h2) h4.1 h5 r1 r2⟩
theorem Rvs.reads (I : Inv X pins σ H s) : ∀ (ds : List D) (vs : List V) (us : List Value), Rvs X.K X.w S H vs ds → Vals vs us → ∃ as, ReadsAll s.heap us ds as
  | [], _, _, h, r => by cases h; cases r; exact ⟨_, .nil⟩
  | d :: ds, _, _, h, r => by
    cases h with
    | cons h1 h2 =>
      cases r with
      | cons r1 r2 =>
        obtain ⟨as, q1⟩ := Rv.reads I d _ _ h1 r1
        obtain ⟨bs, q2⟩ := Rvs.reads I ds _ _ h2 r2
        exact ⟨_, .cons q1 q2⟩
theorem Rde.reads (I : Inv X pins σ H s) : ∀ (kvs : List (D × D)) (es : List DictEntry), Rde X.K X.w S H es kvs → ∃ as bs, ReadsAll s.heap (es.map (·.key)) (kvs.map (·.1)) as ∧ ReadsAll s.heap (es.map (·.val)) (kvs.map (·.2)) bs
  | [], _, h => by cases h; exact ⟨_, _, .nil, .nil⟩
  | (k, d) :: kvs, _, h => by
    cases h with
    | cons h1 h2 h3 h4 h5 h6 h7 h8 =>
      obtain ⟨as, q1⟩ := Rv.reads I k _ _ h5 h4
      obtain ⟨bs, q2⟩ := Rv.reads I d _ _ h7 h6
      obtain ⟨as2, bs2, q3, q4⟩ := Rde.reads I kvs _ h8
      exact ⟨_, _, .cons q1 q3, .cons q2 q4⟩
end
/-- an own object, read -/
theorem Ro.reads (I : Inv X pins σ H s) {a : Addr} {d : D} (h : Ro X.K X.w S H a d) : ∃ as, Reads s.heap (.ref a) d as := by
  cases h with
  | lst h1 h2 h3 =>
    obtain ⟨its, rv, ⟨o, n, ho, hc, _, hd⟩, _⟩ := I.list (.inl (.inl h1))
    obtain ⟨as, hr⟩ := Rvs.reads I _ _ its h3 rv
    exact ⟨_, .list ho hc hd hr⟩
  | dic h1 h2 h3 h4 h5 h6 h7 =>
    obtain ⟨as, bs, r1, r2⟩ := Rde.reads I _ _ h6
    exact ⟨_, .dict (obj_of I h1) h3.1 h4 r1 r2⟩
end

/-! ### the relation of a state -/
/-- what surrounds a def's run -/
structure Am where
  K : PySem.W.Frag
  w : World
  H0 : Hp
  S0 : Addr → Prop
  io : List (Nat × Addr)
def Own (e : VEnv) (i : Nat) : Prop := ∃ d, e.getD i .no = .ow d ∨ e.getD i .no = .io d
structure Rl (A : Am) (S : Addr → Prop) (e : VEnv) (σ : L2.St) (H : Hp) : Prop where
  len : e.length ≤ σ.length
  im : ∀ i d, e.getD i .no = .im d → ∃ v, σ[i]? = some (some v) ∧ Rv A.K A.w S H v d
  ow : ∀ i d, e.getD i .no = .ow d → ∃ a, σ[i]? = some (some (.ref a)) ∧ ¬ S a ∧ A.H0 a = none ∧ Ro A.K A.w S H a d
  io : ∀ i d, e.getD i .no = .io d → ∃ a, σ[i]? = some (some (.ref a)) ∧ ¬ S a ∧ (i, a) ∈ A.io ∧ Ro A.K A.w S H a d
  dis : ∀ i j a, Own e i → Own e j → σ[i]? = some (some (.ref a)) → σ[j]? = some (some (.ref a)) → i = j
  fr : ∀ a o, A.H0 a = some o → (∀ i, (i, a) ∉ A.io) → H a = some o
  s0 : ∀ a, A.S0 a → S a
  s1 : ∀ a, S a → A.H0 a ≠ none → A.S0 a
  sn : ∀ a, S a → H a ≠ none
  ion : ∀ i a, (i, a) ∈ A.io → H a ≠ none ∧ ¬ S a
  io0 : ∀ i a, (i, a) ∈ A.io → A.H0 a ≠ none
/-- the own objects' places -/
def Wd (e : VEnv) (σ : L2.St) (a : Addr) : Prop := ∃ i, Own e i ∧ σ[i]? = some (some (.ref a))
/-- what an expression may change -/
structure Mn (e : VEnv) (σ : L2.St) (S : Addr → Prop) (H : Hp) (e' : VEnv) (S' : Addr → Prop) (H' : Hp) : Prop where
  keep : ∀ a o, H a = some o → ¬ Wd e σ a → H' a = some o
  up : ∀ a, S a → S' a
  dn : ∀ a, H a ≠ none → S' a → S a ∨ Wd e σ a
  own : ∀ i, Own e' i → Own e i
  st : ∀ a, H a ≠ none → H' a ≠ none
  ln : e'.length = e.length
theorem Rl.notWd {A : Am} {S : Addr → Prop} {e : VEnv} {σ : L2.St} {H : Hp} (R : Rl A S e σ H) {a : Addr} (h : S a) : ¬ Wd e σ a := by
  rintro ⟨i, ⟨d, h1 | h1⟩, h2⟩
  · obtain ⟨b, e1, n, _⟩ := R.ow i d h1
    rw [h2] at e1; cases e1
    exact n h
  · obtain ⟨b, e1, n, _⟩ := R.io i d h1
    rw [h2] at e1; cases e1
    exact n h
theorem Mn.kp {A : Am} {S S' : Addr → Prop} {e e' : VEnv} {σ : L2.St} {H H' : Hp} (R : Rl A S e σ H) (m : Mn e σ S H e' S' H') : Kp S H S' H' := fun a h => by
  refine ⟨m.up a h, ?_⟩
  cases q : H a with
  | none => exact absurd q (R.sn a h)
  | some o => exact m.keep a o q (R.notWd h)
theorem Mn.refl {S : Addr → Prop} {e : VEnv} {σ : L2.St} {H : Hp} : Mn e σ S H e S H := ⟨fun _ _ h _ => h, fun _ h => h, fun _ _ h => .inl h, fun _ h => h, fun _ h => h, rfl⟩
theorem Wd.sub {e e' : VEnv} {σ : L2.St} {a : Addr} (h : ∀ i, Own e' i → Own e i) (x : Wd e' σ a) : Wd e σ a := let ⟨i, h1, h2⟩ := x; ⟨i, h i h1, h2⟩
theorem Mn.trans {S S' S'' : Addr → Prop} {e e' e'' : VEnv} {σ : L2.St} {H H' H'' : Hp} (m : Mn e σ S H e' S' H') (n : Mn e' σ S' H' e'' S'' H'') : Mn e σ S H e'' S'' H'' where
  keep := fun a o h hw => n.keep a o (m.keep a o h hw) fun x => hw (x.sub m.own)
  up := fun a h => n.up a (m.up a h)
  dn := fun a h hs => by
    by_cases hw : Wd e σ a
    · exact .inr hw
    · cases q : H a with
      | none => exact absurd q h
      | some o =>
        rcases n.dn a (by rw [m.keep a o q hw]; simp) hs with h1 | h1
        · exact m.dn a h h1
        · exact .inr (h1.sub m.own)
  own := fun i h => m.own i (n.own i h)
  st := fun a h => n.st a (m.st a h)
  ln := n.ln.trans m.ln

/-- how a value as it comes stands -/
inductive Rr (A : Am) (S : Addr → Prop) (e : VEnv) (σ : L2.St) (H : Hp) : V → R → Prop
  | val {v : V} {d : D} : Rv A.K A.w S H v d → Rr A S e σ H v (.val d)
  | slot {v : V} {i : Nat} : σ[i]? = some (some v) → Rr A S e σ H v (.slot i)
  | fresh {a : Addr} {d : D} : ¬ S a → A.H0 a = none → ¬ Wd e σ a → Ro A.K A.w S H a d → Rr A S e σ H (.ref a) (.fresh d)
/-- read: a datum of which the top object may be one's own -/
inductive Rw (K : PySem.W.Frag) (w : World) (S : Addr → Prop) (H : Hp) : V → D → Prop
  | rv {v : V} {d : D} : Rv K w S H v d → Rw K w S H v d
  | ro {a : Addr} {d : D} : Ro K w S H a d → Rw K w S H (.ref a) d
theorem Rw.reads {X : Cx} {pins : List (Addr × Obj)} {σ : L2.St} {S : Addr → Prop} {H : Hp} {s : Shared} (I : Inv X pins σ H s) {d : D} {v : V} {u : Value} (h : Rw X.K X.w S H v d) (r : RelV v u) : ∃ as, Reads s.heap u d as := by
  cases h with
  | rv h => exact h.reads I d v u r
  | ro h => cases r; exact h.reads I
/-- a value as it comes, read -/
theorem Rr.rw {A : Am} {S : Addr → Prop} {e : VEnv} {σ : L2.St} {H : Hp} {v : V} {r : R} {d : D} (R : Rl A S e σ H) (h : Rr A S e σ H v r) (hd : rd e r = some d) : Rw A.K A.w S H v d := by
  cases h with
  | val h => cases hd; exact .rv h
  | fresh h1 h2 h3 h4 => cases hd; exact .ro h4
  | @slot _ i h1 =>
    have hd : (e.getD i .no).data = some d := hd
    cases q : e.getD i .no with
    | no => rw [q] at hd; cases hd
    | im d' =>
      rw [q] at hd; cases hd
      obtain ⟨v', e1, r⟩ := R.im i _ q
      rw [h1] at e1; cases e1
      exact .rv r
    | ow d' =>
      rw [q] at hd; cases hd
      obtain ⟨a, e1, _, _, r⟩ := R.ow i _ q
      rw [h1] at e1; cases e1
      exact .ro r
    | io d' =>
      rw [q] at hd; cases hd
      obtain ⟨a, e1, _, _, r⟩ := R.io i _ q
      rw [h1] at e1; cases e1
      exact .ro r
/-- a value as it comes, behind more -/
theorem Rr.mono {A : Am} {S S' : Addr → Prop} {e e' : VEnv} {σ : L2.St} {H H' : Hp} {v : V} {r : R} (R : Rl A S e σ H) (m : Mn e σ S H e' S' H') (h : Rr A S e σ H v r) : Rr A S' e' σ H' v r := by
  cases h with
  | val h => exact .val (h.mono (m.kp R))
  | slot h1 => exact .slot h1
  | @fresh a d h1 h2 h3 h4 =>
    have hn : H a ≠ none := by cases h4 with
      | lst q => rw [q]; simp
      | dic q => rw [q]; simp
    obtain ⟨o, ho⟩ := Option.ne_none_iff_exists'.mp hn
    refine .fresh (fun q => ?_) h2 (fun x => h3 (x.sub m.own)) (h4.mono (m.kp R) ?_)
    · rcases m.dn a hn q with q | q
      · exact h1 q
      · exact h3 q
    · rw [ho]; exact m.keep a o ho h3

/-! ### readings -/
/-- the class of an exception by its number -/
abbrev Ecls := Nat → Value
def Res {α : Type} (A : Am) (C : Ecls) (W : WX) (σ : L2.St) (S : Addr → Prop) (H : Hp) (e : VEnv) (o : O α) (P : α → VEnv → (Addr → Prop) → Hp → Prop) : Prop :=
  match o with
  | .ok a e' => ∀ S' H', Rl A S' e' σ H' → Mn e σ S H e' S' H' → P a e' S' H'
  | .exc c e' => ∀ S' H' dd, Rl A S' e' σ H' → Mn e σ S H e' S' H' → W (C c) dd σ H'
  | .bad => False
theorem Res.bnd {α β : Type} {A : Am} {C : Ecls} {W : WX} {σ : L2.St} {S : Addr → Prop} {H : Hp} {e : VEnv} {x : M α} {f : α → M β} {P : β → VEnv → (Addr → Prop) → Hp → Prop} (h : Res A C W σ S H e (bnd x f e) P) :
    Res A C W σ S H e (x e) fun a e1 S1 H1 => Mn e σ S H e1 S1 H1 ∧ Res A C W σ S1 H1 e1 (f a e1) P := by
  unfold Ev.bnd at h
  cases q : x e with
  | ok a e1 =>
    rw [q] at h
    intro S1 H1 R1 M1
    refine ⟨M1, ?_⟩
    have h : Res A C W σ S H e (f a e1) P := h
    cases q2 : f a e1 with
    | ok b e2 =>
      rw [q2] at h
      intro S2 H2 R2 M2
      exact h S2 H2 R2 (M1.trans M2)
    | exc c e2 =>
      rw [q2] at h
      intro S2 H2 dd R2 M2
      exact h S2 H2 dd R2 (M1.trans M2)
    | bad =>
      rw [q2] at h
      exact h
  | exc c e1 => rw [q] at h; exact h
  | bad => rw [q] at h; exact h
theorem Res.imp {α : Type} {A : Am} {C : Ecls} {W : WX} {σ : L2.St} {S : Addr → Prop} {H : Hp} {e : VEnv} {o : O α} {P P' : α → VEnv → (Addr → Prop) → Hp → Prop} (h : Res A C W σ S H e o P)
    (i : ∀ a e' S' H', Rl A S' e' σ H' → Mn e σ S H e' S' H' → P a e' S' H' → P' a e' S' H') : Res A C W σ S H e o P' := by
  cases o with
  | ok a e' => exact fun S' H' R' M' => i a e' S' H' R' M' (h S' H' R' M')
  | exc c e' => exact h
  | bad => exact h
/-- new since H -/
def Nw (H : Hp) (v : V) (r : R) : Prop := ∀ d a, r = .fresh d → v = .ref a → H a = none
/-- the reading of an expression -/
def tE (A : Am) (C : Ecls) (W : WX) (x : M R) : TE := fun σ H Q => ∃ S e, Rl A S e σ H ∧ Res A C W σ S H e (x e) fun r e' S' H' => ∀ v, Rr A S' e' σ H' v r → Nw H v r → Q v H'
/-- .. of one held for ever -/
def tV (A : Am) (C : Ecls) (W : WX) (x : M D) : TE := fun σ H Q => ∃ S e, Rl A S e σ H ∧ Res A C W σ S H e (x e) fun d e' S' H' => ∀ v, Rv A.K A.w S' H' v d → Q v H'
def tT (A : Am) (C : Ecls) (W : WX) (x : M Bool) : TT := fun σ H Q => ∃ S e, Rl A S e σ H ∧ Res A C W σ S H e (x e) fun b e' S' H' => Q b H'
def tVs (A : Am) (C : Ecls) (W : WX) (x : M (List D)) : TA := fun σ H Q => ∃ S e, Rl A S e σ H ∧ Res A C W σ S H e (x e) fun ds e' S' H' => ∀ vs, Rvs A.K A.w S' H' vs ds → Q vs H'
/-- a new one stands in no later place -/
def Apart (v : V) (r : R) (vs : List V) (rs : List R) : Prop := ∀ d, r = .fresh d → ∀ (j : Nat) (d' : D), rs[j]? = some (.fresh d') → vs[j]? ≠ some v
inductive Rrs (A : Am) (S : Addr → Prop) (e : VEnv) (σ : L2.St) (H : Hp) : List V → List R → Prop
  | nil : Rrs A S e σ H [] []
  | cons {v : V} {vs : List V} {r : R} {rs : List R} : Rr A S e σ H v r → Rrs A S e σ H vs rs → Apart v r vs rs → Rrs A S e σ H (v :: vs) (r :: rs)
/-- the new ones are new since H -/
def Nws (H : Hp) (vs : List V) (rs : List R) : Prop := ∀ (j : Nat) (d : D) (a : Addr), rs[j]? = some (.fresh d) → vs[j]? = some (.ref a) → H a = none
def tRs (A : Am) (C : Ecls) (W : WX) (x : M (List R)) : TA := fun σ H Q => ∃ S e, Rl A S e σ H ∧ Res A C W σ S H e (x e) fun rs e' S' H' => ∀ vs, Rrs A S' e' σ H' vs rs → Nws H vs rs → Q vs H'
theorem PE.imp {X : Cx} {e : Expr} {t t' : TE} (h : PE X e t) (i : ∀ σ H Q, t' σ H Q → t σ H Q) : PE X e t' := ⟨fun pins s σ H Q I q => h.run pins s σ H Q I (i σ H Q q)⟩
theorem PT.imp {X : Cx} {e : Expr} {t t' : TT} (h : PT X e t) (i : ∀ σ H Q, t' σ H Q → t σ H Q) : PT X e t' := ⟨fun pins s σ H Q I q => h.run pins s σ H Q I (i σ H Q q)⟩
theorem PA.imp {X : Cx} {es : List Expr} {t t' : TA} (h : PA X es t) (i : ∀ σ H Q, t' σ H Q → t σ H Q) : PA X es t' := ⟨fun pos pins s σ H Q I q => h.run pos pins s σ H Q I (i σ H Q q)⟩
theorem PS.imp {X : Cx} {e : Stmt} {t t' : TS} (h : PS X e t) (i : ∀ D σ H, t' D σ H → t D σ H) : PS X e t' := ⟨fun pins s σ H D I q => h.run pins s σ H D I (i D σ H q)⟩
end Ev
/-! text EvC -/
set_option Elab.async false
set_option linter.all false
set_option maxRecDepth 100000
/-! Ev: readings of expressions. -/
namespace Ev
open PySem PySem.Spec PyProof.Rows L2

/-! ### the state behind a new object -/
def addS (S : Addr → Prop) (p : Addr) : Addr → Prop := fun a => S a ∨ a = p
section
variable {A : Am} {S S' : Addr → Prop} {e e' : VEnv} {σ : L2.St} {H H' : Hp} {p : Addr} {o : HO} {d : D} {r : R} {v : V}
theorem kp_new (hp : H p = none) (sn : ∀ a, S a → H a ≠ none) : Kp S H S (upd H p o) := fun a h => ⟨h, upd_ne fun q => sn a h (by rw [q]; exact hp)⟩
theorem kp_add (hp : H p = none) (sn : ∀ a, S a → H a ≠ none) : Kp S H (addS S p) (upd H p o) := fun a h => ⟨.inl h, upd_ne fun q => sn a h (by rw [q]; exact hp)⟩
theorem kp_hold : Kp S H (addS S p) H := fun a h => ⟨.inl h, rfl⟩
theorem ro_ne {K : PySem.W.Frag} {w : World} (h : Ro K w S H p d) : H p ≠ none := by
  cases h with
  | lst q => rw [q]; simp
  | dic q => rw [q]; simp
theorem Rl.h0 (R : Rl A S e σ H) (hp : H p = none) : A.H0 p = none := by
  cases q : A.H0 p with
  | none => rfl
  | some u =>
    by_cases h : ∃ i, (i, p) ∈ A.io
    · obtain ⟨i, h⟩ := h
      exact absurd hp (R.ion i p h).1
    · have := R.fr p u q fun i hi => h ⟨i, hi⟩
      rw [hp] at this; cases this
theorem Rl.notOwn (R : Rl A S e σ H) (hp : H p = none) : ¬ Wd e σ p := by
  rintro ⟨i, ⟨d, h1 | h1⟩, h2⟩
  · obtain ⟨b, e1, _, _, r⟩ := R.ow i d h1
    rw [h2] at e1; cases e1
    exact ro_ne r hp
  · obtain ⟨b, e1, _, _, r⟩ := R.io i d h1
    rw [h2] at e1; cases e1
    exact ro_ne r hp
theorem Rl.notS (R : Rl A S e σ H) (hp : H p = none) : ¬ S p := fun h => R.sn p h hp
theorem Rl.new (R : Rl A S e σ H) (hp : H p = none) : Rl A S e σ (upd H p o) where
  len := R.len
  im := fun i d h => let ⟨v, h1, h2⟩ := R.im i d h; ⟨v, h1, h2.mono (kp_new hp R.sn)⟩
  ow := fun i d h => by
    obtain ⟨a, h1, h2, h3, h4⟩ := R.ow i d h
    exact ⟨a, h1, h2, h3, h4.mono (kp_new hp R.sn) (upd_ne fun q => ro_ne h4 (by rw [q]; exact hp))⟩
  io := fun i d h => by
    obtain ⟨a, h1, h2, h3, h4⟩ := R.io i d h
    exact ⟨a, h1, h2, h3, h4.mono (kp_new hp R.sn) (upd_ne fun q => ro_ne h4 (by rw [q]; exact hp))⟩
  dis := R.dis
  fr := fun a u h1 h2 => by
    have := R.fr a u h1 h2
    rw [upd_ne fun q => by rw [q, hp] at this; cases this]
    exact this
  s0 := R.s0
  s1 := R.s1
  sn := fun a h => by
    rw [upd_ne fun q => R.sn a h (by rw [q]; exact hp)]
    exact R.sn a h
  ion := fun i a h => by
    obtain ⟨h1, h2⟩ := R.ion i a h
    refine ⟨?_, h2⟩
    rw [upd_ne fun q => h1 (by rw [q]; exact hp)]
    exact h1
  io0 := R.io0
/-- an object that stands already, not one's own, is held for ever -/
theorem Rl.hold (R : Rl A S e σ H) (hp : H p ≠ none) (hw : ¬ Wd e σ p) (h0 : A.H0 p = none) : Rl A (addS S p) e σ H where
  len := R.len
  im := fun i d h => let ⟨v, h1, h2⟩ := R.im i d h; ⟨v, h1, h2.mono kp_hold⟩
  ow := fun i d h => by
    obtain ⟨a, h1, h2, h3, h4⟩ := R.ow i d h
    refine ⟨a, h1, fun q => ?_, h3, h4.mono kp_hold rfl⟩
    rcases q with q | q
    · exact h2 q
    · exact hw ⟨i, ⟨d, .inl h⟩, q ▸ h1⟩
  io := fun i d h => by
    obtain ⟨a, h1, h2, h3, h4⟩ := R.io i d h
    refine ⟨a, h1, fun q => ?_, h3, h4.mono kp_hold rfl⟩
    rcases q with q | q
    · exact h2 q
    · exact hw ⟨i, ⟨d, .inr h⟩, q ▸ h1⟩
  dis := R.dis
  fr := R.fr
  s0 := fun a h => .inl (R.s0 a h)
  s1 := fun a h hn => by
    rcases h with h | h
    · exact R.s1 a h hn
    · rw [h] at hn; exact absurd h0 hn
  sn := fun a h => by
    rcases h with h | h
    · exact R.sn a h
    · rw [h]; exact hp
  ion := fun i a h => by
    obtain ⟨h1, h2⟩ := R.ion i a h
    refine ⟨h1, fun q => ?_⟩
    rcases q with q | q
    · exact h2 q
    · subst q; exact R.io0 i a h h0
  io0 := R.io0
theorem Rl.add (R : Rl A S e σ H) (hp : H p = none) : Rl A (addS S p) e σ (upd H p o) :=
  (R.new (o := o) hp).hold (by rw [upd_same]; simp) (R.notOwn hp) (R.h0 hp)
theorem Mn.new (R : Rl A S e σ H) (hp : H p = none) : Mn e σ S H e S (upd H p o) :=
  ⟨fun a u h _ => by rw [upd_ne fun q => by rw [q, hp] at h; cases h]; exact h, fun _ h => h, fun _ _ h => .inl h, fun _ h => h, fun a h => by rw [upd_ne fun q => h (by rw [q]; exact hp)]; exact h, rfl⟩
theorem Mn.add (R : Rl A S e σ H) (hp : H p = none) : Mn e σ S H e (addS S p) (upd H p o) :=
  ⟨fun a u h _ => by rw [upd_ne fun q => by rw [q, hp] at h; cases h]; exact h, fun _ h => .inl h, fun a h q => q.elim .inl fun q => absurd (by rw [q]; exact hp) h, fun _ h => h, fun a h => by rw [upd_ne fun q => h (by rw [q]; exact hp)]; exact h, rfl⟩
end

/-! ### what is done with values as they come -/
section
variable {A : Am} {C : Ecls} {W : WX} {S S' : Addr → Prop} {e e' : VEnv} {σ : L2.St} {H H' : Hp} {p : Addr} {o : HO} {d : D} {r : R} {v : V}
theorem rdM_of {α : Type} {f : D → M α} {P : α → VEnv → (Addr → Prop) → Hp → Prop} (h : Res A C W σ S H e (bnd (rdM r) f e) P) : ∃ d, rd e r = some d ∧ Res A C W σ S H e (f d e) P := by
  cases q : rd e r with
  | none =>
    have z : bnd (rdM r) f e = .bad := by unfold bnd rdM; rw [q]
    rw [z] at h; exact h.elim
  | some d =>
    have z : bnd (rdM r) f e = f d e := by unfold bnd rdM; rw [q]
    rw [z] at h; exact ⟨d, rfl, h⟩
theorem opt_of {α : Type} {x : Option α} {P : α → VEnv → (Addr → Prop) → Hp → Prop} (h : Res A C W σ S H e (opt x e) P) : ∃ a, x = some a ∧ ∀ S' H', Rl A S' e σ H' → Mn e σ S H e S' H' → P a e S' H' := by
  cases x with
  | none => exact h.elim
  | some a => exact ⟨a, rfl, h⟩
theorem opt_bnd {α β : Type} {x : Option α} {f : α → M β} {P : β → VEnv → (Addr → Prop) → Hp → Prop} (h : Res A C W σ S H e (bnd (opt x) f e) P) : ∃ a, x = some a ∧ Res A C W σ S H e (f a e) P := by
  cases x with
  | none => exact h.elim
  | some a => exact ⟨a, rfl, h⟩
theorem truthM_of {α : Type} {f : Bool → M α} {P : α → VEnv → (Addr → Prop) → Hp → Prop} (h : Res A C W σ S H e (bnd (truthM r) f e) P) : ∃ d k, rd e r = some d ∧ truth? d = some k ∧ Res A C W σ S H e (f k e) P := by
  have h : Res A C W σ S H e (bnd (rdM r) (fun d => bnd (opt (truth? d)) f) e) P := by
    have z : bnd (truthM r) f e = bnd (rdM r) (fun d => bnd (opt (truth? d)) f) e := by
      unfold truthM bnd
      cases rdM r e <;> rfl
    rw [← z]; exact h
  obtain ⟨d, h1, h2⟩ := rdM_of h
  obtain ⟨k, h3, h4⟩ := opt_bnd h2
  exact ⟨d, k, h1, h3, h4⟩
theorem rd_no (h : rd e r = some d) : ∀ i, r = .slot i → e.getD i .no ≠ .no := fun i q z => by
  subst q
  have h : (e.getD i .no).data = some d := h
  rw [z] at h; cases h
/-- new at most one object -/
def Ext1 (S : Addr → Prop) (H : Hp) (S' : Addr → Prop) (H' : Hp) : Prop := (S' = S ∧ H' = H) ∨ ∃ p o, H p = none ∧ S' = addS S p ∧ H' = upd H p o
/-- what an operator hands back -/
def RK (K : PySem.W.Frag) (w : World) (S : Addr → Prop) (H : Hp) (r : R) (Q : VK) : Prop := match r with
  | .val d => ∀ v S' H', Ext1 S H S' H' → Rv K w S' H' v d → Q v H'
  | .fresh d => ∀ p o, H p = none → Ro K w S (upd H p o) p d → Q (.ref p) (upd H p o)
  | .slot _ => False
theorem rk_of {Q : VK} (R : Rl A S e σ H) (h : ∀ S' H', Rl A S' e σ H' → Mn e σ S H e S' H' → ∀ v, Rr A S' e σ H' v r → Nw H v r → Q v H') (hr : ∀ i, r ≠ .slot i) : RK A.K A.w S H r Q := by
  cases r with
  | slot i => exact absurd rfl (hr i)
  | val d =>
    intro v S' H' x hv
    rcases x with ⟨rfl, rfl⟩ | ⟨p, o, hp, rfl, rfl⟩
    · exact h _ _ R .refl v (.val hv) (fun _ _ z => nomatch z)
    · exact h _ _ (R.add hp) (.add R hp) v (.val hv) (fun _ _ z => nomatch z)
  | fresh d =>
    intro p o hp hv
    exact h _ _ (R.new hp) (.new R hp) _ (.fresh (R.notS hp) (R.h0 hp) (R.notOwn hp) hv) (fun _ a _ z => by cases z; exact hp)
theorem Nw.old {H1 : Hp} (m : ∀ a, H a ≠ none → H1 a ≠ none) (n : Nw H1 v r) : Nw H v r := fun d a h1 h2 => by
  have := n d a h1 h2
  cases q : H a with
  | none => rfl
  | some o => exact absurd this (m a (by rw [q]; simp))
end
/-- an operator by data -/
def rD2 (K : PySem.W.Frag) (w : World) (f : D → D → Option R) : R2 := fun x y H Q => ∃ S d1 d2 r, (∀ a, S a → H a ≠ none) ∧ Rw K w S H x d1 ∧ Rw K w S H y d2 ∧ f d1 d2 = some r ∧ RK K w S H r Q
def rD1 (K : PySem.W.Frag) (w : World) (f : D → Option R) : V → Hp → VK → Prop := fun x H Q => ∃ S d1 r, (∀ a, S a → H a ≠ none) ∧ Rw K w S H x d1 ∧ f d1 = some r ∧ RK K w S H r Q
def NoSl2 (f : D → D → Option R) : Prop := ∀ x y r, f x y = some r → ∀ i, r ≠ .slot i
def NoSl1 (f : D → Option R) : Prop := ∀ x r, f x = some r → ∀ i, r ≠ .slot i
section
variable {X : Cx} {A : Am} {C : Ecls} {W : WX} {a b : Expr} {xa xb xc : M R} {pos : Pos}
theorem bin_imp {f : D → D → Option R} (hf : NoSl2 f) : ∀ σ H Q, tE A C W (bin2 xa xb f) σ H Q → tOp (rD2 A.K A.w f) (tE A C W xa) (tE A C W xb) σ H Q := by
  rintro σ H Q ⟨S, e, R, h⟩
  refine ⟨S, e, R, h.bnd.imp fun ra e1 S1 H1 R1 M1 ⟨_, h1⟩ v1 q1 _ => ⟨S1, e1, R1, h1.bnd.imp fun rb e2 S2 H2 R2 M2 ⟨_, h2⟩ v2 q2 _ => ?_⟩⟩
  obtain ⟨da, hda, h3⟩ := rdM_of h2
  obtain ⟨db, hdb, h4⟩ := rdM_of h3
  obtain ⟨r, hr, h5⟩ := opt_of h4
  exact ⟨S2, da, db, r, R2.sn, (q1.mono R1 M2).rw R2 hda, q2.rw R2 hdb, hr, rk_of R2 (fun S' H' R' M' v q n => h5 S' H' R' M' v q (n.old fun a h => M2.st a (M1.st a h))) (hf _ _ _ hr)⟩
theorem pe_bin2 {op : Operator} {f : D → D → Option R} (hf : NoSl2 f) (ho : OpR X (binaryOp op) (rD2 A.K A.w f)) (ha : PE X a (tE A C W xa)) (hb : PE X b (tE A C W xb)) : PE X (.BinOp a op b pos) (tE A C W (bin2 xa xb f)) :=
  PE.imp (pe_op ho ha hb) (bin_imp hf)
theorem pe_cmp2 {op : CmpOp} {f : D → D → Option R} (hf : NoSl2 f) (ho : OpR X (compareOp op) (rD2 A.K A.w f)) (ha : PE X a (tE A C W xa)) (hb : PE X b (tE A C W xb)) (hm : behindInMarks op b = false) : PE X (.Compare a [op] [b] pos) (tE A C W (bin2 xa xb f)) :=
  PE.imp (pe_cmpR ho ha hb hm) (bin_imp hf)
theorem pe_ix2 {f : D → D → Option R} (hf : NoSl2 f) (ho : IxR X (rD2 A.K A.w f)) (ha : PE X a (tE A C W xa)) (hb : PE X b (tE A C W xb)) (hs : PlainIx b) : PE X (.Subscript a b pos) (tE A C W (bin2 xa xb f)) :=
  PE.imp (pe_ix ho ha hb hs) (bin_imp hf)
theorem un_imp {f : D → Option R} (hf : NoSl1 f) : ∀ σ H Q, tE A C W (un1 xa f) σ H Q → tUn (rD1 A.K A.w f) (tE A C W xa) σ H Q := by
  rintro σ H Q ⟨S, e, R, h⟩
  refine ⟨S, e, R, h.bnd.imp fun ra e1 S1 H1 R1 M1 ⟨_, h1⟩ v1 q1 _ => ?_⟩
  obtain ⟨da, hda, h3⟩ := rdM_of h1
  obtain ⟨r, hr, h5⟩ := opt_of h3
  exact ⟨S1, da, r, R1.sn, q1.rw R1 hda, hr, rk_of R1 (fun S' H' R' M' v q n => h5 S' H' R' M' v q (n.old fun a h => M1.st a h)) (hf _ _ hr)⟩
theorem pe_un1 {op : UnaryOp} {f : D → Option R} (hf : NoSl1 f) (ho : UnR X (unaryOp op) (rD1 A.K A.w f)) (ha : PE X a (tE A C W xa)) : PE X (.UnaryOp op a pos) (tE A C W (un1 xa f)) :=
  PE.imp (pe_un ho ha) (un_imp hf)
/-- a comparison with one operand that counts (is None) -/
theorem pe_varE {i : Nat} {x : Str} (hN : X.N[i]? = some x) (hv : Vis X.env.scope x) (hd : (x == ("__debug__" : Str)) = false) (hcd : (x == ("__classdict__" : Str)) = false) :
    PE X (.Name x pos) (tE A C W (varM i)) := by
  refine PE.imp (pe_var hN hv hd hcd) ?_
  rintro σ H Q ⟨S, e, R, h⟩
  unfold varM at h
  cases q : e.getD i .no with
  | no => simp only [q] at h; exact h.elim
  | im d =>
    simp only [q] at h
    obtain ⟨v, h1, _⟩ := R.im i d q
    exact ⟨v, h1, h S H R .refl v (.slot h1) (fun _ _ z => nomatch z)⟩
  | ow d =>
    simp only [q] at h
    obtain ⟨v, h1, _⟩ := R.ow i d q
    exact ⟨_, h1, h S H R .refl _ (.slot h1) (fun _ _ z => nomatch z)⟩
  | io d =>
    simp only [q] at h
    obtain ⟨v, h1, _⟩ := R.io i d q
    exact ⟨_, h1, h S H R .refl _ (.slot h1) (fun _ _ z => nomatch z)⟩
theorem pe_cstE {e : Expr} {v : V} {d : D} (h : PE X e (tC v)) (r : ∀ S H, Rv A.K A.w S H v d) : PE X e (tE A C W (ret (.val d))) := by
  refine PE.imp h ?_
  rintro σ H Q ⟨S, e, R, h⟩
  exact h S H R .refl v (.val (r S H)) (fun _ _ z => nomatch z)
/-- a value that came is held for ever -/
theorem fz_of {S S1 : Addr → Prop} {H H1 : Hp} {e e1 : VEnv} {σ : L2.St} {r : R} {v : V} {P : D → VEnv → (Addr → Prop) → Hp → Prop} (R : Rl A S e σ H) (R1 : Rl A S1 e1 σ H1) (M1 : Mn e σ S H e1 S1 H1) (q : Rr A S1 e1 σ H1 v r) (n : Nw H v r)
    (h : Res A C W σ S H e (bnd (fun _ => .ok r e1) fz e) P) : ∃ d e' S', Rl A S' e' σ H1 ∧ Mn e σ S H e' S' H1 ∧ Rv A.K A.w S' H1 v d ∧ P d e' S' H1 := by
  have h : Res A C W σ S H e (fz r e1) P := h
  cases q with
  | @val _ d h1 => exact ⟨d, e1, S1, R1, M1, h1, h S1 H1 R1 M1⟩
  | @fresh a d h1 h2 h3 h4 =>
    have R' := R1.hold (ro_ne h4) h3 h2
    have M' : Mn e σ S H e1 (addS S1 a) H1 := ⟨M1.keep, fun b hb => .inl (M1.up b hb), fun b hb q => q.elim (M1.dn b hb) fun q => absurd (by rw [q]; exact n d a rfl rfl) hb, M1.own, M1.st, M1.ln⟩
    have hr : Rv A.K A.w (addS S1 a) H1 (.ref a) d := by
      cases h4 with
      | lst q1 q2 q3 => exact .lst (.inl ⟨.inr rfl, .inl q1⟩) (.inl (.inl q1)) q2 (q3.mono kp_hold)
      | dic q1 q2 q3 q4 q5 q6 q7 => exact .dic (.inr rfl) q1 q2 q3 q4 q5 (q6.mono kp_hold) q7
    exact ⟨d, e1, _, R', M', hr, h _ _ R' M'⟩
  | @slot _ i h1 =>
    unfold fz at h
    cases q : e1.getD i .no with
    | no => simp only [q] at h; exact h.elim
    | im d =>
      simp only [q] at h
      obtain ⟨v', e1', hr⟩ := R1.im i d q
      rw [h1] at e1'; cases e1'
      exact ⟨d, e1, S1, R1, M1, hr, h S1 H1 R1 M1⟩
    | io d => simp only [q] at h; exact h.elim
    | ow d =>
      simp only [q] at h
      obtain ⟨a, e1', n1, n2, hr⟩ := R1.ow i d q
      rw [h1] at e1'; cases e1'
      have hrv : Rv A.K A.w (addS S1 a) H1 (.ref a) d := by
        cases hr with
        | lst q1 q2 q3 => exact .lst (.inl ⟨.inr rfl, .inl q1⟩) (.inl (.inl q1)) q2 (q3.mono kp_hold)
        | dic q1 q2 q3 q4 q5 q6 q7 => exact .dic (.inr rfl) q1 q2 q3 q4 q5 (q6.mono kp_hold) q7
      have hlen : i < e1.length := by
        by_cases hl : i < e1.length
        · exact hl
        · simp [List.getD, List.getElem?_eq_none (Nat.le_of_not_lt hl)] at q
      have g : ∀ j, (e1.set i (.im d)).getD j .no = if j = i then .im d else e1.getD j .no := fun j => by
        by_cases hj : j = i
        · subst hj; simp [List.getD, hlen]
        · simp [List.getD, List.getElem?_set_ne (Ne.symm hj), hj]
      have R' : Rl A (addS S1 a) (e1.set i (.im d)) σ H1 := by
        refine ⟨by rw [List.length_set]; exact R1.len, fun j d' hj => ?_, fun j d' hj => ?_, fun j d' hj => ?_, fun j k b hj hk hb hc => ?_, R1.fr, fun b hb => .inl (R1.s0 b hb), fun b hb hn => ?_, fun b hb => ?_, fun j b hb => ?_, R1.io0⟩
        · rw [g] at hj
          by_cases hji : j = i
          · rw [if_pos hji] at hj; cases hj
            exact ⟨_, hji ▸ h1, hrv⟩
          · rw [if_neg hji] at hj
            obtain ⟨v', z1, z2⟩ := R1.im j d' hj
            exact ⟨v', z1, z2.mono kp_hold⟩
        · rw [g] at hj
          by_cases hji : j = i
          · rw [if_pos hji] at hj; cases hj
          · rw [if_neg hji] at hj
            obtain ⟨b, z1, z2, z3, z4⟩ := R1.ow j d' hj
            refine ⟨b, z1, fun z => z.elim z2 fun z => hji ?_, z3, z4.mono kp_hold rfl⟩
            subst z
            exact R1.dis j i _ ⟨_, .inl hj⟩ ⟨_, .inl q⟩ z1 h1
        · rw [g] at hj
          by_cases hji : j = i
          · rw [if_pos hji] at hj; cases hj
          · rw [if_neg hji] at hj
            obtain ⟨b, z1, z2, z3, z4⟩ := R1.io j d' hj
            refine ⟨b, z1, fun z => z.elim z2 fun z => hji ?_, z3, z4.mono kp_hold rfl⟩
            subst z
            exact R1.dis j i _ ⟨_, .inr hj⟩ ⟨_, .inl q⟩ z1 h1
        · have low : ∀ j, Own (e1.set i (.im d)) j → Own e1 j := fun j ⟨d', hj⟩ => by
            rw [g] at hj
            by_cases hji : j = i
            · rw [if_pos hji] at hj; rcases hj with hj | hj <;> cases hj
            · rw [if_neg hji] at hj; exact ⟨d', hj⟩
          exact R1.dis j k b (low j hj) (low k hk) hb hc
        · rcases hb with hb | hb
          · exact R1.s1 b hb hn
          · rw [hb] at hn; exact absurd n2 hn
        · rcases hb with hb | hb
          · exact R1.sn b hb
          · rw [hb]; exact ro_ne hr
        · obtain ⟨z1, z2⟩ := R1.ion j b hb
          refine ⟨z1, fun z => z.elim z2 fun z => ?_⟩
          subst z
          exact R1.io0 j _ hb n2
      have M' : Mn e σ S H (e1.set i (.im d)) (addS S1 a) H1 := by
        refine ⟨M1.keep, fun b hb => .inl (M1.up b hb), fun b hb z => ?_, fun j ⟨d', hj⟩ => ?_, M1.st, by rw [List.length_set]; exact M1.ln⟩
        · rcases z with z | z
          · exact M1.dn b hb z
          · subst z
            exact .inr ⟨i, M1.own i ⟨d, .inl q⟩, h1⟩
        · rw [g] at hj
          by_cases hji : j = i
          · rw [if_pos hji] at hj; rcases hj with hj | hj <;> cases hj
          · rw [if_neg hji] at hj; exact M1.own j ⟨d', hj⟩
      exact ⟨d, _, _, R', M', hrv, h _ _ R' M'⟩
/-- an expression held for ever -/
theorem pe_fz (ha : PE X a (tE A C W xa)) : PE X a (tV A C W (fzM xa)) := by
  refine PE.imp ha ?_
  rintro σ H Q ⟨S, e, R, h⟩
  refine ⟨S, e, R, ?_⟩
  unfold fzM bnd at h
  cases q : xa e with
  | bad => rw [q] at h; exact h
  | exc c e1 => rw [q] at h; exact h
  | ok r e1 =>
    rw [q] at h
    intro S1 H1 R1 M1 v q1 n1
    obtain ⟨d, e', S', R', M', hv, k⟩ := fz_of R R1 M1 q1 n1 h
    exact k v hv
theorem pa_nilV : PA X [] (tVs A C W (ret [])) := by
  refine PA.imp pa_nil ?_
  rintro σ H Q ⟨S, e, R, h⟩
  exact h S H R .refl [] .nil
theorem pa_consV {es : List Expr} {xv : M D} {xs : M (List D)} (ha : PE X a (tV A C W xv)) (hr : PA X es (tVs A C W xs)) (hs : starEach (a :: es) X.env = (false, eval a X.env) :: starEach es X.env) : PA X (a :: es) (tVs A C W (consV xv xs)) := by
  refine PA.imp (pa_cons ha hr hs) ?_
  rintro σ H Q ⟨S, e, R, h⟩
  refine ⟨S, e, R, h.bnd.imp fun d e1 S1 H1 R1 M1 ⟨_, h1⟩ v q1 => ⟨S1, e1, R1, h1.bnd.imp fun ds e2 S2 H2 R2 M2 ⟨_, h2⟩ vs q2 => ?_⟩⟩
  exact h2 S2 H2 R2 .refl _ (.cons (q1.mono (M2.kp R1)) q2)
/-- a tuple display -/
def tTupX (t : TA) : TE := fun σ H Q => t σ H fun vs H1 => vs.length ≤ sizeLine ∧ ∀ p o, H1 p = none → o.dict = none → Q (.ref p) (upd H1 p (.frz o (.tup vs)))
theorem laid_tup {pins : List (Addr × Obj)} {σ : L2.St} {H : Hp} {s : Shared} {tk : Nat} {xs : List V} {its : List Value} (I : Inv X pins σ H s) (r : Vals xs its) (hz : xs.length ≤ sizeLine) :
    Inv X pins σ (upd H s.heap.objs.size (.frz { cls := .type "tuple", data := .seq its.toArray } (.tup xs))) { s with heap := s.heap.push { cls := .type "tuple", data := .seq its.toArray }, toks := tk } :=
  I.laid (t' := tk) (fun b u e => Heap.get?_push_of_some _ e) (Nat.le_refl _) ⟨Heap.get?_push_size _ rfl, hz, its, r, ⟨_, Heap.get?_push_size _ rfl, rfl, _, rfl⟩⟩
theorem pe_tupX {es : List Expr} {k : Nat} {t : TA} (h : PA X es t) : PE X (.Tuple es k pos) (tTupX t) := by
  refine ⟨fun pins s σ H Q I hq => ?_⟩
  refine wpAny_Tuple_spliced (thn (h.run pos pins s σ H _ I hq) fun us s1 ⟨vs, H1, I1, r1, z, q⟩ => ⟨by rw [← r1.length]; exact z, ?_⟩)
  exact ⟨.ref s1.heap.objs.size, _, laid_tup (tk := s1.toks) I1 r1 z, rfl, q _ _ (I1.hok.fresh (Nat.le_refl _)) rfl⟩
theorem pe_tupE {es : List Expr} {xs : M (List D)} {k : Nat} (h : PA X es (tVs A C W xs)) : PE X (.Tuple es k pos) (tE A C W (tupM xs)) := by
  refine PE.imp (pe_tupX h) ?_
  rintro σ H Q ⟨S, e, R, h⟩
  refine ⟨S, e, R, h.bnd.imp fun ds e1 S1 H1 R1 M1 ⟨_, h1⟩ vs q1 => ?_⟩
  by_cases hl : ds.length ≤ sz
  · rw [if_pos hl] at h1
    have hz : vs.length ≤ sizeLine := by rw [q1.length]; exact hl
    refine ⟨hz, fun p o hp ho => ?_⟩
    exact h1 _ _ (R1.add hp) (.add R1 hp) _ (.val (.tup (.inr rfl) ⟨o, ho, upd_same⟩ hz (q1.mono (kp_add hp R1.sn)))) (fun _ _ z => nomatch z)
  · rw [if_neg hl] at h1; exact h1.elim
theorem pe_lstE {es : List Expr} {xs : M (List D)} (h : PA X es (tVs A C W xs)) : PE X (.List es pos) (tE A C W (lstM xs)) := by
  refine PE.imp (pe_lst h) ?_
  rintro σ H Q ⟨S, e, R, h⟩
  refine ⟨S, e, R, h.bnd.imp fun ds e1 S1 H1 R1 M1 ⟨_, h1⟩ vs q1 => ?_⟩
  by_cases hl : ds.length ≤ sz
  · rw [if_pos hl] at h1
    have hz : vs.length ≤ sizeLine := by rw [q1.length]; exact hl
    refine ⟨hz, fun p hp => ?_⟩
    exact h1 _ _ (R1.new hp) (.new R1 hp) _ (.fresh (R1.notS hp) (R1.h0 hp) (R1.notOwn hp) (.lst upd_same hz (q1.mono (kp_new hp R1.sn)))) (fun _ a _ z => by
      cases z
      cases q : H p with
      | none => rfl
      | some o => exact absurd hp (M1.st p (by rw [q]; simp)))
  · rw [if_neg hl] at h1; exact h1.elim
/-- truth by data -/
theorem tru_of {K : PySem.W.Frag} {w : World} {S : Addr → Prop} {H : Hp} {v : V} {d : D} {k : Bool} (h : Rw K w S H v d) (ht : truth? d = some k) : TruV K v H k := by
  cases h with
  | rv h =>
    cases h with
    | non => cases ht; rfl
    | bl b => cases ht; rfl
    | int i => cases ht; rfl
    | str x =>
      have ht : (if x.length ≤ sz then some ((x.length : Int) != 0) else none) = some k := ht
      split at ht
      · rename_i hx; cases ht; exact ⟨hx, rfl⟩
      · cases ht
    | lst h1 h2 h3 h4 =>
      cases ht
      refine .inl ⟨_, h2.sq, ?_⟩
      cases h4 <;> rfl
    | tup h1 h2 h3 h4 =>
      cases ht
      refine .inr (.inl ⟨_, .inl h2.rd, ?_⟩)
      cases h4 <;> rfl
    | dic => cases ht
  | ro h =>
    cases h with
    | lst h1 h2 h3 =>
      cases ht
      refine .inl ⟨_, .inl (.inl h1), ?_⟩
      cases h3 <;> rfl
    | dic => cases ht
theorem pe_notE (hK : X.K = A.K) (ha : PE X a (tE A C W xa)) : PE X (.UnaryOp .Not a pos) (tE A C W (notM xa)) := by
  refine PE.imp (pe_notT ha) ?_
  rintro σ H Q ⟨S, e, R, h⟩
  refine ⟨S, e, R, h.bnd.imp fun ra e1 S1 H1 R1 M1 ⟨_, h1⟩ v1 q1 n1 => ?_⟩
  obtain ⟨d, k, hd, hk, h2⟩ := truthM_of h1
  rw [hK]
  exact ⟨k, tru_of (q1.rw R1 hd) hk, h2 S1 H1 R1 .refl _ (.val (.bl _)) (fun _ _ z => nomatch z)⟩
theorem pe_andE (hK : X.K = A.K) {rest : List Expr} (ha : PE X a (tE A C W xa)) (hb : PE X (.BoolOp .And (b :: rest) pos) (tE A C W xb)) : PE X (.BoolOp .And (a :: b :: rest) pos) (tE A C W (andM xa xb)) := by
  refine PE.imp (pe_andT ha hb) ?_
  rintro σ H Q ⟨S, e, R, h⟩
  refine ⟨S, e, R, h.bnd.imp fun ra e1 S1 H1 R1 M1 ⟨_, h1⟩ v1 q1 n1 => ?_⟩
  obtain ⟨d, k, hd, hk, h2⟩ := truthM_of h1
  rw [hK]
  refine ⟨k, tru_of (q1.rw R1 hd) hk, ?_⟩
  cases k with
  | true =>
    rw [if_pos rfl] at h2 ⊢
    exact ⟨S1, e1, R1, h2.imp fun r e2 S2 H2 R2 M2 z v q n => z v q (n.old fun a h => M1.st a h)⟩
  | false =>
    rw [if_neg Bool.false_ne_true] at h2 ⊢
    exact h2 S1 H1 R1 .refl _ q1 n1
theorem pe_orE (hK : X.K = A.K) {rest : List Expr} (ha : PE X a (tE A C W xa)) (hb : PE X (.BoolOp .Or (b :: rest) pos) (tE A C W xb)) : PE X (.BoolOp .Or (a :: b :: rest) pos) (tE A C W (orM xa xb)) := by
  refine PE.imp (pe_orT ha hb) ?_
  rintro σ H Q ⟨S, e, R, h⟩
  refine ⟨S, e, R, h.bnd.imp fun ra e1 S1 H1 R1 M1 ⟨_, h1⟩ v1 q1 n1 => ?_⟩
  obtain ⟨d, k, hd, hk, h2⟩ := truthM_of h1
  rw [hK]
  refine ⟨k, tru_of (q1.rw R1 hd) hk, ?_⟩
  cases k with
  | false =>
    rw [if_neg Bool.false_ne_true] at h2 ⊢
    exact ⟨S1, e1, R1, h2.imp fun r e2 S2 H2 R2 M2 z v q n => z v q (n.old fun a h => M1.st a h)⟩
  | true =>
    rw [if_pos rfl] at h2 ⊢
    exact h2 S1 H1 R1 .refl _ q1 n1
/-- tests -/
theorem pt_ofE (hK : X.K = A.K) (ha : PE X a (tE A C W xa)) (he : ∀ whole, isTrue a X.env whole = (do let v ← whole; standAt a.pos; holding [v] (truthy v))) : PT X a (tT A C W (bnd xa truthM)) := by
  refine PT.imp (pt_truth ha he) ?_
  rintro σ H Q ⟨S, e, R, h⟩
  refine ⟨S, e, R, h.bnd.imp fun ra e1 S1 H1 R1 M1 ⟨_, h1⟩ v1 q1 n1 => ?_⟩
  have h1 : Res A C W σ S1 H1 e1 (bnd (truthM ra) ret e1) fun b e' S' H' => Q b H' := by
    have z : bnd (truthM ra) ret e1 = truthM ra e1 := by unfold bnd; cases truthM ra e1 <;> rfl
    rw [z]; exact h1
  obtain ⟨d, k, hd, hk, h2⟩ := truthM_of h1
  rw [hK]
  exact ⟨k, tru_of (q1.rw R1 hd) hk, h2 S1 H1 R1 .refl⟩
theorem pe_iteE {c : Expr} {xq : M R} (hc : PT X c (tT A C W (bnd xq truthM))) (ha : PE X a (tE A C W xa)) (hb : PE X b (tE A C W xb)) : PE X (.IfExp c a b pos) (tE A C W (iteM xq xa xb)) := by
  refine PE.imp (pe_ifExp hc ha hb) ?_
  rintro σ H Q ⟨S, e, R, h⟩
  have z : iteM xq xa xb e = bnd (bnd xq truthM) (fun k => if k then xa else xb) e := by
    unfold iteM bnd
    cases xq e <;> rfl
  rw [z] at h
  refine ⟨S, e, R, h.bnd.imp fun k e1 S1 H1 R1 M1 ⟨_, h1⟩ => ?_⟩
  cases k with
  | true =>
    rw [if_pos rfl] at h1 ⊢
    exact ⟨S1, e1, R1, h1.imp fun r e2 S2 H2 R2 M2 z v q n => z v q (n.old fun a h => M1.st a h)⟩
  | false =>
    rw [if_neg Bool.false_ne_true] at h1 ⊢
    exact ⟨S1, e1, R1, h1.imp fun r e2 S2 H2 R2 M2 z v q n => z v q (n.old fun a h => M1.st a h)⟩
end
end Ev
/-! text EvD -/
set_option Elab.async false
set_option linter.all false
set_option maxRecDepth 100000
/-! Ev: operators by data. -/
namespace Ev
open PySem PySem.Spec PyProof.Rows L2
open AutoSeq1 (wpAny_loadPart')
theorem tmul_same (l : Addr) (its : Array Value) (n : Nat) (dd : Option Addr) (sl : Array (Option Value)) (x : Int) (u : Tok)
    (c0 : (decide (x < -(2 ^ 63)) || decide (x ≥ 2 ^ 63)) = false) (c1 : (its.isEmpty || x == 1) = true) :
    Meets (Builtin.«tuple.__mul__» ⟨[.ref l, .int x u], []⟩) (fun _ R s => s.heap.get? l = some { cls := .type "tuple", dict := dd, data := .seq its n, slots := sl } ∧ R (.ok (.ret (Value.ref l))) s) :=
  .of_wp fun prog w A R s hh => by
    obtain ⟨hp, g, d, tk, os⟩ := s
    obtain ⟨hl, hq⟩ := hh
    have f1 := AutoSeq1.idx_int
    wp_walk using wpAny_loadPart' hl
    refine wpAny_ite_false (decide_eq_false (by rw [c0]; exact Bool.false_ne_true)) ?_
    wp_walk using wpAny_loadPart' hl
    exact ⟨_, rfl, hq⟩
theorem tmul_none (l : Addr) (its : Array Value) (n : Nat) (dd : Option Addr) (sl : Array (Option Value)) (x : Int) (u : Tok)
    (c0 : (decide (x < -(2 ^ 63)) || decide (x ≥ 2 ^ 63)) = false) (c1 : (its.isEmpty || x == 1) = false) (c2 : (decide (x ≤ 0) || its.isEmpty) = true) :
    Meets (Builtin.«tuple.__mul__» ⟨[.ref l, .int x u], []⟩) (fun _ R s => s.heap.get? l = some { cls := .type "tuple", dict := dd, data := .seq its n, slots := sl } ∧
      R (.ok (.ret (Value.ref s.heap.objs.size))) { s with heap := s.heap.push { cls := Value.type "tuple", data := Data.seq #[] } }) :=
  .of_wp fun prog w A R s hh => by
    obtain ⟨hp, g, d, tk, os⟩ := s
    obtain ⟨hl, hq⟩ := hh
    have f1 := AutoSeq1.idx_int
    wp_walk using wpAny_loadPart' hl
    refine wpAny_ite_false (decide_eq_false (by rw [c0]; exact Bool.false_ne_true)) ?_
    wp_walk using wpAny_loadPart' hl
    exact ⟨_, rfl, hq⟩
section
variable {K : PySem.W.Frag} {w : World} {S : Addr → Prop} {H : Hp} {v : V}
theorem rw_int {i : Int} (h : Rw K w S H v (.int i)) : v = .int i := by
  cases h with
  | rv h => cases h; rfl
  | ro h => cases h
theorem rw_bool {i : Bool} (h : Rw K w S H v (.bool i)) : v = .bl i := by
  cases h with
  | rv h => cases h; rfl
  | ro h => cases h
theorem rw_str {i : Str} (h : Rw K w S H v (.str i)) : v = .str i := by
  cases h with
  | rv h => cases h; rfl
  | ro h => cases h
theorem rw_tup {ds : List D} (h : Rw K w S H v (.tuple ds)) : ∃ a xs, v = .ref a ∧ S a ∧ FT H a xs ∧ xs.length ≤ sizeLine ∧ Rvs K w S H xs ds := by
  cases h with
  | rv h => cases h with | tup h1 h2 h3 h4 => exact ⟨_, _, rfl, h1, h2, h3, h4⟩
  | ro h => cases h
theorem rw_lst {ds : List D} (h : Rw K w S H v (.list ds)) : ∃ a xs, v = .ref a ∧ RdL K H a xs ∧ xs.length ≤ sizeLine ∧ Rvs K w S H xs ds := by
  cases h with
  | rv h => cases h with | lst h1 h2 h3 h4 => exact ⟨_, _, rfl, h2, h3, h4⟩
  | ro h => cases h with | lst h1 h2 h3 => exact ⟨_, _, rfl, .inl (.inl h1), h2, h3⟩
theorem rw_dic {kvs : List (D × D)} (h : Rw K w S H v (.dict kvs)) : ∃ a o es ep, v = .ref a ∧ H a = some (ObjO a o) ∧ (a == sysModules) = false ∧ o.ExactDict ∧ o.data = .dict es ep ∧ es.size ≤ sizeLine ∧ Rde K w S H es.toList kvs ∧ (kvs.map fun p => nk p.1).Nodup := by
  cases h with
  | rv h => cases h with | dic h1 h2 h3 h4 h5 h6 h7 h8 => exact ⟨_, _, _, _, rfl, h2, h3, h4, h5, h6, h7, h8⟩
  | ro h => cases h with | dic h2 h3 h4 h5 h6 h7 h8 => exact ⟨_, _, _, _, rfl, h2, h3, h4, h5, h6, h7, h8⟩
end
section
variable {X : Cx} {pins : List (Addr × Obj)} {σ : L2.St} {H : Hp} {s : Shared} {Q : VK}
/-- the machine's list under a tracked or locked one -/
theorem lst_at (I : Inv X pins σ H s) {a : Addr} {xs : List V} (h : RdL X.K H a xs) : ∃ (its : List Value) (n : Nat), Vals xs its ∧ s.heap.get? a = some { cls := .type "list", data := .seq its.toArray n } := by
  rcases h with h | ⟨its, n, h1, h2, h3⟩
  case inr => exact ⟨its, n, h3, I.kIn _ _ h1⟩
  have q := h.ok I.hok
  obtain ⟨_, its, n, r, e⟩ := q
  exact ⟨its, n, r, e⟩
/-- behind a list that was laid anew -/
theorem new_lst (I : Inv X pins σ H s) {xs : List V} {its : List Value} {tk : Nat} (r : Vals xs its) (hz : xs.length ≤ sizeLine) (q : ∀ p, H p = none → Q (.ref p) (upd H p (.lst xs))) :
    EP X pins σ Q (.ref s.heap.objs.size) { s with heap := s.heap.push { cls := .type "list", data := .seq its.toArray }, toks := tk } := by
  have fr : H s.heap.objs.size = none := I.hok.fresh (Nat.le_refl _)
  refine ⟨.ref s.heap.objs.size, _, I.laid (o := .lst xs) (fun b u e => Heap.get?_push_of_some _ e) (Nat.le_refl _) ⟨hz, its, 0, r, Heap.get?_push_size _ rfl⟩, rfl, q _ fr⟩
theorem new_tup (I : Inv X pins σ H s) {xs : List V} {its : List Value} {tk : Nat} (r : Vals xs its) (hz : xs.length ≤ sizeLine) (q : ∀ p o, H p = none → o.dict = none → Q (.ref p) (upd H p (.frz o (.tup xs)))) :
    EP X pins σ Q (.ref s.heap.objs.size) { s with heap := s.heap.push { cls := .type "tuple", data := .seq its.toArray }, toks := tk } := by
  have fr : H s.heap.objs.size = none := I.hok.fresh (Nat.le_refl _)
  exact ⟨.ref s.heap.objs.size, _, laid_tup (tk := tk) I r hz, rfl, q _ _ fr rfl⟩
end
section
variable {K : PySem.W.Frag} {w : World} {S : Addr → Prop} {H : Hp} {Q : VK}
theorem rk_val0 {d : D} {v : V} (k : RK K w S H (.val d) Q) (h : Rv K w S H v d) : Q v H := k v S H (.inl ⟨rfl, rfl⟩) h
theorem rk_tup {ds : List D} {xs : List V} (sn : ∀ a, S a → H a ≠ none) (k : RK K w S H (.val (.tuple ds)) Q) (hz : xs.length ≤ sizeLine) (h : Rvs K w S H xs ds) : ∀ p o, H p = none → o.dict = none → Q (.ref p) (upd H p (.frz o (.tup xs))) := fun p o hp ho =>
  k _ _ _ (.inr ⟨p, _, hp, rfl, rfl⟩) (.tup (.inr rfl) ⟨o, ho, upd_same⟩ hz (h.mono (kp_add hp sn)))
theorem rk_lst {ds : List D} {xs : List V} (sn : ∀ a, S a → H a ≠ none) (k : RK K w S H (.fresh (.list ds)) Q) (hz : xs.length ≤ sizeLine) (h : Rvs K w S H xs ds) : ∀ p, H p = none → Q (.ref p) (upd H p (.lst xs)) := fun p hp =>
  k p _ hp (.lst upd_same hz (h.mono (kp_new hp sn)))
end
section
variable {X : Cx}
theorem sz_eq : sz = sizeLine := by decide
theorem op_addE : OpR X (binaryOp .Add) (rD2 X.K X.w addD) := by
  intro pins s σ H x y v u Q I rx ry h
  obtain ⟨S, d1, d2, r, sn, h1, h2, hf, k⟩ := h
  unfold addD at hf
  split at hf
  · cases hf
    cases rw_int h1
    cases rw_int h2
    exact op_add pins s σ H _ _ v u Q I rx ry ⟨_, _, rfl, rfl, rk_val0 k (.int _)⟩
  · rename_i xs ys
    split at hf
    · rename_i hl
      cases hf
      obtain ⟨a, vs, rfl, sa, ra, za, qa⟩ := rw_tup h1
      obtain ⟨b, us, rfl, sb, rb, zb, qb⟩ := rw_tup h2
      rw [sz_eq] at hl
      have hz : vs.length + us.length ≤ sizeLine := by rw [qa.length, qb.length]; exact hl
      cases rx
      cases ry
      obtain ⟨its, r1, p1, _⟩ := I.tuple (.inl ra.rd)
      obtain ⟨its2, r2, p2, _⟩ := I.tuple (.inl rb.rd)
      by_cases e1 : vs = []
      · subst e1
        cases qa
        cases r1
        exact cat_tup0 p1 p2 ⟨.ref b, H, I, rfl, rk_val0 k (.tup sb rb zb qb)⟩
      · refine HT.cat_tup p1 p2 (fun z => e1 (r1.nil_iff.mp z)) (fun z => ⟨.ref a, H, I, rfl, ?_⟩) (fun z => ?_) (by rw [← r1.length, ← r2.length]; exact hz)
        · have e2 : us = [] := r2.nil_iff.mp z
          subst e2
          cases qb
          rw [List.append_nil] at k
          exact rk_val0 k (.tup sa ra za qa)
        · exact new_tup (Q := Q) (tk := s.toks) I (r1.append r2) (by rw [List.length_append]; exact hz) (rk_tup sn k (by rw [List.length_append]; exact hz) (qa.append qb))
    · cases hf
  · rename_i xs ys
    split at hf
    · rename_i hl
      cases hf
      obtain ⟨a, vs, rfl, ra, za, qa⟩ := rw_lst h1
      obtain ⟨b, us, rfl, rb, zb, qb⟩ := rw_lst h2
      rw [sz_eq] at hl
      have hz : vs.length + us.length ≤ sizeLine := by rw [qa.length, qb.length]; exact hl
      cases rx; cases ry
      obtain ⟨its, n, r1, e1⟩ := lst_at I ra
      obtain ⟨its2, n2, r2, e2⟩ := lst_at I rb
      have l1 := r1.length
      have l2 := r2.length
      have := new_lst (Q := Q) (tk := s.toks) I (r1.append r2) (by rw [List.length_append]; exact hz) (rk_lst sn k (by rw [List.length_append]; exact hz) (qa.append qb))
      refine PySem.P.add_list e1 e2 ?_ (by simp; omega)
      simpa using this
    · cases hf
  · cases hf
theorem op_subE : OpR X (binaryOp .Sub) (rD2 X.K X.w subD) := by
  intro pins s σ H x y v u Q I rx ry h
  obtain ⟨S, d1, d2, r, sn, h1, h2, hf, k⟩ := h
  unfold subD at hf
  split at hf
  · cases hf
    cases rw_int h1
    cases rw_int h2
    exact op_sub pins s σ H _ _ v u Q I rx ry ⟨_, _, rfl, rfl, rk_val0 k (.int _)⟩
  · cases hf
theorem inW_of {i : Int} (h : inW i = true) : -(2 ^ 64) < i ∧ i < 2 ^ 64 := by
  unfold inW at h
  simpa using h
theorem rep_one {α : Type} (xs : List α) : (List.replicate (1 : Int).toNat xs).flatten = xs := by simp
theorem flat_nil {α : Type} : ∀ k : Nat, (List.replicate k ([] : List α)).flatten = []
  | 0 => rfl
  | k + 1 => by simp [List.replicate_succ, flat_nil k]
theorem foldl_reps (its : List Value) : ∀ (m : Nat) (acc : Array Value), List.foldl (fun x y => x ++ y) acc (List.replicate m its.toArray) = acc ++ (List.replicate m its).flatten.toArray
  | 0, acc => by simp
  | m + 1, acc => by simp [List.replicate_succ, foldl_reps its m]
theorem repOk_of {n : Nat} {k : Int} (h : repOk n k = true) : n * k.toNat ≤ sizeLine ∧ -(2 ^ 62) < k ∧ k < 2 ^ 62 := by
  unfold repOk at h
  rw [Bool.and_eq_true, Bool.and_eq_true, decide_eq_true_eq, decide_eq_true_eq, decide_eq_true_eq, sz_eq] at h
  exact ⟨h.1.1, h.1.2, h.2⟩
theorem len_rep {α : Type} (xs : List α) (k : Nat) : (List.replicate k xs).flatten.length = xs.length * k := by
  induction k with
  | zero => simp
  | succ k ih => simp only [List.replicate_succ, List.flatten_cons, List.length_append, ih, Nat.mul_succ]; omega
theorem cap8 {n : Nat} (h : n ≤ sizeLine) : ¬ n > (2 ^ 63 - 1) / 8 := by
  have : (sizeLine : Nat) ≤ (2 ^ 63 - 1) / 8 := by decide
  omega
theorem op_mulE : OpR X (binaryOp .Mult) (rD2 X.K X.w mulD) := by
  intro pins s σ H x y v u Q I rx ry h
  obtain ⟨S, d1, d2, r, sn, h1, h2, hf, k⟩ := h
  unfold mulD at hf
  split at hf
  · split at hf
    · rename_i hw
      cases hf
      cases rw_int h1
      cases rw_int h2
      refine op_mul pins s σ H _ _ v u Q I rx ry ⟨_, _, rfl, rfl, ?_, rk_val0 k (.int _)⟩
      rcases Bool.or_eq_true_iff.mp hw with hw | hw
      · exact .inl (inW_of hw)
      · exact .inr (inW_of hw)
    · cases hf
  · rename_i ds n
    split at hf
    · rename_i hl
      cases hf
      cases rw_int h2
      obtain ⟨a, vs, rfl, ra, za, qa⟩ := rw_lst h1
      obtain ⟨hz, hlo, hhi⟩ := repOk_of hl
      have hz' : (List.replicate n.toNat vs).flatten.length ≤ sizeLine := by rw [len_rep, qa.length]; exact hz
      cases rx
      obtain ⟨tk, rfl⟩ := ry
      obtain ⟨its, c, r1, e1⟩ := lst_at I ra
      have l1 := r1.length
      have zl : its.toArray.size * n.toNat ≤ sizeLine := by rw [List.size_toArray, ← l1, qa.length]; exact hz
      have w1 : (!Builtin.List.listFitsIndex n) = false := by simp [Builtin.List.listFitsIndex]; omega
      have w3 : Builtin.List.listTooLong (its.toArray.size * n.toNat) = false := by simp only [Builtin.List.listTooLong, decide_eq_false_iff_not]; omega
      have fin := new_lst (Q := Q) (tk := s.toks) I (r1.rep n.toNat) hz' (rk_lst sn k hz' (qa.rep n.toNat))
      have same : List.foldl (fun x y => x ++ y) #[] (List.replicate (if its.toArray.isEmpty = true then 0 else n.toNat) its.toArray) = (List.replicate n.toNat its).flatten.toArray := by
        cases its with
        | nil => rw [flat_nil]; rfl
        | cons b bs => rw [if_neg (by simp), foldl_reps]; simp
      refine wpAny_binaryOp_repeat_ref (T := "list") (U := "int") (by decide) ⟨_, e1, rfl⟩ (fun s' => typeIs_int s' n tk) noFill_list_mul F.fills_int_mul F.slot_int_rmul repeat_list F.slot_int_index.lookup (call_meets F.slot_int_rmul (typeIs_int s n tk) F.entry_int_rmul (F.args_int_rmul_2 _ _) (int___rmul___int_list n tk a its.toArray c) ⟨e1, rfl, ⟨_, e1, rfl⟩, call_meets F.slot_list_mul ⟨_, e1, rfl⟩ F.entry_list_mul (F.args_list_mul_2 _ _) (AutoListH.list___mul___list_int_3 a its.toArray c n tk (by rw [w1]; exact Bool.false_ne_true) (cap8 zl) (by rw [w3]; exact Bool.false_ne_true)) ⟨e1, ?_⟩⟩)
      rw [same]
      exact fin
    · cases hf
  · rename_i ds n
    split at hf
    · rename_i hl
      cases hf
      cases rw_int h2
      obtain ⟨a, vs, rfl, sa, ra, za, qa⟩ := rw_tup h1
      obtain ⟨hz, hlo, hhi⟩ := repOk_of hl
      have hz' : (List.replicate n.toNat vs).flatten.length ≤ sizeLine := by rw [len_rep, qa.length]; exact hz
      cases rx
      obtain ⟨tk, rfl⟩ := ry
      obtain ⟨its, r1, ⟨⟨cl, dd, data, sl⟩, ho, hc, c, hd⟩, _⟩ := I.tuple (.inl ra.rd)
      simp only at hc hd
      subst hc hd
      have l1 := r1.length
      have zl : its.toArray.size * n.toNat ≤ sizeLine := by rw [List.size_toArray, ← l1, qa.length]; exact hz
      have c0 : (decide (n < -(2 ^ 63)) || decide (n ≥ 2 ^ 63)) = false := by
        rw [decide_eq_false (by omega), decide_eq_false (by omega), Bool.or_self]
      refine wpAny_binaryOp_repeat_ref (T := "tuple") (U := "int") (by decide) ⟨_, ho, rfl⟩ (fun s' => typeIs_int s' n tk) noFill_tuple_mul F.fills_int_mul F.slot_int_rmul repeat_tuple F.slot_int_index.lookup (call_meets F.slot_int_rmul (typeIs_int s n tk) F.entry_int_rmul (F.args_int_rmul_2 _ _) (int_rmul_tuple n tk a its.toArray c dd sl) ⟨ho, rfl, ⟨_, ho, rfl⟩, ?_⟩)
      by_cases c1 : (its.toArray.isEmpty || n == 1) = true
      · refine call_meets F.slot_tuple_mul ⟨_, ho, rfl⟩ F.entry_tuple_mul (F.args_tuple_mul_2 _ _) (tmul_same a its.toArray c dd sl n tk c0 c1) ⟨ho, ?_⟩
        refine ⟨.ref a, H, I, rfl, rk_val0 k ?_⟩
        rcases Bool.or_eq_true_iff.mp c1 with c1 | c1
        · have e0 : its = [] := by simpa using c1
          subst e0
          have : vs = [] := by cases r1; rfl
          subst this
          cases qa
          rw [flat_nil]
          exact .tup sa ra za .nil
        · have e0 : n = 1 := by simpa using c1
          subst e0
          rw [rep_one]
          exact .tup sa ra za qa
      · have c1' := Bool.eq_false_iff.mpr c1
        by_cases c2 : (decide (n ≤ 0) || its.toArray.isEmpty) = true
        · refine call_meets F.slot_tuple_mul ⟨_, ho, rfl⟩ F.entry_tuple_mul (F.args_tuple_mul_2 _ _) (tmul_none a its.toArray c dd sl n tk c0 c1' c2) ⟨ho, ?_⟩
          have ne : its.toArray.isEmpty = false := (Bool.or_eq_false_iff.mp c1').1
          rw [ne, Bool.or_false, decide_eq_true_eq] at c2
          have n0 : n.toNat = 0 := by omega
          rw [n0] at k
          exact new_tup (Q := Q) (tk := s.toks) (its := []) I .nil (Nat.zero_le _) (rk_tup sn k (Nat.zero_le _) .nil)
        · have c2' := Bool.eq_false_iff.mpr c2
          have n1 : ¬ n ≤ 0 := by
            have := (Bool.or_eq_false_iff.mp c2').1
            simpa using this
          have zi : ((its.toArray.size : Nat) : Int) * n ≤ 16777216 := by
            have e : ((its.toArray.size * n.toNat : Nat) : Int) = ((its.toArray.size : Nat) : Int) * n := by rw [Int.natCast_mul, Int.toNat_of_nonneg (by omega)]
            rw [← e]
            have : sizeLine = 16777216 := by decide
            omega
          refine call_meets F.slot_tuple_mul ⟨_, ho, rfl⟩ F.entry_tuple_mul (F.args_tuple_mul_2 _ _) (tuple_mulW a its.toArray c dd sl n tk c0 c1' c2' (by omega) (by unfold Builtin.Tuple.tupleTooMany; rw [sizeLine_eq]; exact decide_eq_false (by omega)) (by rw [foldl_reps, Array.empty_append, List.size_toArray, len_rep]; simpa using zl)) ⟨ho, ?_⟩
          have fin := new_tup (Q := Q) (tk := s.toks) I (r1.rep n.toNat) hz' (rk_tup sn k hz' (qa.rep n.toNat))
          rw [foldl_reps, Array.empty_append]
          exact fin
    · cases hf
  · cases hf
theorem op_fdivE : OpR X (binaryOp .FloorDiv) (rD2 X.K X.w fdivD) := by
  intro pins s σ H x y v u Q I rx ry h
  obtain ⟨S, d1, d2, r, sn, h1, h2, hf, k⟩ := h
  unfold fdivD at hf
  split at hf
  · split at hf
    · rename_i hw
      cases hf
      cases rw_int h1
      cases rw_int h2
      rw [Bool.and_eq_true, decide_eq_true_eq, decide_eq_true_eq] at hw
      exact op_fdiv pins s σ H _ _ v u Q I rx ry ⟨_, _, rfl, rfl, hw, rk_val0 k (.int _)⟩
    · cases hf
  · cases hf
theorem op_modE : OpR X (binaryOp .Mod) (rD2 X.K X.w modD) := by
  intro pins s σ H x y v u Q I rx ry h
  obtain ⟨S, d1, d2, r, sn, h1, h2, hf, k⟩ := h
  unfold modD at hf
  split at hf
  · split at hf
    · rename_i hw
      cases hf
      cases rw_int h1
      cases rw_int h2
      exact op_mod pins s σ H _ _ v u Q I rx ry ⟨_, _, rfl, rfl, hw, rk_val0 k (.int _)⟩
    · cases hf
  · cases hf
theorem pow_ok {i j : Int} (h : (decide (0 ≤ j) && decide (j ≤ 1000) && inW i) = true) : CPow i j := by
  rw [Bool.and_eq_true, Bool.and_eq_true, decide_eq_true_eq, decide_eq_true_eq] at h
  obtain ⟨h1, h2⟩ := inW_of h.2
  exact ⟨h.1.1, by omega, by omega⟩
theorem op_powE : OpR X (binaryOp .Pow) (rD2 X.K X.w powD) := by
  intro pins s σ H x y v u Q I rx ry h
  obtain ⟨S, d1, d2, r, sn, h1, h2, hf, k⟩ := h
  unfold powD at hf
  split at hf
  · split at hf
    · rename_i hw
      cases hf
      cases rw_int h1
      cases rw_int h2
      exact op_pow pins s σ H _ _ v u Q I rx ry ⟨_, _, rfl, rfl, pow_ok hw, rk_val0 k (.int _)⟩
    · cases hf
  · cases hf
theorem op_shlE : OpR X (binaryOp .LShift) (rD2 X.K X.w shlD) := by
  intro pins s σ H x y v u Q I rx ry h
  obtain ⟨S, d1, d2, r, sn, h1, h2, hf, k⟩ := h
  unfold shlD at hf
  split at hf
  · split at hf
    · rename_i hw
      cases hf
      cases rw_int h1
      cases rw_int h2
      exact op_shl pins s σ H _ _ v u Q I rx ry ⟨_, _, rfl, rfl, pow_ok hw, rk_val0 k (.int _)⟩
    · cases hf
  · cases hf

/-! ### comparisons -/
theorem shp_of {d : D} (h : shp d = true) : d.plain = true ∧ d.depth ≤ 64 := by
  unfold shp at h
  rw [Bool.and_eq_true, decide_eq_true_eq] at h
  exact h
theorem depth_all {ds : List D} (h : (PyData.tuple ds).depth ≤ 64) : PyData.depthAll ds ≤ 64 := by
  simp only [PyData.depth] at h; omega
theorem depth_allL {ds : List D} (h : (PyData.list ds).depth ≤ 64) : PyData.depthAll ds ≤ 64 := by
  simp only [PyData.depth] at h; omega
theorem bl_of {f : D → D → Option Bool} {d1 d2 : D} {r : R} (h : (f d1 d2).map (fun k => R.val (.bool k)) = some r) : ∃ k, f d1 d2 = some k ∧ r = .val (.bool k) := by
  cases q : f d1 d2 with
  | none => rw [q] at h; cases h
  | some k => rw [q] at h; cases h; exact ⟨k, rfl, rfl⟩
theorem rk_bl {K : PySem.W.Frag} {w : World} {S : Addr → Prop} {H : Hp} {Q : VK} {k : Bool} (h : RK K w S H (.val (.bool k)) Q) : Q (.bl k) H := rk_val0 h (.bl k)
theorem op_eqE (hu : X.A.units + 100 < cLine) : OpR X (compareOp .Eq) (rD2 X.K X.w (cmpD .eq)) := by
  intro pins s σ H x y v u Q I rx ry h
  obtain ⟨S, d1, d2, r, sn, h1, h2, hf, k⟩ := h
  obtain ⟨b, hb, rfl⟩ := bl_of (f := eqB) hf
  clear hf
  have hf : (if shp d1 && shp d2 then some (PyData.eqv d1 d2) else none) = some b := hb
  split at hf
  · rename_i hs
    cases hf
    rw [Bool.and_eq_true] at hs
    obtain ⟨p1, z1⟩ := shp_of hs.1
    obtain ⟨p2, z2⟩ := shp_of hs.2
    obtain ⟨as, r1⟩ := h1.reads I rx
    obtain ⟨bs, r2⟩ := h2.reads I ry
    exact PySem.SeqAt.eq_plain r1 r2 p1 p2 (by omega) ⟨.bl _, H, I, rfl, rk_bl k⟩
  · cases hf
theorem op_neE (hu : X.A.units + 100 < cLine) : OpR X (compareOp .NotEq) (rD2 X.K X.w (cmpD .ne)) := by
  intro pins s σ H x y v u Q I rx ry h
  obtain ⟨S, d1, d2, r, sn, h1, h2, hf, k⟩ := h
  obtain ⟨b, hb, rfl⟩ := bl_of (f := neB) hf
  clear hf
  have hf : (if shp d1 && shp d2 then some (!PyData.eqv d1 d2) else none) = some b := hb
  split at hf
  · rename_i hs
    cases hf
    rw [Bool.and_eq_true] at hs
    obtain ⟨p1, z1⟩ := shp_of hs.1
    obtain ⟨p2, z2⟩ := shp_of hs.2
    obtain ⟨as, r1⟩ := h1.reads I rx
    obtain ⟨bs, r2⟩ := h2.reads I ry
    exact PySem.SeqAt.ne_plain r1 r2 p1 p2 (by omega) ⟨.bl _, H, I, rfl, rk_bl k⟩
  · cases hf
theorem op_leE : OpR X (compareOp .LtE) (rD2 X.K X.w (cmpD .le)) := by
  intro pins s σ H x y v u Q I rx ry h
  obtain ⟨S, d1, d2, r, sn, h1, h2, hf, k⟩ := h
  obtain ⟨b, hb, rfl⟩ := bl_of (f := leB) hf
  clear hf
  have hf : leB d1 d2 = some b := hb
  unfold leB at hf
  split at hf
  · cases hf
    cases rw_int h1
    cases rw_int h2
    exact op_le pins s σ H _ _ v u Q I rx ry ⟨_, _, rfl, rfl, rk_bl k⟩
  · cases hf
theorem op_gtE : OpR X (compareOp .Gt) (rD2 X.K X.w (cmpD .gt)) := by
  intro pins s σ H x y v u Q I rx ry h
  obtain ⟨S, d1, d2, r, sn, h1, h2, hf, k⟩ := h
  obtain ⟨b, hb, rfl⟩ := bl_of (f := gtB) hf
  clear hf
  have hf : gtB d1 d2 = some b := hb
  unfold gtB at hf
  split at hf
  · cases hf
    cases rw_int h1
    cases rw_int h2
    exact op_gt pins s σ H _ _ v u Q I rx ry ⟨_, _, rfl, rfl, rk_bl k⟩
  · cases hf
theorem op_geE : OpR X (compareOp .GtE) (rD2 X.K X.w (cmpD .ge)) := by
  intro pins s σ H x y v u Q I rx ry h
  obtain ⟨S, d1, d2, r, sn, h1, h2, hf, k⟩ := h
  obtain ⟨b, hb, rfl⟩ := bl_of (f := geB) hf
  clear hf
  have hf : geB d1 d2 = some b := hb
  unfold geB at hf
  split at hf
  · cases hf
    cases rw_int h1
    cases rw_int h2
    exact op_ge pins s σ H _ _ v u Q I rx ry ⟨_, _, rfl, rfl, rk_bl k⟩
  · cases hf
theorem op_ltE (hu : X.A.units + 100 < cLine) : OpR X (compareOp .Lt) (rD2 X.K X.w (cmpD .lt)) := by
  intro pins s σ H x y v u Q I rx ry h
  obtain ⟨S, d1, d2, r, sn, h1, h2, hf, k⟩ := h
  obtain ⟨b, hb, rfl⟩ := bl_of (f := ltB) hf
  clear hf
  have hf : ltB d1 d2 = some b := hb
  unfold ltB at hf
  split at hf
  · cases hf
    cases rw_int h1
    cases rw_int h2
    exact op_lt pins s σ H _ _ v u Q I rx ry ⟨_, _, rfl, rfl, rk_bl k⟩
  · rename_i xs ys
    split at hf
    · rename_i hs
      cases hf
      rw [Bool.and_eq_true, Bool.and_eq_true] at hs
      obtain ⟨p1, z1⟩ := shp_of hs.1.2
      obtain ⟨p2, z2⟩ := shp_of hs.2
      obtain ⟨as, r1⟩ := h1.reads I rx
      obtain ⟨bs, r2⟩ := h2.reads I ry
      exact PySem.W.rcLt_alike (.tuple xs) (.tuple ys) X.A s v u as bs r1 r2 (by simpa [PySem.W.alike] using hs.1.1) (by simp) (by omega) X.prog X.w X.xe _ ⟨.bl _, H, I, rfl, rk_bl k⟩
    · cases hf
  · cases hf
end
end Ev
/-! text EvE -/
set_option Elab.async false
set_option linter.all false
set_option maxRecDepth 100000
/-! Ev: more operators by data. -/
namespace Ev
open PySem PySem.Spec PyProof.Rows L2
section
variable {X : Cx} {A : Am} {C : Ecls} {W : WX} {a b c : Expr} {xa xb xc : M R} {pos : Pos}
theorem map_some {α β : Type} {x : Option α} {f : α → β} {r : β} (h : x.map f = some r) : ∃ a, x = some a ∧ r = f a := by
  cases x with
  | none => cases h
  | some a => cases h; exact ⟨a, rfl, rfl⟩

/-! ### in -/
theorem op_inE (hu : X.A.units + 100 < cLine) (hd : ∀ (pins : List (Addr × Obj)) (s : Shared) (σ : L2.St) (H : Hp) (x y : V) (v u : Value) (Q : VK) (S : Addr → Prop) (d1 : D) (kvs : List (D × D)) (k : Bool), Inv X pins σ H s → RelV x v → RelV y u → (∀ a, S a → H a ≠ none) →
      Rw X.K X.w S H x d1 → Rw X.K X.w S H y (.dict kvs) → inB d1 (.dict kvs) = some k → Q (.bl k) H → wpAny (model X.prog X.w) X.A (compareOp .In v u) (EP X pins σ Q) X.xe s) : OpR X (compareOp .In) (rD2 X.K X.w (cmpD .isIn)) := by
  intro pins s σ H x y v u Q I rx ry h
  obtain ⟨S, d1, d2, r, sn, h1, h2, hf, k⟩ := h
  obtain ⟨b, hb, rfl⟩ := bl_of (f := inB) hf
  cases d2 with
  | dict kvs => exact hd pins s σ H x y v u Q S d1 kvs b I rx ry sn h1 h2 hb (rk_bl k)
  | list ys =>
    have hb : (if shp d1 && shp (.list ys) then some (ys.any fun y => PyData.eqv y d1) else none) = some b := hb
    split at hb
    · rename_i hs
      cases hb
      rw [Bool.and_eq_true] at hs
      obtain ⟨p1, z1⟩ := shp_of hs.1
      obtain ⟨p2, z2⟩ := shp_of hs.2
      obtain ⟨as, r1⟩ := h1.reads I rx
      obtain ⟨bs, r2⟩ := h2.reads I ry
      exact PySem.SeqAt.in_list_data r2 r1 (by simpa [PyData.plain] using p2) p1 (by omega) ⟨.bl _, H, I, rfl, rk_bl k⟩
    · cases hb
  | tuple ys =>
    have hb : (if shp d1 && shp (.tuple ys) then some (ys.any fun y => PyData.eqv y d1) else none) = some b := hb
    split at hb
    · rename_i hs
      cases hb
      rw [Bool.and_eq_true] at hs
      obtain ⟨p1, z1⟩ := shp_of hs.1
      obtain ⟨p2, z2⟩ := shp_of hs.2
      obtain ⟨as, r1⟩ := h1.reads I rx
      obtain ⟨bs, r2⟩ := h2.reads I ry
      exact PySem.SeqAt.in_tuple_data r2 r1 (by simpa [PyData.plain] using p2) p1 (by omega) ⟨.bl _, H, I, rfl, rk_bl k⟩
    · cases hb
  | none => cases hb
  | bool _ => cases hb
  | int _ => cases hb
  | str _ => cases hb
theorem op_notInE (hu : X.A.units + 100 < cLine) (hd : ∀ (pins : List (Addr × Obj)) (s : Shared) (σ : L2.St) (H : Hp) (x y : V) (v u : Value) (Q : VK) (S : Addr → Prop) (d1 : D) (kvs : List (D × D)) (k : Bool), Inv X pins σ H s → RelV x v → RelV y u → (∀ a, S a → H a ≠ none) →
      Rw X.K X.w S H x d1 → Rw X.K X.w S H y (.dict kvs) → inB d1 (.dict kvs) = some k → Q (.bl (!k)) H → wpAny (model X.prog X.w) X.A (compareOp .NotIn v u) (EP X pins σ Q) X.xe s) : OpR X (compareOp .NotIn) (rD2 X.K X.w (cmpD .notIn)) := by
  intro pins s σ H x y v u Q I rx ry h
  obtain ⟨S, d1, d2, r, sn, h1, h2, hf, k⟩ := h
  obtain ⟨b, hb, rfl⟩ := bl_of (f := ninB) hf
  obtain ⟨b, hb2, rfl⟩ := map_some hb
  clear hb
  have hb := hb2
  clear hb2
  cases d2 with
  | dict kvs => exact hd pins s σ H x y v u Q S d1 kvs b I rx ry sn h1 h2 hb (rk_bl k)
  | list ys =>
    have hb : (if shp d1 && shp (.list ys) then some (ys.any fun y => PyData.eqv y d1) else none) = some b := hb
    split at hb
    · rename_i hs
      cases hb
      rw [Bool.and_eq_true] at hs
      obtain ⟨p1, z1⟩ := shp_of hs.1
      obtain ⟨p2, z2⟩ := shp_of hs.2
      obtain ⟨as, r1⟩ := h1.reads I rx
      obtain ⟨bs, r2⟩ := h2.reads I ry
      exact PySem.SeqAt.notIn_list_data r2 r1 (by simpa [PyData.plain] using p2) p1 (by omega) ⟨.bl _, H, I, rfl, rk_bl k⟩
    · cases hb
  | tuple ys =>
    have hb : (if shp d1 && shp (.tuple ys) then some (ys.any fun y => PyData.eqv y d1) else none) = some b := hb
    split at hb
    · rename_i hs
      cases hb
      rw [Bool.and_eq_true] at hs
      obtain ⟨p1, z1⟩ := shp_of hs.1
      obtain ⟨p2, z2⟩ := shp_of hs.2
      obtain ⟨as, r1⟩ := h1.reads I rx
      obtain ⟨bs, r2⟩ := h2.reads I ry
      exact PySem.SeqAt.notIn_tuple_data r2 r1 (by simpa [PyData.plain] using p2) p1 (by omega) ⟨.bl _, H, I, rfl, rk_bl k⟩
    · cases hb
  | none => cases hb
  | bool _ => cases hb
  | int _ => cases hb
  | str _ => cases hb

/-! ### is None -/
theorem rw_non {K : PySem.W.Frag} {w : World} {S : Addr → Prop} {H : Hp} {v : V} {d : D} (h : Rw K w S H v d) : decide (v = .non) = isNB d := by
  cases h with
  | rv h => cases h <;> rfl
  | ro h => cases h <;> rfl
theorem isN_imp : ∀ σ H Q, tE A C W (un1 xa isND) σ H Q → tOp (fun x y H Q => y = .non ∧ Q (.bl (decide (x = .non))) H) (tE A C W xa) (tC .non) σ H Q := by
  rintro σ H Q ⟨S, e, R, h⟩
  refine ⟨S, e, R, h.bnd.imp fun ra e1 S1 H1 R1 M1 ⟨_, h1⟩ v1 q1 _ => ?_⟩
  obtain ⟨da, hda, h3⟩ := rdM_of h1
  obtain ⟨r, hr, h5⟩ := opt_of h3
  cases hr
  refine ⟨rfl, ?_⟩
  rw [rw_non (q1.rw R1 hda)]
  exact h5 S1 H1 R1 .refl _ (.val (.bl _)) (fun _ _ z => nomatch z)
theorem notN_imp : ∀ σ H Q, tE A C W (un1 xa notND) σ H Q → tOp (fun x y H Q => y = .non ∧ Q (.bl (!decide (x = .non))) H) (tE A C W xa) (tC .non) σ H Q := by
  rintro σ H Q ⟨S, e, R, h⟩
  refine ⟨S, e, R, h.bnd.imp fun ra e1 S1 H1 R1 M1 ⟨_, h1⟩ v1 q1 _ => ?_⟩
  obtain ⟨da, hda, h3⟩ := rdM_of h1
  obtain ⟨r, hr, h5⟩ := opt_of h3
  cases hr
  refine ⟨rfl, ?_⟩
  rw [rw_non (q1.rw R1 hda)]
  exact h5 S1 H1 R1 .refl _ (.val (.bl _)) (fun _ _ z => nomatch z)
theorem pe_isNE {j : Option Str} {pos' : Pos} (ha : PE X a (tE A C W xa)) {z : Expr} (hz : PE X z (tC .non)) (hm : behindInMarks .Is z = false) : PE X (.Compare a [.Is] [z] pos) (tE A C W (un1 xa isND)) := PE.imp (pe_cmpR op_isN ha hz hm) isN_imp
theorem pe_notNE {j : Option Str} {pos' : Pos} (ha : PE X a (tE A C W xa)) {z : Expr} (hz : PE X z (tC .non)) (hm : behindInMarks .IsNot z = false) : PE X (.Compare a [.IsNot] [z] pos) (tE A C W (un1 xa notND)) := PE.imp (pe_cmpR op_notN ha hz hm) notN_imp

/-! ### subscripts -/
theorem rvs_at {K : PySem.W.Frag} {w : World} {S : Addr → Prop} {H : Hp} {vs : List V} {ds : List D} {i : Int} {d : D} (h : Rvs K w S H vs ds) (hd : ((Ev.ixN ds.length i).bind fun j => ds[j]?) = some d) : ∃ v, atI vs i = some v ∧ Rv K w S H v d := by
  cases q : Ev.ixN ds.length i with
  | none => rw [q] at hd; cases hd
  | some j =>
    rw [q] at hd
    obtain ⟨v, h1, h2⟩ := h.get hd
    refine ⟨v, ?_, h2⟩
    unfold atI
    rw [h.length]
    have : L2.ixN ds.length i = some j := q
    rw [this]
    exact h1
theorem ix_E (hd : ∀ (value slice : Expr) (pins : List (Addr × Obj)) (s : Shared) (σ : L2.St) (H : Hp) (x y : V) (v u : Value) (Q : VK) (S : Addr → Prop) (d1 d : D) (kvs : List (D × D)), Inv X pins σ H s → RelV x v → RelV y u → (∀ a, S a → H a ≠ none) →
      Rw X.K X.w S H y d1 → Rw X.K X.w S H x (.dict kvs) → idx2 (.dict kvs) d1 = some d → (∀ z, Rv X.K X.w S H z d → Q z H) → subscripted slice false v u = operate [v, u] (getItem v u) → wpAny (model X.prog X.w) X.A (subscriptTail value slice v u) (EP X pins σ Q) X.xe s) : IxR X (rD2 X.K X.w idxD) := by
  intro value slice pins s σ H x y v u Q I rx ry h hs
  obtain ⟨S, d1, d2, r, sn, h1, h2, hf, k⟩ := h
  obtain ⟨d, hd', rfl⟩ := map_some hf
  unfold idx2 at hd'
  split at hd'
  · cases rw_int h2
    obtain ⟨p, vs, rfl, ra, za, qa⟩ := rw_lst h1
    obtain ⟨z, hz, qz⟩ := rvs_at qa hd'
    exact ix_list value slice pins s σ H _ _ v u Q I rx ry ⟨p, vs, _, z, rfl, rfl, ra.sq, hz, rk_val0 k qz⟩ hs
  · cases rw_int h2
    obtain ⟨p, vs, rfl, sa, ra, za, qa⟩ := rw_tup h1
    obtain ⟨z, hz, qz⟩ := rvs_at qa hd'
    exact ix_tup value slice pins s σ H _ _ v u Q I rx ry ⟨p, vs, _, z, rfl, rfl, .inl ra.rd, hz, rk_val0 k qz⟩ hs
  · exact hd value slice pins s σ H x y v u Q S d2 d _ I rx ry sn h2 h1 hd' (fun z qz => rk_val0 k qz) hs
  · cases hd'

/-! ### slices -/
def tO (A : Am) (C : Ecls) (W : WX) (x : M (Option Int)) : TO := fun σ H Q => ∃ S e, Rl A S e σ H ∧ Res A C W σ S H e (x e) fun o e' S' H' => Q o H'
theorem PO.imp {e : Option Expr} {t t' : TO} (h : PO X e t) (i : ∀ σ H Q, t' σ H Q → t σ H Q) : PO X e t' := ⟨fun pins s σ H Q I q => h.run pins s σ H Q I (i σ H Q q)⟩
theorem po_noneE : PO X none (tO A C W (ret none)) := by
  refine PO.imp po_none ?_
  rintro σ H Q ⟨S, e, R, h⟩
  exact h S H R .refl
theorem po_someE (ha : PE X a (tE A C W xa)) : PO X (some a) (tO A C W (optIM xa)) := by
  refine PO.imp (po_some ha) ?_
  rintro σ H Q ⟨S, e, R, h⟩
  refine ⟨S, e, R, h.bnd.imp fun ra e1 S1 H1 R1 M1 ⟨_, h1⟩ v1 q1 _ => ?_⟩
  obtain ⟨da, hda, h3⟩ := rdM_of h1
  cases da with
  | int i =>
    cases rw_int (q1.rw R1 hda)
    exact ⟨i, rfl, h3 S1 H1 R1 .refl⟩
  | _ => exact h3.elim
/-- a slice by data -/
def rD3 (K : PySem.W.Frag) (w : World) : V → Option Int → Option Int → Hp → VK → Prop := fun x l h H Q => ∃ S d1 r, (∀ a, S a → H a ≠ none) ∧ Rw K w S H x d1 ∧ cut2 l h d1 = some r ∧ RK K w S H r Q
theorem cut_rvs {K : PySem.W.Frag} {w : World} {S : Addr → Prop} {H : Hp} {vs : List V} {ds : List D} (l h : Option Int) (q : Rvs K w S H vs ds) : Rvs K w S H (cutV vs l h) (cut ds l h) := by
  have e1 : ∀ n d o, HT.sIx n d o = Ev.sIx n d o := fun n d o => by cases o <;> rfl
  unfold cutV cut
  rw [e1, e1, q.length]
  exact (q.drop _).take _
theorem sl_E : SlR X (rD3 X.K X.w) := by
  intro pins s σ H x v vl vu lo hi sl Q I rx hs pl pu h
  obtain ⟨S, d1, r, sn, h1, hf, k⟩ := h
  unfold cut2 at hf
  split at hf
  · cases hf
    obtain ⟨p, vs, rfl, ra, za, qa⟩ := rw_lst h1
    exact sl_list pins s σ H _ v vl vu lo hi sl Q I rx hs pl pu ⟨p, vs, rfl, ra.sq, rk_lst sn k (Nat.le_trans (cutV_length vs lo hi) za) (cut_rvs lo hi qa)⟩
  · cases hf
    obtain ⟨p, vs, rfl, sa, ra, za, qa⟩ := rw_tup h1
    cases rx
    obtain ⟨its, r, ht, hz⟩ := I.tuple (.inl ra.rd)
    have hlen : its.toArray.size = vs.length := by rw [List.size_toArray]; exact r.length.symm
    refine ⟨"tuple", _, PyProof.Rows.slot_tuple_getitem.lookup, ht.typeIs, ?_⟩
    by_cases hw : HT.sIx vs.length 0 lo = 0 ∧ HT.sIx vs.length vs.length hi = vs.length
    case neg =>
      refine HT.getItem_tuple_cut ht hs pl pu (by rw [hlen]; exact hw) ?_ (by rw [hlen]; exact hz)
      rw [hlen]
      exact new_tup (Q := Q) (tk := s.toks) I ((r.drop (HT.sIx vs.length 0 lo)).take (HT.sIx vs.length vs.length hi - HT.sIx vs.length 0 lo)) (Nat.le_trans (cutV_length vs lo hi) za) (rk_tup sn k (Nat.le_trans (cutV_length vs lo hi) za) (cut_rvs lo hi qa))
    refine getItem_tuple_whole ht hs pl pu (by rw [hlen]; exact hw) ⟨.ref p, H, I, rfl, ?_⟩
    have e1 : ∀ n d o, HT.sIx n d o = Ev.sIx n d o := fun n d o => by cases o <;> rfl
    refine rk_val0 k (.tup sa ra za ?_)
    have := cut_rvs lo hi qa
    unfold cutV at this
    rw [hw.1, hw.2] at this
    simpa using this
  · cases hf
theorem cut_noSl {l h : Option Int} : NoSl1 (cut2 l h) := by
  intro d r hr i
  unfold cut2 at hr
  split at hr <;> cases hr <;> (intro z; cases z)
theorem pe_slE {lo hi : Option Expr} {l h : M (Option Int)} {p2 : Pos} (hA : A.K = X.K) (hw : A.w = X.w) (ha : PE X a (tE A C W xa)) (hl : PO X lo (tO A C W l)) (hh : PO X hi (tO A C W h)) : PE X (.Subscript a (.Slice lo hi none p2) pos) (tE A C W (slM xa l h)) := by
  refine PE.imp (pe_slice sl_E ha hl hh) ?_
  rintro σ H Q ⟨S, e, R, hh⟩
  refine ⟨S, e, R, hh.bnd.imp fun ra e1 S1 H1 R1 M1 ⟨_, h1⟩ v1 q1 _ => ⟨S1, e1, R1, h1.bnd.imp fun l' e2 S2 H2 R2 M2 ⟨_, h2⟩ => ⟨S2, e2, R2, h2.bnd.imp fun h' e3 S3 H3 R3 M3 ⟨_, h3⟩ => ?_⟩⟩⟩
  obtain ⟨da, hda, h4⟩ := rdM_of h3
  obtain ⟨r, hr, h5⟩ := opt_of h4
  rw [← hA, ← hw]
  exact ⟨S3, da, r, R3.sn, (q1.mono R1 (M2.trans M3)).rw R3 hda, hr, rk_of R3 (fun S' H' R' M' v q n => h5 S' H' R' M' v q (n.old fun a h => M3.st a (M2.st a (M1.st a h)))) (cut_noSl _ _ hr)⟩

/-! ### minus -/
theorem un_negE : UnR X (unaryOp .USub) (rD1 X.K X.w negD) := by
  intro pins s σ H x v Q I rx h
  obtain ⟨S, d1, r, sn, h1, hf, k⟩ := h
  obtain ⟨i, hi, rfl⟩ := map_some hf
  cases d1 with
  | int j =>
    cases hi
    cases rw_int h1
    exact un_neg pins s σ H _ v Q I rx ⟨_, rfl, rk_val0 k (.int _)⟩
  | _ => cases hi
theorem neg_noSl : NoSl1 negD := by
  intro d r hr i
  obtain ⟨j, _, rfl⟩ := map_some hr
  intro z; cases z

/-! ### chains -/
def rB2 (K : PySem.W.Frag) (w : World) (f : D → D → Option Bool) : R2 := rD2 K w fun a b => (f a b).map fun k => .val (.bool k)
theorem chain_imp {c1 c2 : Cm} : ∀ σ H Q, tE A C W (chainM xa xb xc (cmp2 c1) (cmp2 c2)) σ H Q → tChain (rD2 A.K A.w (cmpD c1)) (rD2 A.K A.w (cmpD c2)) (tE A C W xa) (tE A C W xb) (tE A C W xc) σ H Q := by
  rintro σ H Q ⟨S, e, R, h⟩
  refine ⟨S, e, R, h.bnd.imp fun ra e1 S1 H1 R1 M1 ⟨_, h1⟩ v1 q1 _ => ⟨S1, e1, R1, h1.bnd.imp fun rb e2 S2 H2 R2 M2 ⟨_, h2⟩ v2 q2 _ => ?_⟩⟩
  obtain ⟨da, hda, h3⟩ := rdM_of h2
  obtain ⟨db, hdb, h4⟩ := rdM_of h3
  obtain ⟨k, hk, h5⟩ := opt_bnd h4
  refine ⟨S2, da, db, .val (.bool k), R2.sn, (q1.mono R1 M2).rw R2 hda, q2.rw R2 hdb, by unfold cmpD; rw [hk]; rfl, ?_⟩
  intro v S' H' x hv
  cases hv
  have done : ∀ (S' : Addr → Prop) (H' : Hp), Rl A S' e2 σ H' → Mn e2 σ S2 H2 e2 S' H' → ∃ k', V.bl k = .bl k' ∧ (if k' = true then tE A C W xc σ H' fun w' H4 => rD2 A.K A.w (cmpD c2) v2 w' H4 Q else Q (.bl false) H') := fun S' H' R' M' => by
    refine ⟨k, rfl, ?_⟩
    cases k with
    | false =>
      rw [if_neg Bool.false_ne_true] at h5 ⊢
      exact h5 S' H' R' M' _ (.val (.bl _)) (fun _ _ z => nomatch z)
    | true =>
      rw [if_pos rfl] at h5 ⊢
      refine ⟨S', e2, R', ?_⟩
      have h6 := h5.bnd
      cases qz : xc e2 with
      | bad => rw [qz] at h6; exact h6
      | exc c e3 =>
        rw [qz] at h6
        exact fun S3 H3 dd R3 M3 => h6 S3 H3 dd R3 (M'.trans M3)
      | ok rc e3 =>
        rw [qz] at h6
        intro S3 H3 R3 M3 v3 q3 _
        obtain ⟨_, h7⟩ := h6 S3 H3 R3 (M'.trans M3)
        obtain ⟨dy, hdy, h8⟩ := rdM_of h7
        obtain ⟨dz, hdz, h9⟩ := rdM_of h8
        obtain ⟨r, hr, h10⟩ := opt_of h9
        exact ⟨S3, dy, dz, r, R3.sn, (q2.mono R2 (M'.trans M3)).rw R3 hdy, q3.rw R3 hdz, hr, rk_of R3 (fun S' H' R' M'' v q n => h10 S' H' R' M'' v q (n.old fun a h => M3.st a (M'.st a (M2.st a (M1.st a h))))) (fun i z => by
          obtain ⟨_, _, rfl⟩ := map_some hr
          cases z)⟩
  rcases x with ⟨rfl, rfl⟩ | ⟨p, o, hp, rfl, rfl⟩
  · exact done _ _ R2 .refl
  · exact done _ _ (R2.add hp) (.add R2 hp)

theorem pe_chainE {op op' : CmpOp} {c1 c2 : Cm} (hK : X.K = A.K) (hw : X.w = A.w) (ho : OpR X (compareOp op) (rD2 X.K X.w (cmpD c1))) (ho' : OpR X (compareOp op') (rD2 X.K X.w (cmpD c2))) (ha : PE X a (tE A C W xa)) (hb : PE X b (tE A C W xb)) (hc : PE X c (tE A C W xc))
    (hm : lastMarks [op, op'] [b, c] = false) : PE X (.Compare a [op, op'] [b, c] pos) (tE A C W (chainM xa xb xc (cmp2 c1) (cmp2 c2))) :=
  PE.imp (pe_chain ho ho' ha hb hc hm) (by rw [hK, hw]; exact chain_imp)

/-! ### arguments as they come, calls of built-ins -/
theorem Rrs.mono {S S' : Addr → Prop} {e e' : VEnv} {σ : L2.St} {H H' : Hp} {vs : List V} {rs : List R} (R : Rl A S e σ H) (m : Mn e σ S H e' S' H') (h : Rrs A S e σ H vs rs) : Rrs A S' e' σ H' vs rs := by
  induction h with
  | nil => exact .nil
  | cons h1 h2 h3 ih => exact .cons (h1.mono R m) ih h3
theorem pa_nilR : PA X [] (tRs A C W (ret [])) := by
  refine PA.imp pa_nil ?_
  rintro σ H Q ⟨S, e, R, h⟩
  exact h S H R .refl [] .nil (fun j d a z => by simp at z)
theorem pa_consR {es : List Expr} {xv : M R} {xs : M (List R)} (ha : PE X a (tE A C W xv)) (hr : PA X es (tRs A C W xs)) (hs : starEach (a :: es) X.env = (false, eval a X.env) :: starEach es X.env) : PA X (a :: es) (tRs A C W (consR xv xs)) := by
  refine PA.imp (pa_cons ha hr hs) ?_
  rintro σ H Q ⟨S, e, R, h⟩
  refine ⟨S, e, R, h.bnd.imp fun d e1 S1 H1 R1 M1 ⟨_, h1⟩ v q1 n1 => ⟨S1, e1, R1, h1.bnd.imp fun ds e2 S2 H2 R2 M2 ⟨_, h2⟩ vs q2 n2 => ?_⟩⟩
  have old : ∀ a, H1 a = none → H a = none := fun a ha => by
    cases q : H a with
    | none => rfl
    | some o => exact absurd ha (M1.st a (by rw [q]; simp))
  refine h2 S2 H2 R2 .refl _ (.cons (q1.mono R1 M2) q2 fun d' hr j d'' hj hv => ?_) fun j d' a hj hv => ?_
  · cases q1 with
    | val _ => cases hr
    | slot _ => cases hr
    | @fresh a _ _ _ _ ro => exact ro_ne ro (n2 j d'' a hj hv)
  · cases j with
    | zero =>
      simp at hj hv
      exact n1 d' a hj hv
    | succ j => exact old a (n2 j d' a (by simpa using hj) (by simpa using hv))
inductive Rws (K : PySem.W.Frag) (w : World) (S : Addr → Prop) (H : Hp) : List V → List D → Prop
  | nil : Rws K w S H [] []
  | cons {v : V} {vs : List V} {d : D} {ds : List D} : Rw K w S H v d → Rws K w S H vs ds → Rws K w S H (v :: vs) (d :: ds)
theorem Rrs.rw {S : Addr → Prop} {e : VEnv} {σ : L2.St} {H : Hp} {vs : List V} {rs : List R} (R : Rl A S e σ H) (h : Rrs A S e σ H vs rs) : ∀ {ds : List D}, rs.mapM (rd e) = some ds → Rws A.K A.w S H vs ds := by
  induction h with
  | nil => intro ds hd; simp at hd; subst hd; exact .nil
  | cons h1 h2 h3 ih =>
    intro ds hd
    rw [List.mapM_cons] at hd
    simp only [Option.bind_eq_bind, Option.bind_eq_some_iff] at hd
    obtain ⟨d, h3, ds', h4, h5⟩ := hd
    cases h5
    exact .cons (h1.rw R h3) (ih h4)
def rDs (K : PySem.W.Frag) (w : World) (f : List D → Option R) : List V → Hp → VK → Prop := fun vs H Q => ∃ S ds r, (∀ a, S a → H a ≠ none) ∧ Rws K w S H vs ds ∧ f ds = some r ∧ RK K w S H r Q
def NoSlL (f : List D → Option R) : Prop := ∀ ds r, f ds = some r → ∀ i, r ≠ .slot i
theorem biF_noSl {b : Bi} : NoSlL (biF b) := by
  intro ds r h i z
  subst z
  unfold biF at h
  split at h <;> first
    | cases h
    | (unfold bi1 at h
       split at h <;> first
        | cases h
        | (split at h <;> first | cases h | (split at h <;> cases h))
        | (obtain ⟨_, _, z⟩ := map_some h; cases z))
theorem bi_imp {b : Bi} {xs : M (List R)} : ∀ σ H Q, tE A C W (biM b xs) σ H Q → tCB (rDs A.K A.w (biF b)) (tRs A C W xs) σ H Q := by
  rintro σ H Q ⟨S, e, R, h⟩
  refine ⟨S, e, R, h.bnd.imp fun rs e1 S1 H1 R1 M1 ⟨_, h1⟩ vs q _ => ?_⟩
  cases hm : rs.mapM (rd e1) with
  | none => simp only [hm] at h1; exact h1.elim
  | some ds =>
    simp only [hm] at h1
    obtain ⟨r, hr, h5⟩ := opt_of h1
    exact ⟨S1, ds, r, R1.sn, q.rw R1 hm, hr, rk_of R1 (fun S' H' R' M' v q n => h5 S' H' R' M' v q (n.old fun a h => M1.st a h)) (biF_noSl _ _ hr)⟩
section
variable {x : Str} {p : Pos} {e : Expr} {es : List Expr} {id T : String} {bi : Bi} {xs : M (List R)}
theorem pe_biB (hc : CallR X (.builtin id) (rDs A.K A.w (biF bi))) (hg : Gl X x) (hm : X.mg x = none) (hv : bootBuiltins x = some (.builtin id)) (ha : PA X (e :: es) (tRs A C W xs)) (hn : x ≠ "__name__") (hdb : (x == ("__debug__" : Str)) = false)
    (he : starEach (e :: es) X.env = (false, eval e X.env) :: starEach es X.env) (hpl : (backTo pos (starEach es X.env)).any (·.1) = false) : PE X (.Call (.Name x p) (e :: es) [] pos) (tE A C W (biM bi xs)) :=
  PE.imp (pe_callB hc hg hm hv ha hn hdb he hpl) bi_imp
theorem pe_biT (hc : CallR X (.type T) (rDs A.K A.w (biF bi))) (hg : Gl X x) (hm : X.mg x = none) (hv : bootBuiltins x = some (.type T)) (ha : PA X (e :: es) (tRs A C W xs)) (hn : x ≠ "__name__") (hdb : (x == ("__debug__" : Str)) = false)
    (he : starEach (e :: es) X.env = (false, eval e X.env) :: starEach es X.env) (hpl : (backTo pos (starEach es X.env)).any (·.1) = false) : PE X (.Call (.Name x p) (e :: es) [] pos) (tE A C W (biM bi xs)) :=
  PE.imp (pe_callTy hc hg hm hv ha hn hdb he hpl) bi_imp
end
theorem rws1 {K : PySem.W.Frag} {w : World} {S : Addr → Prop} {H : Hp} {vs : List V} {d : D} (h : Rws K w S H vs [d]) : ∃ v, vs = [v] ∧ Rw K w S H v d := by
  cases h with
  | cons h1 h2 => cases h2; exact ⟨_, rfl, h1⟩
theorem rws2 {K : PySem.W.Frag} {w : World} {S : Addr → Prop} {H : Hp} {vs : List V} {d d2 : D} (h : Rws K w S H vs [d, d2]) : ∃ v v2, vs = [v, v2] ∧ Rw K w S H v d ∧ Rw K w S H v2 d2 := by
  cases h with
  | cons h1 h2 => obtain ⟨v, rfl, h3⟩ := rws1 h2; exact ⟨_, _, rfl, h1, h3⟩
theorem biF_one {b : Bi} {ds : List D} {r : R} (h : biF b ds = some r) : (∃ d, ds = [d] ∧ bi1 b d = some r) ∨ ∃ i j, ds = [.int i, .int j] := by
  unfold biF at h
  split at h
  · exact .inr ⟨_, _, rfl⟩
  · exact .inr ⟨_, _, rfl⟩
  · exact .inl ⟨_, rfl, h⟩
  · cases h
end
end Ev
/-! text EvS -/
set_option Elab.async false
set_option linter.all false
set_option maxRecDepth 100000
/-! Ev: sorting lists of tuples of which some may be empty. -/
namespace Ev
open PySem PySem.Spec PyProof.Rows PySem.W PySem.Calls
section
variable {prog : Program} {w : World} {A : Around} {E : Value → Shared → Prop} {s : Shared}
/-- tuple's own __lt__ on alike data -/
theorem call_tupLt {xs ys : List PyData} {a b : Value} {as bs : List Addr} {Q : Value → Shared → Prop} (ra : Reads s.heap a (.tuple xs) as) (rb : Reads s.heap b (.tuple ys) bs) (hal : alikeAll xs ys = true) (hu : A.units + min (PyData.tuple xs).depth (PyData.tuple ys).depth < cLine)
    (h : Q (.bool (dataLt (.tuple xs) (.tuple ys))) s) : wpAny (model prog w) A (call (.builtin "tuple.__lt__") [a, b]) Q E s := by
  cases ra with
  | @tuple l o vs n _ as₁ h1 h2 h3 h4 =>
    cases rb with
    | @tuple l' o' vs' n' _ bs₁ k1 k2 k3 k4 =>
      obtain ⟨c1, d1, t1, sl1⟩ := o
      obtain ⟨c2, d2, t2, sl2⟩ := o'
      simp only at h2 h3 k2 k3
      subst h2 h3 k2 k3
      have n1 : vs.size = xs.length := by simpa using SeqAt.ReadsAll.length _ _ _ h4
      have n2 : vs'.size = ys.length := by simpa using SeqAt.ReadsAll.length _ _ _ k4
      rw [dataLt_tuple, ← firstLt_toks xs ys hal, ← n1, ← n2] at h
      refine call_meets PySem.F.slot_tuple_lt ⟨_, h1, rfl⟩ PySem.F.entry_tuple_lt (PySem.F.args_tuple_lt_2 _ _) (SeqAt.tuple_ltAt l l' vs vs' n n' d1 d2 sl1 sl2 (SeqAt.pairEq xs ys) (fun j => dataLt (xs.getD j .none) (ys.getD j .none))) ⟨h1, k1, fun j j1 j2 => ?_, fun j j1 j2 hj => ?_, h⟩
      · have := eqAt_alikeAll xs ys A.in1 s vs.toList vs'.toList _ _ h4 k4 hal (SeqAt.room_in hu) j (by simpa using j1) (by simpa using j2)
        simpa using this
      · have := rcLt_alikeAll xs ys A.in1 s vs.toList vs'.toList _ _ h4 k4 hal (SeqAt.room_in hu) j (by simpa using j1) (by simpa using j2) hj
        simpa using this
/-- one tuple against another -/
theorem oneLt_tup {f : Bool} {xs ys : List PyData} {a b : Value} {as bs : List Addr} {Q : Bool → Shared → Prop} (ra : Reads s.heap a (.tuple xs) as) (rb : Reads s.heap b (.tuple ys) bs) (hal : alike (.tuple xs) (.tuple ys) = true) (hu : A.units + min (PyData.tuple xs).depth (PyData.tuple ys).depth < cLine)
    (hq : Q (dataLt (.tuple xs) (.tuple ys)) s) : wpAny (model prog w) A (oneLt' f a b) Q E s := by
  cases f with
  | false => exact oneLt_alike (fun z => nomatch z) ra rb hal (by simp) hu hq
  | true =>
    have hal' : alikeAll xs ys = true := by simpa [alike] using hal
    have ta : s.TypeIs a "tuple" := by cases ra with | tuple h1 h2 _ _ => exact ⟨_, h1, h2⟩
    rw [oneLt'_eq]
    simp only [if_true]
    refine wpAny_bind (wpAny_cRoomFor (SeqAt.room_here hu) ?_)
    refine wpAny_bind (wpAny_callSpecialIfBound?_slot ta PySem.F.slot_tuple_lt (call_tupLt ra rb hal' hu ?_))
    exact wpAny_truthy_bool hq
/-- is a tuple with an item -/
def full : PyData → Bool
  | .tuple (_ :: _) => true
  | _ => false
theorem firsts_run : ∀ {vs : List Value} {ds : List PyData}, EachIs (fun v d => ∃ as, Reads s.heap v d as) vs ds → (∀ d, d ∈ ds → ∃ xs, d = .tuple xs) → ∀ {Q : List (Option Value) → Shared → Prop}, (∀ fs : List (Option Value), fs.map Option.isSome = ds.map full → Q fs s) → wpAny (model prog w) A (vs.mapM firstOfTuple') Q E s
  | _, _, .nil, _, Q, h => by
    rw [List.mapM_nil]
    exact wpAny_pure (h [] rfl)
  | _, _, .cons (a := v) (as := vs) (b := d) (bs := ds) ⟨as, r⟩ t, ht, Q, h => by
    rw [List.mapM_cons]
    obtain ⟨xs, rfl⟩ := ht d (List.mem_cons_self ..)
    have step : ∀ {R : Option Value → Shared → Prop}, (∀ f : Option Value, f.isSome = full (.tuple xs) → R f s) → wpAny (model prog w) A (firstOfTuple' v) R E s := fun {R} hR => by
      cases r with
      | @tuple a o its n _ as h1 h2 h3 h4 =>
        rw [kas_first_eq]
        refine wpAny_bind (wpAny_typeOf ⟨_, h1, h2⟩ ?_)
        rw [if_neg (by decide)]
        refine wpAny_bind (listItems_at h1 h3 (wpAny_pure (hR _ ?_)))
        have n1 : its.size = xs.length := by simpa using SeqAt.ReadsAll.length _ _ _ h4
        cases xs with
        | nil =>
          have e0 : its = #[] := Array.eq_empty_of_size_eq_zero n1
          subst e0
          rfl
        | cons x xs =>
          have hl : 0 < its.size := by rw [n1]; simp
          rw [Array.getElem?_eq_getElem hl]
          rfl
    refine wpAny_bind (step fun f hf => wpAny_bind (firsts_run t (fun d hd => ht d (List.mem_cons_of_mem _ hd)) fun fs hfs => wpAny_pure (h (f :: fs) ?_)))
    rw [List.map_cons, List.map_cons, hf, hfs]
theorem types_run {T : Value} : ∀ {vs : List Value}, (∀ v, v ∈ vs → Looks (model prog w) s.heap (typeOf v) T) → ∀ {Q : List Value → Shared → Prop}, Q (vs.map fun _ => T) s → wpAny (model prog w) A (vs.mapM typeOf) Q E s
  | [], _, Q, h => by rw [List.mapM_nil]; exact wpAny_pure h
  | v :: vs, hT, Q, h => by
    rw [List.mapM_cons]
    exact wpAny_bind ((hT v (List.mem_cons_self ..)).here (wpAny_bind (types_run (fun v hv => hT v (List.mem_cons_of_mem _ hv)) (wpAny_pure h))))
theorem sorts_tups {vs : List Value} {ds : List PyData} (e : EachIs (fun v d => ∃ as, Reads s.heap v d as) vs ds) (hal : AllAlike ds) (ht : ∀ d, d ∈ ds → ∃ xs, d = .tuple xs) (hu : ∀ d, d ∈ ds → A.units + d.depth < cLine) : SortsAt prog w A s (dataKind s.heap ds) vs := by
  by_cases hf : ∀ d, d ∈ ds → full d = true
  · refine SortsAt.data e hal (.inl fun d hd => ?_) hu
    obtain ⟨xs, rfl⟩ := ht d hd
    cases xs with
    | nil => exact absurd (hf _ hd) (by simp [full])
    | cons x r => exact ⟨x, r, rfl⟩
  · have room : ∀ {d d' : PyData}, d ∈ ds → A.units + min d.depth d'.depth < cLine := fun {d d'} hd => Nat.lt_of_le_of_lt (Nat.add_le_add_left (Nat.min_le_left _ _) _) (hu d hd)
    have hL : ∀ v, v ∈ vs → Looks (model prog w) s.heap (typeOf v) (.type "tuple") := fun v hv => by
      obtain ⟨d, hd, as, r⟩ := e.left v hv
      obtain ⟨xs, rfl⟩ := ht d hd
      exact looks_reads r
    have lt : ∀ kd : SortKind, (kd = general' ∨ kd = oneType') → H.LtAt prog w A s (dataKind s.heap ds) kd := by
      intro kd hk E x y a b Q ha hb hq
      obtain ⟨d, as, hd, ra, rfl⟩ := dataKind_inv ha
      obtain ⟨d', as', hd', rb, rfl⟩ := dataKind_inv hb
      obtain ⟨xs, rfl⟩ := ht d hd
      obtain ⟨ys, rfl⟩ := ht d' hd'
      rcases hk with rfl | rfl
      · exact oneLt_tup (f := false) ra rb (hal _ hd _ hd') (room hd) hq
      · rw [keyLt'_oneType]
        exact oneLt_tup ra rb (hal _ hd _ hd') (room hd) hq
    refine ⟨fun v hv => ?_, ?_⟩
    · obtain ⟨d, hd, as, r⟩ := e.left v hv
      exact ⟨_, dataKind_some hal hd r⟩
    · cases ds with
      | nil => exact absurd (fun d hd => absurd hd (by simp)) hf
      | cons d₀ ds₀ =>
        refine ⟨if full d₀ then general' else oneType', lt _ (by cases full d₀ <;> simp), fun h2 E Q hq => ?_⟩
        rw [keyKind'_eq, List.mapM_toArray, map_eq_pure_bind]
        refine wpAny_bind (wpAny_bind (firsts_run e ht fun fs hfs => wpAny_pure ?_))
        have hno : ¬ ((fs.toArray.all fun x => x.isSome) = true) := by
          intro h
          refine hf fun d hd => ?_
          have h' : fs.all Option.isSome = true := by simpa using h
          have : (fs.map Option.isSome).all id = true := by rw [List.all_map]; exact h'
          rw [hfs, List.all_map] at this
          exact List.all_eq_true.mp this d hd
        rw [if_neg hno]
        cases fs with
        | nil => simp at hfs
        | cons f fr =>
          have h0 : f.isSome = full d₀ := by simpa using (List.cons.inj hfs).1
          have e0 : (((f :: fr).toArray[0]?).bind id).isSome = full d₀ := by simpa using h0
          rw [e0]
          cases hd0 : full d₀ with
          | true =>
            rw [if_pos rfl]
            rw [hd0, if_pos rfl] at hq
            exact wpAny_pure hq
          | false =>
            rw [if_neg Bool.false_ne_true]
            rw [hd0, if_neg Bool.false_ne_true] at hq
            rw [oneTypeOnly'_eq, List.mapM_toArray, map_eq_pure_bind]
            refine wpAny_bind (wpAny_bind (wpAny_bind (types_run hL (wpAny_pure ?_))))
            cases vs with
            | nil => simp at h2
            | cons v₀ vr =>
              have z : ((v₀ :: vr).map fun _ => Value.type "tuple").toArray[0]? = some (Value.type "tuple") := by simp
              rw [z]
              have z2 : (((v₀ :: vr).map fun _ => Value.type "tuple").toArray.all fun x => x == Value.type "tuple") = true := by
                simp
              show wpAny _ _ (pure (if (((v₀ :: vr).map fun _ => Value.type "tuple").toArray.all fun x => x == Value.type "tuple") = true then some (Value.type "tuple") else none)) _ _ _
              rw [z2]
              exact wpAny_pure (wpAny_pure hq)
/-- values that read as alike data, tuples or none of them a tuple -/
theorem sorts_data {vs : List Value} {ds : List PyData} (e : EachIs (fun v d => ∃ as, Reads s.heap v d as) vs ds) (hal : AllAlike ds) (hn : ∀ d, d ∈ ds → d ≠ .none) (hu : ∀ d, d ∈ ds → A.units + d.depth < cLine) : SortsAt prog w A s (dataKind s.heap ds) vs := by
  cases ds with
  | nil => exact SortsAt.data e hal (.inl fun d hd => absurd hd (by simp)) hu
  | cons d₀ ds₀ =>
    by_cases h0 : ∃ xs, d₀ = .tuple xs
    · refine sorts_tups e hal (fun d hd => ?_) hu
      obtain ⟨xs, rfl⟩ := h0
      have q := hal d hd _ (List.mem_cons_self ..)
      cases d <;> first | exact ⟨_, rfl⟩ | exact absurd q (by simp [alike])
    · refine SortsAt.data e hal (.inr fun d hd => ⟨hn d hd, fun xs z => ?_⟩) hu
      subst z
      have q := hal _ (List.mem_cons_self ..) _ hd
      cases d₀ <;> first | exact h0 ⟨_, rfl⟩ | exact absurd q (by simp [alike])
/-- sorted(v): what is collected of v is laid and sorted -/
theorem sorted_any {v : Value} {R : Value → PyData → Prop} {ds : List PyData} {Q : Value → Shared → Prop} (hal : AllAlike ds) (hn : ∀ d, d ∈ ds → d ≠ .none) (hL : ds.length ≤ sizeLine) (hu : ∀ d, d ∈ ds → A.units + 2 + d.depth < cLine)
    (hc : ∀ (E' : Value → Shared → Prop) (G : List Value → Shared → Prop), (∀ h' tk its, (∀ b o, s.heap.get? b = some o → h'.get? b = some o) → EachIs R its ds → EachIs (fun v d => ∃ as, Reads s.heap v d as) its ds → G its { s with heap := h', toks := tk }) → wpAny (model prog w) A.in1 (collect v) G E' s)
    (h : ∀ h' tk D out c, (∀ b o, s.heap.get? b = some o → h'.get? b = some o) → s.heap.get? D = none → h'.get? D = some (seqObj "list" (List.toArray out) c) → EachIs R out (ds.mergeSort (dataLe false id)) → Q (.ref D) { s with heap := h', toks := tk }) :
    wpAny (model prog w) A (call (.builtin "sorted") [v]) Q E s := by
  refine call_function_entry kind_sorted plain_sorted entry_sorted (args_sorted1 _) ?_
  unfold Builtin.«sorted»
  refine wpAny_bind (m := checkCount "sorted" 1 1 _) (wpAny_pure (wpAny_bind (hc _ _ fun h1 tk its k1 eR eA => ?_)))
  have hlen : its.length = ds.length := eA.length
  refine wpAny_bind (wpAny_newList ?_ (by rw [hlen]; exact hL))
  have ho : (h1.push (seqObj "list" its.toArray 0)).get? h1.objs.size = some (seqObj "list" its.toArray 0) := Heap.get?_push_size _ rfl
  have kp : ∀ b o, s.heap.get? b = some o → (sortingHeap (h1.push (seqObj "list" its.toArray 0)) h1.objs.size its).get? b = some o := fun b o e => sortingHeap_old (Nat.ne_of_lt (Heap.lt_size (k1 b o e))) (Heap.get?_push_of_some _ (k1 b o e))
  have er' : EachIs (fun v b => ∃ as, Reads (sortingHeap (h1.push (seqObj "list" its.toArray 0)) h1.objs.size its) v b as) its ds := eA.mono fun _ _ ⟨as, r⟩ => ⟨as, PyProof.Rows.Reads.keeps kp r⟩
  refine wpAny_bind (wpAny_holding (wpAny_call_entry slot_list_sort ⟨_, ho, rfl⟩ entry_list_sort (list_sort_vals (s := { s with heap := h1.push (seqObj "list" its.toArray 0), toks := tk }) (κ := dataKind (sortingHeap (h1.push (seqObj "list" its.toArray 0)) h1.objs.size its) ds) ho
    (sorts_data (s := { s with heap := sortingHeap (h1.push (seqObj "list" its.toArray 0)) h1.objs.size its, toks := tk }) er' hal hn (fun d hd => by have := hu d hd; simpa using this)) (by rw [hlen]; exact hL) ⟨.none, rfl, wpAny_pure ⟨_, rfl, ?_⟩⟩) (args_list_sort _)))
  have er2 : EachIs R (sortVals (dataKind (sortingHeap (h1.push (seqObj "list" its.toArray 0)) h1.objs.size its) (ds.map id)) false its its) (ds.mergeSort (dataLe false id)) := sortVals_data false eR (by simpa using er') (by simpa using hal)
  rw [List.map_id] at er2
  obtain ⟨c, hc'⟩ := sortedHeap_at (out := (sortVals (dataKind (sortingHeap (h1.push (seqObj "list" its.toArray 0)) h1.objs.size its) ds) false its its).toArray) ho
  have le : s.heap.get? h1.objs.size = none := by
    cases hz : s.heap.get? h1.objs.size with
    | none => rfl
    | some o => exact absurd (Heap.lt_size (k1 _ _ hz)) (Nat.lt_irrefl _)
  refine h _ _ h1.objs.size _ c (fun b o e => ?_) le hc' er2
  have hb := Heap.lt_size (k1 b o e)
  exact (sortedHeap_old (Nat.ne_of_lt hb) (by rw [size_push']; exact Nat.lt_succ_of_lt hb)).trans (Heap.get?_push_of_some _ (k1 b o e))
end
end Ev
/-! text EvF -/
set_option Elab.async false
set_option linter.all false
set_option maxRecDepth 100000
/-! Ev: built-ins by data. -/
namespace Ev
open PySem PySem.Spec PyProof.Rows L2
section
variable {X : Cx}
theorem one_of {K : PySem.W.Frag} {w : World} {S : Addr → Prop} {H : Hp} {bi : Bi} {vs : List V} {us : List Value} {ds : List D} {r : R} (hb : bi ≠ .max2 ∧ bi ≠ .min2) (rv : Vals vs us) (h : Rws K w S H vs ds) (hf : biF bi ds = some r) :
    ∃ v u d, vs = [v] ∧ us = [u] ∧ ds = [d] ∧ RelV v u ∧ Rw K w S H v d ∧ bi1 bi d = some r := by
  unfold biF at hf
  split at hf
  · exact absurd rfl hb.1
  · exact absurd rfl hb.2
  · obtain ⟨v, rfl, q⟩ := rws1 h
    obtain ⟨u, rfl, ru⟩ := rv.one
    exact ⟨_, _, _, rfl, rfl, rfl, ru, q, hf⟩
  · cases hf
theorem rw_raw {pins : List (Addr × Obj)} {σ : L2.St} {H : Hp} {s : Shared} {S : Addr → Prop} {v : V} {u : Value} {kvs : List (D × D)} (I : Inv X pins σ H s) (rv : RelV v u) (h : Rw X.K X.w S H v (.dict kvs)) :
    ∃ a es ep, v = .ref a ∧ u = .ref a ∧ (a == sysModules) = false ∧ s.heap.DictRaw a es ep ∧ es.size ≤ sizeLine ∧ Rde X.K X.w S H es.toList kvs ∧ (kvs.map fun p => nk p.1).Nodup := by
  obtain ⟨a, o, es, ep, rfl, h1, h2, h3, h4, h5, h6, h7⟩ := rw_dic h
  cases rv
  exact ⟨a, es, ep, rfl, rfl, h2, ⟨o, obj_of I h1, h3, h4⟩, h5, h6, h7⟩
theorem call_len_raw2 {prog : Program} {w : World} {A : Around} {E : Value → Shared → Prop} {s : Shared} {d : Addr} {es : Array DictEntry} {ep : Nat} {Q : Value → Shared → Prop} (lo : (d == sysModules) = false) (hm : s.heap.DictRaw d es ep) (hz : (es.size : Int) < 2 ^ 63)
    (h : ∀ t k, Q (.int es.size t) { s with toks := k }) : wpAny (model prog w) A (call (.builtin "len") [.ref d]) Q E s := by
  refine Calls.call_function_entry kind_len plain_len entry_len (args_len1 _) ?_
  unfold Builtin.«len»
  refine wpAny_bind (m := oneArg "len" _) (wpAny_pure (wpAny_bind (m := callSpecial? (.ref d) (Str.ofString "__len__")) (wpAny_callSpecial?_slot (name := Str.ofString "__len__") hm.typeIs PySem.F.slot_dict_len (call_len_raw lo hm ?_))))
  refine wpAny_bind (wpAny_holding (wpAny_pure (wpAny_bind (wpAny_letGo ?_))))
  show wpAny _ _ (if ((es.size : Nat) : Int) < 0 then _ else _) _ _ _
  rw [if_neg (by omega)]
  show wpAny _ _ (if ((es.size : Nat) : Int) ≥ 2 ^ 63 then _ else _) _ _ _
  rw [if_neg (by omega)]
  exact wpAny_bind (wpAny_mkInt (wpAny_pure ⟨_, rfl, h _ _⟩))
theorem call_lenE : CallR X (.builtin "len") (rDs X.K X.w (biF .len)) := by
  intro pins s σ H vs us Q I rv h
  obtain ⟨S, ds, r, sn, h1, hf, k⟩ := h
  obtain ⟨v, u, d, rfl, rfl, rfl, ru, q, hf⟩ := one_of (by simp) rv h1 hf
  unfold bi1 at hf
  cases d with
  | list ds =>
    cases hf
    obtain ⟨a, xs, rfl, ra, za, qa⟩ := rw_lst q
    refine call_len_seq pins s σ H _ _ Q I rv ⟨a, xs, rfl, .inl ra.sq, ?_⟩
    rw [qa.length]
    exact rk_val0 k (.int _)
  | tuple ds =>
    cases hf
    obtain ⟨a, xs, rfl, sa, ra, za, qa⟩ := rw_tup q
    refine call_len_seq pins s σ H _ _ Q I rv ⟨a, xs, rfl, .inr (.inl ra.rd), ?_⟩
    rw [qa.length]
    exact rk_val0 k (.int _)
  | dict kvs =>
    cases hf
    obtain ⟨a, es, ep, rfl, rfl, lo, hr, hz, qe, qn⟩ := rw_raw I ru q
    have hl : es.size = kvs.length := by rw [← qe.length, Array.length_toList]
    have hz' : es.size ≤ 16777216 := by rw [sizeLine_eq] at hz; exact hz
    refine call_len_raw2 lo hr (by omega) fun t tk => ?_
    rw [hl]
    exact ⟨.int _, H, I.tok _, ⟨_, rfl⟩, rk_val0 k (.int _)⟩
  | str x =>
    simp only at hf
    split at hf
    · rename_i hx
      cases hf
      cases rw_str q
      exact call_len_str pins s σ H _ _ Q I rv ⟨x, rfl, hx, rk_val0 k (.int _)⟩
    · cases hf
  | _ => cases hf
theorem call_tupleE : CallR X (.type "tuple") (rDs X.K X.w (biF .tuple)) := by
  intro pins s σ H vs us Q I rv h
  obtain ⟨S, ds, r, sn, h1, hf, k⟩ := h
  obtain ⟨v, u, d, rfl, rfl, rfl, ru, q, hf⟩ := one_of (by simp) rv h1 hf
  unfold bi1 at hf
  cases d with
  | list ds =>
    cases hf
    obtain ⟨a, xs, rfl, ra, za, qa⟩ := rw_lst q
    cases ru
    obtain ⟨its, n, r1, e1⟩ := lst_at I ra
    refine call_tuple_list (items := its.toArray) ⟨_, e1, rfl, _, rfl⟩ (fun h' hk => ?_) (by have := r1.length; simp; omega)
    have I1 : Inv X pins σ H { s with heap := h' } := I.kept (t' := s.toks) hk
    exact new_tup (Q := Q) (tk := s.toks) I1 r1 za (rk_tup sn k za qa)
  | tuple ds =>
    cases hf
    obtain ⟨a, xs, rfl, sa, ra, za, qa⟩ := rw_tup q
    exact call_tuple_of pins s σ H _ _ Q I rv ⟨a, xs, rfl, .inr ⟨.inl ra.rd, rk_val0 k (.tup sa ra za qa)⟩⟩
  | _ => cases hf
/-- the keys of a dict as they are collected -/
theorem rde_keys {K : PySem.W.Frag} {w : World} {S : Addr → Prop} {H : Hp} : ∀ {es : List DictEntry} {kvs : List (D × D)}, Rde K w S H es kvs → ∃ vs, Rvs K w S H vs (kvs.map (·.1)) ∧ Vals vs (es.map (·.key))
  | _, [], h => by cases h; exact ⟨[], .nil, .nil⟩
  | _, (k, d) :: kvs, h => by
    cases h with
    | cons h1 h2 h3 h4 h5 h6 h7 h8 =>
      obtain ⟨vs, q1, q2⟩ := rde_keys h8
      exact ⟨_ :: vs, .cons h5 q1, .cons h4 q2⟩
theorem items_keys {es : Array DictEntry} {acc : Array Value} (h : ItemsOf (fun i v => ∃ hi : i < es.size, v = es[i].key) acc es.size) : acc.toList = es.toList.map (·.key) := by
  refine List.ext_getElem (by rw [Array.length_toList, List.length_map, Array.length_toList]; exact h.1) fun i h1 h2 => ?_
  have h1' : i < acc.size := by simpa using h1
  obtain ⟨hi, e⟩ := h.2 i acc[i] (by rw [Array.getElem?_eq_getElem h1'])
  simp [e]
theorem call_listE (hc : X.calm = true) : CallR X (.type "list") (rDs X.K X.w (biF .list)) := by
  intro pins s σ H vs us Q I rv h
  obtain ⟨S, ds, r, sn, h1, hf, k⟩ := h
  obtain ⟨v, u, d, rfl, rfl, rfl, ru, q, hf⟩ := one_of (by simp) rv h1 hf
  unfold bi1 at hf
  cases d with
  | list ds =>
    cases hf
    obtain ⟨a, xs, rfl, ra, za, qa⟩ := rw_lst q
    exact call_list_of pins s σ H _ _ Q I rv ⟨a, xs, rfl, .inl ra.sq, rk_lst sn k za qa⟩
  | tuple ds =>
    cases hf
    obtain ⟨a, xs, rfl, sa, ra, za, qa⟩ := rw_tup q
    exact call_list_of pins s σ H _ _ Q I rv ⟨a, xs, rfl, .inr (.inl ra.rd), rk_lst sn k za qa⟩
  | dict kvs =>
    cases hf
    obtain ⟨a, es, ep, rfl, rfl, lo, hr, hz, qe, qn⟩ := rw_raw I ru q
    obtain ⟨vs, q1, q2⟩ := rde_keys qe
    refine PySem.W.kdl_call (KdlSrc.rawDict lo) (I.ok.hd hc) hr hz fun h' tk acc' c' hk hS hacc => ?_
    have ev : Vals vs acc'.toList := by rw [items_keys hacc]; exact q2
    have zv : vs.length ≤ sizeLine := by rw [ev.length, Array.length_toList, hacc.1]; exact hz
    refine ⟨.ref _, _, I.laid (t' := tk) (o := .lst vs) hk (Nat.le_refl _) ⟨zv, acc'.toList, c', ev, by rw [Array.toArray_toList]; exact hS⟩, rfl, rk_lst sn k zv q1 _ (I.hok.fresh (Nat.le_refl _))⟩
  | _ => cases hf

/-! ### sorted -/
theorem sortOk_of {ds : List D} (h : sortOk ds = true) : PySem.W.AllAlike ds ∧ (∀ d, d ∈ ds → d ≠ .none) ∧ (∀ d, d ∈ ds → d.depth ≤ 64) ∧ ds.length < sizeLine := by
  unfold sortOk at h
  rw [Bool.and_eq_true, Bool.and_eq_true, decide_eq_true_eq, sz_eq] at h
  obtain ⟨⟨h1, h2⟩, h3⟩ := h
  refine ⟨fun d hd d' hd' => ?_, fun d hd z => ?_, fun d hd => ?_, h3⟩
  · exact List.all_eq_true.mp (List.all_eq_true.mp h1 d hd) d' hd'
  · subst z
    have := List.all_eq_true.mp h2 _ hd
    simp [isNB] at this
  · have := List.all_eq_true.mp h2 _ hd
    rw [Bool.and_eq_true] at this
    exact (shp_of this.1).2
theorem eachIs_of {α β : Type} {R R' : α → β → Prop} {as : List α} {bs : List β} (h : PySem.W.EachIs R as bs) (i : ∀ a b, R a b → R' a b) : PySem.W.EachIs R' as bs := by
  induction h with
  | nil => exact .nil
  | cons h1 h2 ih => exact .cons (i _ _ h1) ih
theorem each_rvs {K : PySem.W.Frag} {w : World} {S : Addr → Prop} {H : Hp} : ∀ {us : List Value} {vs : List V} {ds : List D}, Vals vs us → Rvs K w S H vs ds → PySem.W.EachIs (fun u d => ∃ v, RelV v u ∧ Rv K w S H v d) us ds
  | _, _, _, .nil, h => by cases h; exact .nil
  | _, _, _, .cons r t, h => by
    cases h with
    | cons h1 h2 => exact .cons ⟨_, r, h1⟩ (each_rvs t h2)
theorem rvs_each {K : PySem.W.Frag} {w : World} {S : Addr → Prop} {H : Hp} {us : List Value} {ds : List D} (h : PySem.W.EachIs (fun u d => ∃ v, RelV v u ∧ Rv K w S H v d) us ds) : ∃ vs, Vals vs us ∧ Rvs K w S H vs ds := by
  induction h with
  | nil => exact ⟨[], .nil, .nil⟩
  | cons h1 h2 ih =>
    obtain ⟨v, r, q⟩ := h1
    obtain ⟨vs, r2, q2⟩ := ih
    exact ⟨v :: vs, .cons r r2, .cons q q2⟩
theorem obj_there {P : Program} {w : World} {H : Hp} {h : Heap} {a : Addr} {o : HO} (x : ObjOk P w H h a o) : ∃ ob, h.get? a = some ob := by
  cases o with
  | lst xs => obtain ⟨_, _, _, _, e⟩ := x; exact ⟨_, e⟩
  | tup xs => obtain ⟨_, _, _, o, e, _⟩ := x; exact ⟨_, e⟩
  | dK kvs => obtain ⟨_, _, _, _, o, _, _, e, _⟩ := x; exact ⟨_, e⟩
  | dT kvs => obtain ⟨_, _, _, _, o, _, _, e, _⟩ := x; exact ⟨_, e⟩
  | set S n => obtain ⟨o, _, _, _, e, _⟩ := x; exact ⟨_, e⟩
  | ins C dx fs => obtain ⟨_, _, _, e, _⟩ := x; exact ⟨_, e⟩
  | own y => exact x
  | xd fs => obtain ⟨_, ⟨_, _, _, e, _⟩, _⟩ := x; exact ⟨_, e⟩
  | rng lo hi => obtain ⟨_, _, _, e⟩ := x; exact ⟨_, e⟩
  | frz ob u => obtain ⟨e, _⟩ := x; exact ⟨_, e⟩
  | tbl ps => exact ⟨_, (show h.get? a = some _ from x)⟩
  | met f y => exact ⟨_, (show h.get? a = some _ from x)⟩
  | ext φ => obtain ⟨_, e, _⟩ := x; exact e
theorem mergeSort_length' {ds : List D} {le : D → D → Bool} : (ds.mergeSort le).length = ds.length := List.length_mergeSort _
theorem dataLe_eq : PySem.W.dataLe false (id : D → D) = fun a b => !PySem.W.dataLt b a := rfl
theorem sortedE_of {pins : List (Addr × Obj)} {σ : L2.St} {H : Hp} {s : Shared} {S : Addr → Prop} {Q : VK} {u : Value} {vs : List V} {us : List Value} {ds : List D} (I : Inv X pins σ H s) (hu : X.A.units + 100 < cLine) (sn : ∀ a, S a → H a ≠ none) (ok : sortOk ds = true) (rv : Vals vs us) (q : Rvs X.K X.w S H vs ds)
    (k : RK X.K X.w S H (.fresh (.list (sortD ds))) Q)
    (hc : ∀ (E' : Value → Shared → Prop) (G : List Value → Shared → Prop), (∀ h' tk, (∀ b o, s.heap.get? b = some o → h'.get? b = some o) → G us { s with heap := h', toks := tk }) → wpAny (model X.prog X.w) X.A.in1 (collect u) G E' s) :
    wpAny (model X.prog X.w) X.A (call (.builtin "sorted") [u]) (EP X pins σ Q) X.xe s := by
  obtain ⟨al, nn, dp, zl⟩ := sortOk_of ok
  have eR := each_rvs rv q
  have eA : PySem.W.EachIs (fun v d => ∃ as, Reads s.heap v d as) us ds := eachIs_of eR fun u d ⟨v, r, h⟩ => h.reads I d v u r
  refine sorted_any (R := fun u d => ∃ v, RelV v u ∧ Rv X.K X.w S H v d) al nn (Nat.le_of_lt zl) (fun d hd => by have := dp d hd; omega) (fun E' G hG => hc E' G fun h' tk hk => hG h' tk us hk eR eA) fun h' tk D out c hk hD hO eO => ?_
  obtain ⟨ws, r2, q2⟩ := rvs_each eO
  have zv : ws.length ≤ sizeLine := by rw [q2.length, mergeSort_length']; exact Nat.le_of_lt zl
  have fr : H D = none := by
    cases z : H D with
    | none => rfl
    | some o =>
      obtain ⟨ob, e⟩ := obj_there (I.hok D o z)
      rw [hD] at e; cases e
  exact ⟨.ref D, _, I.laidN (t' := tk) (o := .lst ws) hk hD fr ⟨zv, out, c, r2, hO⟩, rfl, rk_lst sn k zv q2 D fr⟩
end
end Ev
/-! text EvG -/
set_option Elab.async false
set_option linter.all false
set_option maxRecDepth 100000
/-! Ev: more built-ins by data. -/
namespace Ev
open PySem PySem.Spec PyProof.Rows L2
section
variable {X : Cx}
theorem call_sortedE (hc : X.calm = true) (hu : X.A.units + 100 < cLine) : CallR X (.builtin "sorted") (rDs X.K X.w (biF .sorted)) := by
  intro pins s σ H vs us Q I rv h
  obtain ⟨S, ds, r, sn, h1, hf, k⟩ := h
  obtain ⟨v, u, d, rfl, rfl, rfl, ru, q, hf⟩ := one_of (by simp) rv h1 hf
  unfold bi1 at hf
  cases d with
  | list ds =>
    simp only at hf
    split at hf
    · rename_i ok
      cases hf
      obtain ⟨a, xs, rfl, ra, za, qa⟩ := rw_lst q
      cases ru
      obtain ⟨its, n, r1, e1⟩ := lst_at I ra
      have l1 := r1.length
      refine sortedE_of I hu sn ok r1 qa k fun E' G hG => ?_
      refine wpAny_collect_seq a (.inl rfl) e1 rfl rfl (fun h' hk => ?_) (by rw [List.size_toArray]; omega)
      exact hG h' s.toks hk
    · cases hf
  | tuple ds =>
    simp only at hf
    split at hf
    · rename_i ok
      cases hf
      obtain ⟨a, xs, rfl, sa, ra, za, qa⟩ := rw_tup q
      cases ru
      obtain ⟨its, r1, ⟨o, ho, hcl, n, hd⟩, _⟩ := I.tuple (.inl ra.rd)
      have l1 := r1.length
      refine sortedE_of I hu sn ok r1 qa k fun E' G hG => ?_
      refine wpAny_collect_seq a (.inr rfl) ho hcl hd (fun h' hk => ?_) (by rw [List.size_toArray]; omega)
      exact hG h' s.toks hk
    · cases hf
  | dict kvs =>
    simp only at hf
    split at hf
    · rename_i ok
      cases hf
      obtain ⟨a, es, ep, rfl, rfl, lo, hr, hz, qe, qn⟩ := rw_raw I ru q
      obtain ⟨vs, q1, q2⟩ := rde_keys qe
      refine sortedE_of I hu sn ok q2 q1 k fun E' G hG => ?_
      refine PySem.W.kdu_collect (KdlSrc.rawDict lo) (I.ok.hd hc) hr hz fun h' tk acc hk hacc => ?_
      rw [items_keys hacc]
      exact hG h' tk hk
    · cases hf
  | _ => cases hf
theorem ints_of {K : PySem.W.Frag} {w : World} {S : Addr → Prop} {H : Hp} {v : V} {ds : List D} {ns : List Int} (h : Rw K w S H v (.list ds)) (e : ints? ds = some ns) : ∃ a, v = .ref a ∧ SqL K H a (ns.map V.int) := by
  obtain ⟨a, xs, rfl, ra, za, qa⟩ := rw_lst h
  rw [rvs_ints qa e] at ra
  exact ⟨a, rfl, ra.sq⟩
theorem call_sumE (hc : X.calm = true) : CallR X (.builtin "sum") (rDs X.K X.w (biF .sum)) := by
  intro pins s σ H vs us Q I rv h
  obtain ⟨S, ds, r, sn, h1, hf, k⟩ := h
  obtain ⟨v, u, d, rfl, rfl, rfl, ru, q, hf⟩ := one_of (by simp) rv h1 hf
  unfold bi1 at hf
  cases d with
  | list ds =>
    obtain ⟨ns, e, rfl⟩ := map_some hf
    obtain ⟨a, rfl, ha⟩ := ints_of q e
    exact cr_sum hc pins s σ H _ _ Q I rv ⟨a, ns, rfl, ha, rk_val0 k (.int _)⟩
  | _ => cases hf
theorem maxI_spec (ns : List Int) : ∀ n : Int, maxI n ns ∈ n :: ns ∧ ∀ y, y ∈ n :: ns → y ≤ maxI n ns := by
  induction ns with
  | nil => intro n; simp [maxI]
  | cons m ns ih =>
    intro n
    by_cases hm : m > n
    · have e : maxI n (m :: ns) = maxI m ns := by
        show maxI (if m > n then m else n) ns = _
        rw [if_pos hm]
      rw [e]
      obtain ⟨h1, h2⟩ := ih m
      refine ⟨List.mem_cons_of_mem _ h1, fun y hy => ?_⟩
      rcases List.mem_cons.mp hy with hy | hy
      · have := h2 _ (List.mem_cons_self ..)
        omega
      · exact h2 y hy
    · have e : maxI n (m :: ns) = maxI n ns := by
        show maxI (if m > n then m else n) ns = _
        rw [if_neg hm]
      rw [e]
      obtain ⟨h1, h2⟩ := ih n
      refine ⟨?_, fun y hy => ?_⟩
      · rcases List.mem_cons.mp h1 with h1 | h1
        · rw [h1]; exact List.mem_cons_self ..
        · exact List.mem_cons_of_mem _ (List.mem_cons_of_mem _ h1)
      · have h3 := h2 _ (List.mem_cons_self ..)
        rcases List.mem_cons.mp hy with hy | hy
        · omega
        · rcases List.mem_cons.mp hy with hy | hy
          · omega
          · exact h2 y (List.mem_cons_of_mem _ hy)
theorem minI_spec (ns : List Int) : ∀ n : Int, minI n ns ∈ n :: ns ∧ ∀ y, y ∈ n :: ns → minI n ns ≤ y := by
  induction ns with
  | nil => intro n; simp [minI]
  | cons m ns ih =>
    intro n
    by_cases hm : m < n
    · have e : minI n (m :: ns) = minI m ns := by
        show minI (if m < n then m else n) ns = _
        rw [if_pos hm]
      rw [e]
      obtain ⟨h1, h2⟩ := ih m
      refine ⟨List.mem_cons_of_mem _ h1, fun y hy => ?_⟩
      rcases List.mem_cons.mp hy with hy | hy
      · have := h2 _ (List.mem_cons_self ..)
        omega
      · exact h2 y hy
    · have e : minI n (m :: ns) = minI n ns := by
        show minI (if m < n then m else n) ns = _
        rw [if_neg hm]
      rw [e]
      obtain ⟨h1, h2⟩ := ih n
      refine ⟨?_, fun y hy => ?_⟩
      · rcases List.mem_cons.mp h1 with h1 | h1
        · rw [h1]; exact List.mem_cons_self ..
        · exact List.mem_cons_of_mem _ (List.mem_cons_of_mem _ h1)
      · have h3 := h2 _ (List.mem_cons_self ..)
        rcases List.mem_cons.mp hy with hy | hy
        · omega
        · rcases List.mem_cons.mp hy with hy | hy
          · omega
          · exact h2 y (List.mem_cons_of_mem _ hy)
theorem call_max1E (hc : X.calm = true) : CallR X (.builtin "max") (rDs X.K X.w (biF .max1)) := by
  intro pins s σ H vs us Q I rv h
  obtain ⟨S, ds, r, sn, h1, hf, k⟩ := h
  obtain ⟨v, u, d, rfl, rfl, rfl, ru, q, hf⟩ := one_of (by simp) rv h1 hf
  unfold bi1 at hf
  cases d with
  | list ds =>
    simp only at hf
    split at hf
    · rename_i n ns e
      cases hf
      obtain ⟨a, rfl, ha⟩ := ints_of q e
      refine cr_max hc pins s σ H _ _ Q I rv ⟨a, n :: ns, rfl, ha, by simp, fun m hm hl => ?_⟩
      obtain ⟨z1, z2⟩ := maxI_spec ns n
      have : m = maxI n ns := by
        have a1 := hl _ z1
        have a2 := z2 _ hm
        omega
      rw [this]
      exact rk_val0 k (.int _)
    · cases hf
  | _ => cases hf
theorem call_min1E (hc : X.calm = true) : CallR X (.builtin "min") (rDs X.K X.w (biF .min1)) := by
  intro pins s σ H vs us Q I rv h
  obtain ⟨S, ds, r, sn, h1, hf, k⟩ := h
  obtain ⟨v, u, d, rfl, rfl, rfl, ru, q, hf⟩ := one_of (by simp) rv h1 hf
  unfold bi1 at hf
  cases d with
  | list ds =>
    simp only at hf
    split at hf
    · rename_i n ns e
      cases hf
      obtain ⟨a, rfl, ha⟩ := ints_of q e
      refine cr_min hc pins s σ H _ _ Q I rv ⟨a, n :: ns, rfl, ha, by simp, fun m hm hl => ?_⟩
      obtain ⟨z1, z2⟩ := minI_spec ns n
      have : m = minI n ns := by
        have a1 := hl _ z1
        have a2 := z2 _ hm
        omega
      rw [this]
      exact rk_val0 k (.int _)
    · cases hf
  | _ => cases hf
theorem bools_of {K : PySem.W.Frag} {w : World} {S : Addr → Prop} {H : Hp} {v : V} {ds : List D} {ns : List Bool} (h : Rw K w S H v (.list ds)) (e : bools? ds = some ns) : ∃ a, v = .ref a ∧ SqL K H a (ns.map V.bl) := by
  obtain ⟨a, xs, rfl, ra, za, qa⟩ := rw_lst h
  rw [rvs_bools qa e] at ra
  exact ⟨a, rfl, ra.sq⟩
theorem call_allE (hc : X.calm = true) : CallR X (.builtin "all") (rDs X.K X.w (biF .all)) := by
  intro pins s σ H vs us Q I rv h
  obtain ⟨S, ds, r, sn, h1, hf, k⟩ := h
  obtain ⟨v, u, d, rfl, rfl, rfl, ru, q, hf⟩ := one_of (by simp) rv h1 hf
  unfold bi1 at hf
  cases d with
  | list ds =>
    obtain ⟨ns, e, rfl⟩ := map_some hf
    obtain ⟨a, rfl, ha⟩ := bools_of q e
    exact cr_all hc pins s σ H _ _ Q I rv ⟨a, ns, rfl, ha, rk_val0 k (.bl _)⟩
  | _ => cases hf
theorem call_anyE (hc : X.calm = true) : CallR X (.builtin "any") (rDs X.K X.w (biF .any)) := by
  intro pins s σ H vs us Q I rv h
  obtain ⟨S, ds, r, sn, h1, hf, k⟩ := h
  obtain ⟨v, u, d, rfl, rfl, rfl, ru, q, hf⟩ := one_of (by simp) rv h1 hf
  unfold bi1 at hf
  cases d with
  | list ds =>
    obtain ⟨ns, e, rfl⟩ := map_some hf
    obtain ⟨a, rfl, ha⟩ := bools_of q e
    exact cr_any hc pins s σ H _ _ Q I rv ⟨a, ns, rfl, ha, rk_val0 k (.bl _)⟩
  | _ => cases hf
theorem call_absE : CallR X (.builtin "abs") (rDs X.K X.w (biF .abs)) := by
  intro pins s σ H vs us Q I rv h
  obtain ⟨S, ds, r, sn, h1, hf, k⟩ := h
  obtain ⟨v, u, d, rfl, rfl, rfl, ru, q, hf⟩ := one_of (by simp) rv h1 hf
  unfold bi1 at hf
  cases d with
  | int i =>
    cases hf
    cases rw_int q
    exact call_abs pins s σ H _ _ Q I rv ⟨_, rfl, rk_val0 k (.int _)⟩
  | _ => cases hf
theorem call_intE : CallR X (.type "int") (rDs X.K X.w (biF .int)) := by
  intro pins s σ H vs us Q I rv h
  obtain ⟨S, ds, r, sn, h1, hf, k⟩ := h
  obtain ⟨v, u, d, rfl, rfl, rfl, ru, q, hf⟩ := one_of (by simp) rv h1 hf
  unfold bi1 at hf
  cases d with
  | int i =>
    cases hf
    cases rw_int q
    exact call_int1 pins s σ H _ _ Q I rv (.inl ⟨_, rfl, rk_val0 k (.int _)⟩)
  | bool i =>
    cases hf
    cases rw_bool q
    exact call_int1 pins s σ H _ _ Q I rv (.inr ⟨_, rfl, rk_val0 k (.int _)⟩)
  | _ => cases hf
theorem bi1_max2 (d : D) : bi1 .max2 d = none := by cases d <;> rfl
theorem bi1_min2 (d : D) : bi1 .min2 d = none := by cases d <;> rfl
theorem call_max2E (hc : X.calm = true) : CallR X (.builtin "max") (rDs X.K X.w (biF .max2)) := by
  intro pins s σ H vs us Q I rv h
  obtain ⟨S, ds, r, sn, h1, hf, k⟩ := h
  unfold biF at hf
  split at hf
  · cases hf
    obtain ⟨v, v2, rfl, q1, q2⟩ := rws2 h1
    cases rw_int q1
    cases rw_int q2
    exact call_max2 hc pins s σ H _ _ Q I rv ⟨_, _, rfl, rk_val0 k (.int _)⟩
  · rename_i z; cases z
  · rw [bi1_max2] at hf; cases hf
  · cases hf
theorem call_min2E (hc : X.calm = true) : CallR X (.builtin "min") (rDs X.K X.w (biF .min2)) := by
  intro pins s σ H vs us Q I rv h
  obtain ⟨S, ds, r, sn, h1, hf, k⟩ := h
  unfold biF at hf
  split at hf
  · rename_i z; cases z
  · cases hf
    obtain ⟨v, v2, rfl, q1, q2⟩ := rws2 h1
    cases rw_int q1
    cases rw_int q2
    exact call_min2 hc pins s σ H _ _ Q I rv ⟨_, _, rfl, rk_val0 k (.int _)⟩
  · rw [bi1_min2] at hf; cases hf
  · cases hf
end
end Ev
/-! text EvH -/
set_option Elab.async false
set_option linter.all false
set_option maxRecDepth 100000
/-! Ev: isinstance, lists and tuples of ranges. -/
namespace Ev
open PySem PySem.Spec PyProof.Rows L2
def tyName : Ty → String
  | .int => "int"
  | .bool => "bool"
  | .str => "str"
  | .tuple => "tuple"
  | .list => "list"
theorem isTy_kit {K : PySem.W.Frag} (t : Ty) (d : D) : PySem.W.kitOne K (PySem.W.dataType d) (.type (tyName t)) = some (isTy t d) := by
  cases t <;> cases d <;> exact kit_ty (by first | decide +kernel | rfl)
theorem kitAny_tys {K : PySem.W.Frag} (d : D) : ∀ ts : List Ty, PySem.W.kitAny K (PySem.W.dataType d) (ts.map fun t => .type (tyName t)) = some (ts.any fun t => isTy t d)
  | [] => rfl
  | t :: ts => by
    rw [List.map_cons, List.any_cons]
    refine kitAny_cons (isTy_kit t d) (fun h => ?_) (fun h => by rw [h]; rfl)
    rw [h, Bool.false_or]
    exact kitAny_tys d ts
section
variable {X : Cx} {pins : List (Addr × Obj)} {σ : L2.St} {S : Addr → Prop} {H : Hp} {s : Shared}
theorem kit_rw {v : V} {u : Value} {d : D} (I : Inv X pins σ H s) (r : RelV v u) (q : Rw X.K X.w S H v d) : ∃ P : Heap → Prop, PySem.W.KitX X.K u (PySem.W.dataType d) P ∧ P s.heap ∧ u ≠ .builtin "__main__.__loader__#opaque" := by
  cases d with
  | none =>
    cases q with
    | rv q => cases q; cases r; exact ⟨_, PySem.W.kitx_none, True.intro, fun z => nomatch z⟩
    | ro q => cases q
  | bool b => cases rw_bool q; cases r; exact ⟨_, PySem.W.kitx_bool, True.intro, fun z => nomatch z⟩
  | int i => cases rw_int q; obtain ⟨t, rfl⟩ := r; exact ⟨_, PySem.W.kitx_int, True.intro, fun z => nomatch z⟩
  | str i => cases rw_str q; obtain ⟨t, rfl⟩ := r; exact ⟨_, PySem.W.kitx_str, True.intro, fun z => nomatch z⟩
  | list ds =>
    obtain ⟨a, xs, rfl, ra, za, qa⟩ := rw_lst q
    cases r
    obtain ⟨its, n, r1, e1⟩ := lst_at I ra
    exact ⟨_, PySem.W.kitx_list, ⟨_, e1, rfl⟩, fun z => nomatch z⟩
  | tuple ds =>
    obtain ⟨a, xs, rfl, sa, ra, za, qa⟩ := rw_tup q
    cases r
    obtain ⟨its, r1, ⟨o, ho, hcl, n, hd⟩, _⟩ := I.tuple (.inl ra.rd)
    exact ⟨_, PySem.W.kitx_tuple, ⟨_, ho, hcl⟩, fun z => nomatch z⟩
  | dict kvs =>
    obtain ⟨a, es, ep, rfl, rfl, lo, ⟨o, ho, ex, _⟩, _⟩ := rw_raw I r q
    exact ⟨_, PySem.W.kitx_dict, ⟨o, ho, ex.1⟩, fun z => nomatch z⟩
end
def rIs1 (K : PySem.W.Frag) (w : World) (t : Ty) : List V → Hp → VK → Prop := fun vs H Q => ∃ S x d, vs = [x, .ty (tyName t)] ∧ Rw K w S H x d ∧ Q (.bl (isTy t d)) H
def rIsL (K : PySem.W.Frag) (w : World) (ts : List Ty) : List V → Hp → VK → Prop := fun vs H Q => ∃ S x d tp, vs = [x, .ref tp] ∧ H tp = some (.tup (ts.map fun t => V.ty (tyName t))) ∧ Rw K w S H x d ∧ Q (.bl (ts.any fun t => isTy t d)) H
section
variable {X : Cx}
theorem call_is1 (t : Ty) : CallR X (.builtin "isinstance") (rIs1 X.K X.w t) := by
  intro pins s σ H vs us Q I rv h
  obtain ⟨S, x, d, rfl, q, k⟩ := h
  obtain ⟨u1, u2, rfl, r1, r2⟩ := rv.two
  cases r2
  obtain ⟨P, Z, p, hx⟩ := kit_rw I r1 q
  exact PySem.W.kia_one Z I.kIn p (isTy_kit t d) hx fun tk => ⟨.bl _, H, I.tok tk, rfl, k⟩
theorem vals_ty : ∀ {ts : List Ty} {us : List Value}, Vals (ts.map fun t => V.ty (tyName t)) us → us = ts.map fun t => Value.type (tyName t)
  | [], _, h => by cases h; rfl
  | t :: ts, _, h => by
    rw [List.map_cons] at h
    cases h with
    | cons r t' =>
      cases r
      rw [vals_ty t', List.map_cons]
theorem call_isL (ts : List Ty) : CallR X (.builtin "isinstance") (rIsL X.K X.w ts) := by
  intro pins s σ H vs us Q I rv h
  obtain ⟨S, x, d, tp, rfl, ht, q, k⟩ := h
  obtain ⟨u1, u2, rfl, r1, r2⟩ := rv.two
  cases r2
  obtain ⟨P, Z, p, hx⟩ := kit_rw I r1 q
  obtain ⟨its, rt, ⟨⟨oc, od, dt, sl⟩, h1, h2, n, h3⟩, _⟩ := I.tuple (.inl (.inl ht))
  simp only at h2 h3
  subst h2 h3
  have e := vals_ty rt
  subst e
  exact PySem.W.kia_tup Z I.kIn p h1 (kitAny_tys d ts) hx fun tk => ⟨.bl _, H, I.tok tk, rfl, k⟩
variable {A : Am} {C : Ecls} {W : WX} {a b : Expr} {xa xb : M R} {pos p q : Pos}
theorem is1_imp {t : Ty} : ∀ σ H Q, tE A C W (un1 xa (isiD [t])) σ H Q → tCB (rIs1 A.K A.w t) (tCons (tE A C W xa) (tCons (tC (.ty (tyName t))) tNil)) σ H Q := by
  rintro σ H Q ⟨S, e, R, h⟩
  refine ⟨S, e, R, h.bnd.imp fun ra e1 S1 H1 R1 M1 ⟨_, h1⟩ v1 q1 _ => ?_⟩
  obtain ⟨da, hda, h3⟩ := rdM_of h1
  obtain ⟨r, hr, h5⟩ := opt_of h3
  cases hr
  refine ⟨S1, v1, da, rfl, q1.rw R1 hda, ?_⟩
  have := h5 S1 H1 R1 .refl (.bl (isTy t da)) (.val (by simpa using Rv.bl _)) (fun _ _ z => nomatch z)
  exact this
theorem isL_imp {ts : List Ty} : ∀ σ H Q, tE A C W (un1 xa (isiD ts)) σ H Q → ts.length ≤ sizeLine → tCB (rIsL A.K A.w ts) (tCons (tE A C W xa) (tCons (tTup (fun σ H Q => Q (ts.map fun t => V.ty (tyName t)) H)) tNil)) σ H Q := by
  rintro σ H Q ⟨S, e, R, h⟩ hz
  refine ⟨S, e, R, h.bnd.imp fun ra e1 S1 H1 R1 M1 ⟨_, h1⟩ v1 q1 _ => ?_⟩
  obtain ⟨da, hda, h3⟩ := rdM_of h1
  obtain ⟨r, hr, h5⟩ := opt_of h3
  cases hr
  refine ⟨by rw [List.length_map]; exact hz, fun p hp => ⟨S1, v1, da, p, rfl, upd_same, ?_, ?_⟩⟩
  · exact (q1.mono R1 (.new R1 hp)).rw (R1.new hp) hda
  · exact h5 _ _ (R1.new hp) (.new R1 hp) _ (.val (.bl _)) (fun _ _ z => nomatch z)
theorem pe_is1E {t : Ty} (hK : X.K = A.K) (hw : X.w = A.w) (hg : Gl X "isinstance") (hm : X.mg "isinstance" = none) (ha : PE X a (tE A C W xa)) (hb : PE X b (tC (.ty (tyName t))))
    (h1 : starEach [a, b] X.env = (false, eval a X.env) :: starEach [b] X.env) (h2 : starEach [b] X.env = (false, eval b X.env) :: starEach [] X.env) (hpl : (backTo pos (starEach [b] X.env)).any (·.1) = false) :
    PE X (.Call (.Name "isinstance" p) [a, b] [] pos) (tE A C W (un1 xa (isiD [t]))) :=
  PE.imp (pe_callB (call_is1 t) hg hm (by rfl) (pa_cons ha (pa_cons hb pa_nil h2) h1) (by decide) (by decide) h1 hpl) (by rw [hK, hw]; exact is1_imp)
theorem pe_isLE {ts : List Ty} {es : List Expr} {k : Nat} {pt : Pos} (hK : X.K = A.K) (hw : X.w = A.w) (hg : Gl X "isinstance") (hm : X.mg "isinstance" = none) (ha : PE X a (tE A C W xa)) (hb : PA X es (fun σ H Q => Q (ts.map fun t => V.ty (tyName t)) H)) (hz : ts.length ≤ sizeLine)
    (h1 : starEach [a, .Tuple es k pt] X.env = (false, eval a X.env) :: starEach [.Tuple es k pt] X.env) (h2 : starEach [.Tuple es k pt] X.env = (false, eval (.Tuple es k pt) X.env) :: starEach [] X.env) (hpl : (backTo pos (starEach [.Tuple es k pt] X.env)).any (·.1) = false) :
    PE X (.Call (.Name "isinstance" p) [a, .Tuple es k pt] [] pos) (tE A C W (un1 xa (isiD ts))) :=
  PE.imp (pe_callB (call_isL ts) hg hm (by rfl) (pa_cons ha (pa_cons (pe_tup hb) pa_nil h2) h1) (by decide) (by decide) h1 hpl) (by rw [hK, hw]; exact fun σ H Q h => isL_imp σ H Q h hz)

/-! ### list(range(..)), tuple(range(..)) -/
theorem rgV_rvs {K : PySem.W.Frag} {w : World} {S : Addr → Prop} {H : Hp} (a b : Int) : Rvs K w S H (rgV a b) ((List.range (b - a).toNat).map fun (i : Nat) => PyData.int (a + (i : Int))) := by
  unfold rgV
  generalize List.range (b - a).toNat = l
  induction l with
  | nil => exact .nil
  | cons i l ih => exact .cons (.int _) ih
theorem rangeD_of {i j : Int} {ds : List D} (h : rangeD i j = some ds) : RgOk i j ∧ ds = (List.range (j - i).toNat).map fun (k : Nat) => PyData.int (i + (k : Int)) := by
  unfold rangeD at h
  split at h
  · rename_i z
    cases h
    simp only [Bool.and_eq_true, decide_eq_true_eq] at z
    refine ⟨⟨z.1.1.1.1, z.1.1.1.2, z.1.1.2, z.1.2, ?_⟩, rfl⟩
    have := z.2
    unfold sz at this
    omega
  · cases h
def tRg (A : Am) (C : Ecls) (W : WX) (xa xb : M R) (f : D → D → Option R) : L2.St → Hp → (Int → Int → Hp → Prop) → Prop := fun σ H Q => ∃ S e, Rl A S e σ H ∧ Res A C W σ S H e (bnd xa (fun ra => bnd xb fun rb => bnd (rdM ra) fun da => bnd (rdM rb) fun db => ret (da, db)) e) fun p e' S' H' => ∃ i j, p = (.int i, .int j) ∧ Q i j H'
theorem rg2_imp {f : D → D → Option R} : ∀ σ H Q, tRg A C W xa xb f σ H Q → tRg2 (tE A C W xa) (tE A C W xb) σ H Q := by
  rintro σ H Q ⟨S, e, R, h⟩
  refine ⟨S, e, R, h.bnd.imp fun ra e1 S1 H1 R1 M1 ⟨_, h1⟩ v1 q1 _ => ⟨S1, e1, R1, h1.bnd.imp fun rb e2 S2 H2 R2 M2 ⟨_, h2⟩ v2 q2 _ => ?_⟩⟩
  obtain ⟨da, hda, h3⟩ := rdM_of h2
  obtain ⟨db, hdb, h4⟩ := rdM_of h3
  obtain ⟨i, j, e, q⟩ := h4 S2 H2 R2 .refl
  cases e
  exact ⟨i, j, rw_int ((q1.mono R1 M2).rw R2 hda), rw_int (q2.rw R2 hdb), q⟩
theorem rg1_imp {f : D → D → Option R} : ∀ σ H Q, tRg A C W (ret (.val (.int 0))) xb f σ H Q → tRg1 (tE A C W xb) σ H Q := by
  rintro σ H Q ⟨S, e, R, h⟩
  have h : Res A C W σ S H e (bnd xb (fun rb => bnd (rdM (.val (.int 0))) fun da => bnd (rdM rb) fun db => ret (da, db)) e) fun p e' S' H' => ∃ i j, p = (.int i, .int j) ∧ Q i j H' := h
  refine ⟨S, e, R, h.bnd.imp fun rb e2 S2 H2 R2 M2 ⟨_, h2⟩ v2 q2 _ => ?_⟩
  obtain ⟨da, hda, h3⟩ := rdM_of h2
  obtain ⟨db, hdb, h4⟩ := rdM_of h3
  obtain ⟨i, j, e, q⟩ := h4 S2 H2 R2 .refl
  cases e
  cases hda
  exact ⟨j, rw_int (q2.rw R2 hdb), q⟩
theorem PRg.imp {e : Expr} {t t' : L2.St → Hp → (Int → Int → Hp → Prop) → Prop} (h : PRg X e t) (i : ∀ σ H Q, t' σ H Q → t σ H Q) : PRg X e t' := fun pins s σ H Q I q => h pins s σ H Q I (i σ H Q q)
theorem prg_2E {f : D → D → Option R} (hg : Gl X "range") (hm : X.mg "range" = none) (ha : PE X a (tE A C W xa)) (hb : PE X b (tE A C W xb)) (na : starEach [a, b] X.env = (false, eval a X.env) :: starEach [b] X.env)
    (nb : starEach [b] X.env = (false, eval b X.env) :: starEach [] X.env) (hp : (backTo pos (starEach [b] X.env)).any (·.1) = false) : PRg X (.Call (.Name "range" p) [a, b] [] pos) (tRg A C W xa xb f) := PRg.imp (prg_2 hg hm ha hb na nb hp) rg2_imp
theorem prg_1E {f : D → D → Option R} (hg : Gl X "range") (hm : X.mg "range" = none) (hb : PE X b (tE A C W xb)) (nb : starEach [b] X.env = (false, eval b X.env) :: starEach [] X.env) : PRg X (.Call (.Name "range" p) [b] [] pos) (tRg A C W (ret (.val (.int 0))) xb f) := PRg.imp (prg_1 hg hm hb nb) rg1_imp
/-- two operands read -/
theorem res_pair {f : D → D → Option R} {σ : L2.St} {S : Addr → Prop} {H : Hp} {e : VEnv} {P : R → VEnv → (Addr → Prop) → Hp → Prop} {G : Int → Int → Hp → Prop} (h : Res A C W σ S H e (bin2 xa xb f e) P)
    (hf : ∀ x y r, f x y = some r → ∃ i j, x = .int i ∧ y = .int j)
    (i : ∀ i j e' S' H' r, Rl A S' e' σ H' → Mn e σ S H e' S' H' → f (.int i) (.int j) = some r → (∀ S'' H'', Rl A S'' e' σ H'' → Mn e' σ S' H' e' S'' H'' → P r e' S'' H'') → G i j H') :
    Res A C W σ S H e (bnd xa (fun ra => bnd xb fun rb => bnd (rdM ra) fun da => bnd (rdM rb) fun db => ret (da, db)) e) fun p e' S' H' => ∃ i j, p = (.int i, .int j) ∧ G i j H' := by
  unfold bin2 bnd at h
  unfold bnd
  cases qa : xa e with
  | bad => rw [qa] at h; exact h
  | exc c e1 => rw [qa] at h; exact h
  | ok ra e1 =>
    rw [qa] at h
    simp only at h ⊢
    cases qb : xb e1 with
    | bad => rw [qb] at h; exact h
    | exc c e2 => rw [qb] at h; exact h
    | ok rb e2 =>
      rw [qb] at h
      simp only [rdM] at h ⊢
      cases q1 : rd e2 ra with
      | none => simp only [q1] at h; exact h.elim
      | some da =>
        simp only [q1] at h ⊢
        cases q2 : rd e2 rb with
        | none => simp only [q2] at h; exact h.elim
        | some db =>
          simp only [q2] at h ⊢
          cases q3 : f da db with
          | none => rw [q3] at h; exact h.elim
          | some r =>
            rw [q3] at h
            obtain ⟨i', j', rfl, rfl⟩ := hf _ _ _ q3
            intro S' H' R' M'
            exact ⟨i', j', rfl, i i' j' e2 S' H' r R' M' q3 fun S'' H'' R'' M'' => h S'' H'' R'' (M'.trans M'')⟩
theorem pe_rngLE {e : Expr} (hc : X.calm = true) (hg : Gl X "list") (hm : X.mg "list" = none) (he : PRg X e (tRg A C W xa xb rngLD)) (na : starEach [e] X.env = (false, eval e X.env) :: starEach [] X.env) : PE X (.Call (.Name "list" p) [e] [] pos) (tE A C W (bin2 xa xb rngLD)) := by
  refine PE.imp (pe_listRg hc hg hm he na) ?_
  rintro σ H Q ⟨S, e, R, h⟩
  refine ⟨S, e, R, res_pair h (fun x y r hr => ?_) fun i j e' S' H' r R' M' hr k => ?_⟩
  · cases x <;> cases y <;> first | exact ⟨_, _, rfl, rfl⟩ | cases hr
  · obtain ⟨ds, hd, rfl⟩ := map_some (show (rangeD i j).map (fun ds => Ev.R.fresh (.list ds)) = some r from hr)
    obtain ⟨ok, rfl⟩ := rangeD_of hd
    refine ⟨ok, fun q hq => ?_⟩
    have zl : (rgV i j).length ≤ sizeLine := by rw [rgV_length, sizeLine_eq]; have := ok.2.2.2.2; omega
    exact k _ _ (R'.new hq) (.new R' hq) _ (.fresh (R'.notS hq) (R'.h0 hq) (R'.notOwn hq) (.lst upd_same zl (rgV_rvs i j))) (fun _ a _ z => by
      cases z
      cases q' : H q with
      | none => rfl
      | some o => exact absurd hq (M'.st q (by rw [q']; simp)))
def tTupRgX (te : L2.St → Hp → (Int → Int → Hp → Prop) → Prop) : TE := fun σ H Q => te σ H fun a b H1 => RgOk a b ∧ ∀ q o, H1 q = none → o.dict = none → Q (.ref q) (upd H1 q (.frz o (.tup (rgV a b))))
theorem pe_tupRgX {e : Expr} {te : L2.St → Hp → (Int → Int → Hp → Prop) → Prop} (hc : X.calm = true) (hg : Gl X "tuple") (hm : X.mg "tuple" = none) (he : PRg X e te) (na : starEach [e] X.env = (false, eval e X.env) :: starEach [] X.env) : PE X (.Call (.Name "tuple" p) [e] [] pos) (tTupRgX te) := by
  refine ⟨fun pins s σ H Q I h => ?_⟩
  refine Call_ (ld_blt I hg hm boot_tuple (PyProof.Rows.callWith_type1 (args_cons (thn (he pins s σ H _ I h) fun x s1 ⟨r, a, b, t, u, v, H1, ex, hr, I1, ok, q⟩ => args_nil ?_) na) na))
  subst ex
  obtain ⟨b1, b2, b3, b4, b5⟩ := ok
  refine call_tuple_range (n := (b - a).toNat) (I1.ok.hd hc) hr (small_one b1 b2 b3 b4) (rangeSize_nat a b) b5 fun h' tk acc hk hi => ?_
  have I2 : Inv X pins σ H1 { s1 with heap := h', toks := tk } := I1.kept hk
  have zl : (rgV a b).length ≤ sizeLine := by rw [rgV_length, sizeLine_eq]; omega
  have z := new_tup (Q := Q) (tk := tk) I2 (vals_rg hi) zl (q · · · ·)
  simpa using z
theorem pe_rngTE {e : Expr} (hc : X.calm = true) (hg : Gl X "tuple") (hm : X.mg "tuple" = none) (he : PRg X e (tRg A C W xa xb rngTD)) (na : starEach [e] X.env = (false, eval e X.env) :: starEach [] X.env) : PE X (.Call (.Name "tuple" p) [e] [] pos) (tE A C W (bin2 xa xb rngTD)) := by
  refine PE.imp (pe_tupRgX hc hg hm he na) ?_
  rintro σ H Q ⟨S, e, R, h⟩
  refine ⟨S, e, R, res_pair h (fun x y r hr => ?_) fun i j e' S' H' r R' M' hr k => ?_⟩
  · cases x <;> cases y <;> first | exact ⟨_, _, rfl, rfl⟩ | cases hr
  · obtain ⟨ds, hd, rfl⟩ := map_some (show (rangeD i j).map (fun ds => Ev.R.val (.tuple ds)) = some r from hr)
    obtain ⟨ok, rfl⟩ := rangeD_of hd
    refine ⟨ok, fun q o hq ho => ?_⟩
    have zl : (rgV i j).length ≤ sizeLine := by rw [rgV_length, sizeLine_eq]; have := ok.2.2.2.2; omega
    exact k _ _ (R'.add hq) (.add R' hq) _ (.val (.tup (.inr rfl) ⟨o, ho, upd_same⟩ zl (rgV_rvs i j))) (fun _ _ z => nomatch z)
end
end Ev
/-! text EvI -/
set_option Elab.async false
set_option linter.all false
set_option maxRecDepth 100000
/-! Ev: targets. -/
namespace Ev
open PySem PySem.Spec PyProof.Rows L2
mutual
/-- the slots of a target -/
def Tg.sl : Tg → List Nat
  | .nm i => [i]
  | .tp ts => Tg.sls ts
def Tg.sls : List Tg → List Nat
  | [] => []
  | t :: ts => t.sl ++ Tg.sls ts
end
/-- other slots stay -/
def Same (vs : List Nat) (σ σ' : L2.St) : Prop := σ'.length = σ.length ∧ ∀ i, i ∉ vs → σ'[i]? = σ[i]?
theorem Same.refl {vs : List Nat} {σ : L2.St} : Same vs σ σ := ⟨rfl, fun _ _ => rfl⟩
theorem Same.trans {vs us : List Nat} {σ σ' σ'' : L2.St} (a : Same vs σ σ') (b : Same us σ' σ'') : Same (vs ++ us) σ σ'' :=
  ⟨b.1.trans a.1, fun i h => by rw [List.mem_append, not_or] at h; rw [b.2 i h.2, a.2 i h.1]⟩
theorem Same.sub {vs us : List Nat} {σ σ' : L2.St} (a : Same vs σ σ') (h : ∀ i, i ∈ vs → i ∈ us) : Same us σ σ' := ⟨a.1, fun i hi => a.2 i fun z => hi (h i z)⟩
theorem Same.set {σ : L2.St} {i : Nat} {v : Option V} : Same [i] σ (σ.set i v) := ⟨List.length_set, fun j h => by
  rw [List.getElem?_set_ne]; intro z; exact h (by simp [z])⟩
theorem wipe_get {σ : L2.St} {i : Nat} : ∀ vs : List Nat, (wipe σ vs)[i]? = if i ∈ vs then σ[i]?.map (fun _ => none) else σ[i]?
  | [] => by simp [wipe]
  | v :: vs => by
    have ih := wipe_get (σ := σ) (i := i) vs
    unfold wipe
    by_cases h : i = v
    · subst h
      rw [if_pos (by simp)]
      have hl := wipe_length σ vs
      by_cases hi : i < σ.length
      · rw [List.getElem?_set_self (by rw [hl]; exact hi), List.getElem?_eq_getElem hi]; rfl
      · rw [List.getElem?_eq_none (by rw [List.length_set, hl]; omega), List.getElem?_eq_none (by omega)]; rfl
    · rw [List.getElem?_set_ne (Ne.symm h), ih]
      simp [h]
theorem Same.wipe {vs : List Nat} {σ σ' : L2.St} (a : Same vs σ σ') : L2.wipe σ' vs = L2.wipe σ vs := by
  refine List.ext_getElem? fun i => ?_
  rw [wipe_get, wipe_get]
  by_cases h : i ∈ vs
  · rw [if_pos h, if_pos h]
    by_cases hi : i < σ.length
    · rw [List.getElem?_eq_getElem hi, List.getElem?_eq_getElem (by rw [a.1]; exact hi)]; rfl
    · rw [List.getElem?_eq_none (l := σ') (by have := a.1; omega), List.getElem?_eq_none (l := σ) (by omega)]
  · rw [if_neg h, if_neg h, a.2 i h]

section
variable {X : Cx} {A : Am} {C : Ecls} {W : WX} {S : Addr → Prop} {e e' : VEnv} {σ : L2.St} {H : Hp}
theorem getD_set (e : VEnv) (i j : Nat) (s : Slot) (h : i < e.length) : (e.set i s).getD j .no = if j = i then s else e.getD j .no := by
  by_cases hj : j = i
  · subst hj; simp [List.getD, h]
  · simp [List.getD, List.getElem?_set_ne (Ne.symm hj), hj]
/-- a slot takes another value -/
theorem Rl.put {i : Nat} {s : Slot} {v : V} (R : Rl A S e σ H) (hi : i < e.length) (hio : ∀ d, e.getD i .no ≠ .io d)
    (hs : (s = .no) ∨ (∃ d, s = .im d ∧ Rv A.K A.w S H v d) ∨ ∃ d a, s = .ow d ∧ v = .ref a ∧ ¬ S a ∧ A.H0 a = none ∧ ¬ Wd e σ a ∧ Ro A.K A.w S H a d) : Rl A S (e.set i s) (σ.set i (some v)) H := by
  have hl : i < σ.length := Nat.lt_of_lt_of_le hi R.len
  have g := fun j => getD_set e i j s hi
  have gs : ∀ j, (σ.set i (some v))[j]? = if j = i then some (some v) else σ[j]? := fun j => by
    by_cases hj : j = i
    · subst hj; rw [if_pos rfl, List.getElem?_set_self hl]
    · rw [if_neg hj, List.getElem?_set_ne (Ne.symm hj)]
  refine ⟨by rw [List.length_set, List.length_set]; exact R.len, fun j d hj => ?_, fun j d hj => ?_, fun j d hj => ?_, fun j k a hj hk ha hb => ?_, R.fr, R.s0, R.s1, R.sn, R.ion, R.io0⟩
  · rw [g] at hj
    by_cases hji : j = i
    · rw [if_pos hji] at hj
      rcases hs with rfl | ⟨d', rfl, hv⟩ | ⟨d', a, rfl, _⟩
      · cases hj
      · cases hj
        exact ⟨v, by rw [gs, if_pos hji], hv⟩
      · cases hj
    · rw [if_neg hji] at hj
      obtain ⟨u, z1, z2⟩ := R.im j d hj
      exact ⟨u, by rw [gs, if_neg hji]; exact z1, z2⟩
  · rw [g] at hj
    by_cases hji : j = i
    · rw [if_pos hji] at hj
      rcases hs with rfl | ⟨d', rfl, hv⟩ | ⟨d', a, rfl, rfl, q1, q2, q3, q4⟩
      · cases hj
      · cases hj
      · cases hj
        exact ⟨a, by rw [gs, if_pos hji], q1, q2, q4⟩
    · rw [if_neg hji] at hj
      obtain ⟨u, z1, z2⟩ := R.ow j d hj
      exact ⟨u, by rw [gs, if_neg hji]; exact z1, z2⟩
  · rw [g] at hj
    by_cases hji : j = i
    · rw [if_pos hji] at hj
      rcases hs with rfl | ⟨d', rfl, hv⟩ | ⟨d', a, rfl, _⟩ <;> cases hj
    · rw [if_neg hji] at hj
      obtain ⟨u, z1, z2⟩ := R.io j d hj
      exact ⟨u, by rw [gs, if_neg hji]; exact z1, z2⟩
  · have low : ∀ j, j ≠ i → Own (e.set i s) j → Own e j := fun j hji ⟨d, hj⟩ => by
      rw [g, if_neg hji] at hj; exact ⟨d, hj⟩
    rw [gs] at ha hb
    by_cases hji : j = i <;> by_cases hki : k = i
    · rw [hji, hki]
    · rw [if_pos hji] at ha
      rw [if_neg hki] at hb
      exfalso
      subst hji
      obtain ⟨d, hj⟩ := hj
      rw [g, if_pos rfl] at hj
      rcases hs with rfl | ⟨d', rfl, hv⟩ | ⟨d', a', rfl, rfl, q1, q2, q3, q4⟩
      · rcases hj with hj | hj <;> cases hj
      · rcases hj with hj | hj <;> cases hj
      · cases ha
        exact q3 ⟨k, low k hki hk, hb⟩
    · rw [if_neg hji] at ha
      rw [if_pos hki] at hb
      exfalso
      subst hki
      obtain ⟨d, hk⟩ := hk
      rw [g, if_pos rfl] at hk
      rcases hs with rfl | ⟨d', rfl, hv⟩ | ⟨d', a', rfl, rfl, q1, q2, q3, q4⟩
      · rcases hk with hk | hk <;> cases hk
      · rcases hk with hk | hk <;> cases hk
      · cases hb
        exact q3 ⟨j, low j hji hj, ha⟩
    · rw [if_neg hji] at ha
      rw [if_neg hki] at hb
      exact R.dis j k a (low j hji hj) (low k hki hk) ha hb
theorem bind1_of {i : Nat} {s : Slot} {e' : VEnv} (h : bind1 i s e = .ok () e') : i < e.length ∧ (∀ d, e.getD i .no ≠ .io d) ∧ e' = e.set i s := by
  unfold bind1 at h
  cases q : e.getD i .no with
  | io d => simp only [q] at h; cases h
  | no =>
    simp only [q] at h
    split at h
    · rename_i hl; cases h; exact ⟨hl, (fun d z => nomatch z), rfl⟩
    · cases h
  | im d =>
    simp only [q] at h
    split at h
    · rename_i hl; cases h; exact ⟨hl, (fun d z => nomatch z), rfl⟩
    · cases h
  | ow d =>
    simp only [q] at h
    split at h
    · rename_i hl; cases h; exact ⟨hl, (fun d z => nomatch z), rfl⟩
    · cases h
/-- a pair as an iterator gives it -/
def Wk (K : PySem.W.Frag) (w : World) (S : Addr → Prop) (H : Hp) (x : V) (d : D) : Prop := ∃ T xs ds, x = .ref T ∧ H T = some (.tup xs) ∧ d = .tuple ds ∧ Rvs K w S H xs ds
/-- held, or (b) a pair just given -/
def Ry (b : Bool) (K : PySem.W.Frag) (w : World) (S : Addr → Prop) (H : Hp) (x : V) (d : D) : Prop := Rv K w S H x d ∨ (b = true ∧ Wk K w S H x d)
def gT (A : Am) (b : Bool) (tg : Tg) : TG := fun x σ H Q => ∃ S e d e', Rl A S e σ H ∧ Ry b A.K A.w S H x d ∧ bindT tg d e = .ok () e' ∧ ∀ σ', Rl A S e' σ' H → Same tg.sl σ σ' → Q σ' H
def gTw (A : Am) (ts : List Tg) : TG := fun x σ H Q => ∃ S e d e', Rl A S e σ H ∧ (Rw A.K A.w S H x d ∨ Wk A.K A.w S H x d) ∧ bindT (.tp ts) d e = .ok () e' ∧ ∀ σ', Rl A S e' σ' H → Same (Tg.sls ts) σ σ' → Q σ' H
def gTs (A : Am) (ts : List Tg) : TGs := fun xs σ H Q => ∃ S e ds e', Rl A S e σ H ∧ Rvs A.K A.w S H xs ds ∧ bindTs ts ds e = .ok () e' ∧ ∀ σ', Rl A S e' σ' H → Same (Tg.sls ts) σ σ' → Q σ' H
theorem PG.imp {t : Expr} {g g' : TG} (h : PG X t g) (i : ∀ v σ H Q, g' v σ H Q → g v σ H Q) : PG X t g' := ⟨fun pins s σ H v u Q I r q => h.run pins s σ H v u Q I r (i v σ H Q q)⟩
theorem PGs.imp {t : List Expr} {g g' : TGs} (h : PGs X t g) (i : ∀ v σ H Q, g' v σ H Q → g v σ H Q) : PGs X t g' := ⟨fun pins s σ H v u Q I r q => h.run pins s σ H v u Q I r (i v σ H Q q)⟩
theorem pg_nameE {i : Nat} {x : Str} {pos : Pos} (hN : X.N.Nodup) (hi : X.N[i]? = some x) (hx : Loc X.env.scope x) (hf : X.fn x = true ∨ X.env.scope.names.lookup x = some .local) : PG X (.Name x pos) (gT A false (.nm i)) := by
  refine PG.imp (pg_name hN hi hx hf) ?_
  rintro v σ H Q ⟨S, e, d, e', R, hv, hb, q⟩
  obtain ⟨h1, h2, rfl⟩ := bind1_of (by simpa [bindT] using hb)
  have hv := hv.resolve_right (fun z => nomatch z.1)
  exact q _ (R.put h1 h2 (.inr (.inl ⟨d, rfl, hv⟩))) Same.set
theorem pgs_nilE : PGs X [] (gTs A []) := by
  refine PGs.imp pgs_nil ?_
  rintro v σ H Q ⟨S, e, ds, e', R, hv, hb, q⟩
  cases ds with
  | nil =>
    cases hv
    have hb : (O.ok () e : O Unit) = .ok () e' := by simpa [bindTs, ret] using hb
    cases hb
    exact ⟨rfl, q _ R Same.refl⟩
  | cons d ds => simp [bindTs, bad] at hb
theorem pgs_consE {t : Expr} {ts : List Expr} {tg : Tg} {tgs : List Tg} (h1 : PG X t (gT A false tg)) (h2 : PGs X ts (gTs A tgs)) (hs : (assignEach (t :: ts) X.env).map (·.2) = assign t X.env :: (assignEach ts X.env).map (·.2)) : PGs X (t :: ts) (gTs A (tg :: tgs)) := by
  refine PGs.imp (pgs_cons h1 h2 hs) ?_
  rintro v σ H Q ⟨S, e, ds, e', R, hv, hb, q⟩
  cases ds with
  | nil => simp [bindTs, bad] at hb
  | cons d ds =>
    cases hv with
    | @cons x xs _ _ hv1 hv2 =>
      have hb : bnd (bindT tg d) (fun _ => bindTs tgs ds) e = .ok () e' := by simpa [bindTs] using hb
      unfold bnd at hb
      cases q1 : bindT tg d e with
      | bad => rw [q1] at hb; cases hb
      | exc c e1 => rw [q1] at hb; cases hb
      | ok u e1 =>
        rw [q1] at hb
        refine ⟨x, xs, rfl, S, e, d, e1, R, .inl hv1, q1, fun σ1 R1 s1 => ⟨S, e1, ds, e', R1, hv2, hb, fun σ2 R2 s2 => q σ2 R2 ?_⟩⟩
        exact s1.trans s2
theorem seq_rw {d : D} {ds : List D} {x : V} {K : PySem.W.Frag} {w : World} (h : Rw K w S H x d) (hd : seq? d = some ds) : ∃ a xs, x = .ref a ∧ (SqL K H a xs ∨ SqT K H a xs) ∧ Rvs K w S H xs ds := by
  cases d with
  | list es =>
    cases hd
    obtain ⟨a, xs, rfl, ra, za, qa⟩ := rw_lst h
    exact ⟨a, xs, rfl, .inl ra.sq, qa⟩
  | tuple es =>
    cases hd
    obtain ⟨a, xs, rfl, sa, ra, za, qa⟩ := rw_tup h
    exact ⟨a, xs, rfl, .inr (.inl ra.rd), qa⟩
  | _ => cases hd
theorem PG.or {t : Expr} {g g' : TG} (h : PG X t g) (h' : PG X t g') : PG X t (fun v σ H Q => g v σ H Q ∨ g' v σ H Q) := ⟨fun pins s σ H v u Q I r q => q.elim (h.run pins s σ H v u Q I r) (h'.run pins s σ H v u Q I r)⟩
theorem pg_tpW {es : List Expr} {k : Nat} {tgs : List Tg} {pos : Pos} (hK : X.K = A.K) (hc : X.calm = true) (h : PGs X es (gTs A tgs)) (hn : (assignEach es X.env).length = tgs.length) (hst : (assignEach es X.env).findIdx? (·.1) = none) : PG X (.Tuple es k pos) (gTw A tgs) := by
  refine PG.imp (PG.or (pg_tup hc h hn hst) (pg_lst hc h hn hst)) ?_
  rintro v σ H Q ⟨S, e, d, e', R, hv, hb, q⟩
  unfold bindT at hb
  cases hd : seq? d with
  | none => simp only [hd] at hb; cases hb
  | some ds =>
    simp only [hd] at hb
    obtain ⟨a, xs, rfl, hs, qs⟩ : ∃ a xs, v = .ref a ∧ (SqL A.K H a xs ∨ SqT A.K H a xs) ∧ Rvs A.K A.w S H xs ds := by
      rcases hv with hv | ⟨T, xs, es, rfl, hT, rfl, qs⟩
      · exact seq_rw hv hd
      · cases hd
        exact ⟨T, xs, rfl, .inr (.inl (.inl hT)), qs⟩
    have hl : ∀ (tgs : List Tg) (ds : List D) (e e' : VEnv), bindTs tgs ds e = .ok () e' → ds.length = tgs.length := by
      intro tgs
      induction tgs with
      | nil => intro ds e e' h; cases ds with
        | nil => rfl
        | cons d ds => simp [bindTs, bad] at h
      | cons t ts ih => intro ds e e' h; cases ds with
        | nil => simp [bindTs, bad] at h
        | cons d ds =>
          have h : bnd (bindT t d) (fun _ => bindTs ts ds) e = .ok () e' := by simpa [bindTs] using h
          unfold bnd at h
          cases q1 : bindT t d e with
          | bad => rw [q1] at h; cases h
          | exc c e1 => rw [q1] at h; cases h
          | ok u e1 => rw [q1] at h; exact congrArg Nat.succ (ih _ _ _ h)
    have hl' := hl _ _ _ _ hb
    rw [hK]
    rcases hs with hs | hs
    · exact .inr ⟨a, xs, rfl, hs, by rw [qs.length, hl'], S, e, ds, e', R, qs, hb, q⟩
    · exact .inl ⟨a, xs, rfl, hs, by rw [qs.length, hl'], S, e, ds, e', R, qs, hb, q⟩
theorem pg_tpE {b : Bool} {es : List Expr} {k : Nat} {tgs : List Tg} {pos : Pos} (hK : X.K = A.K) (hc : X.calm = true) (h : PGs X es (gTs A tgs)) (hn : (assignEach es X.env).length = tgs.length) (hst : (assignEach es X.env).findIdx? (·.1) = none) : PG X (.Tuple es k pos) (gT A b (.tp tgs)) := by
  refine PG.imp (pg_tpW hK hc h hn hst) ?_
  rintro v σ H Q ⟨S, e, d, e', R, hv, hb, q⟩
  exact ⟨S, e, d, e', R, hv.elim (fun z => .inl (.rv z)) (fun z => .inr z.2), hb, fun σ' R' s => q σ' R' (by simpa [Tg.sl] using s)⟩
end
end Ev
/-! text EvJ -/
set_option Elab.async false
set_option linter.all false
set_option maxRecDepth 100000
/-! Ev: what is walked. -/
namespace Ev
open PySem PySem.Spec PyProof.Rows L2
/-- a dict's keys, the dict held -/
def ItK (a : Addr) (o : Obj) (es : Array DictEntry) : L2.It :=
  ⟨fun i H => H a = some (ObjO a o) ∧ i < es.size, fun i H x H' => H' = H ∧ ∃ hi : i < es.size, RelV x es[i].key, fun i H => H a = some (ObjO a o) ∧ es.size ≤ i⟩
/-- the keys are values of the layer -/
def AbsKeys (es : Array DictEntry) : Prop := ∀ i (hi : i < es.size), ∃ x : V, RelV x es[i].key
theorem turn_keysE {P : Program} {w : World} {K : PySem.W.Frag} {tg : Expr} {a it : Addr} {o : Obj} {es : Array DictEntry} {ep : Nat} (hx : o.ExactDict) (hd : o.data = .dict es ep) (ha : AbsKeys es) : Turn P w K tg (ItK a o es) [it] it (fun i h => h.IsKeyIter it a i es.size ep) where
  mem := by simp
  obj := fun i h st b hb => by
    have e : b = it := by simpa using hb
    subst e
    obtain ⟨oi, e, c, dd⟩ := st
    exact ⟨oi, e, fun v z => by rw [dd] at z; cases z⟩
  keep := fun i h h' st k => st.at fun oi e => k it (by simp) oi e
  item := by
    intro X hP hw hK hc i pins s σ H E I hf st hg
    subst hP hw hK
    obtain ⟨hH, hi⟩ := hg
    obtain ⟨f0, f1, f2, f3, f4, f5⟩ := hf it (by simp)
    have raw : s.heap.DictRaw a es ep := ⟨o, obj_of I hH, hx, hd⟩
    refine wpAny_pyNext_keys_item_raw st raw hi fun h' st' sb => ?_
    have I1 : Inv X pins σ H { s with heap := h' } := I.turned (t' := s.toks) (fun b ob hb e => (sb.2 b hb).trans e) f0 f1 f3 f4 f5
    obtain ⟨oi, e, c, dd⟩ := id st'
    obtain ⟨x, rx⟩ := ha i hi
    exact ⟨_, rfl, go_of (s := { s with heap := h' }) e c dd (by decide) ⟨x, H, I1, rx, ⟨rfl, hi, rx⟩, st', fun b hb => (hf b hb).1⟩⟩
  done := by
    intro X hP hw hK hc i pins s σ H E I hf st hg
    subst hP hw hK
    obtain ⟨hH, hi⟩ := hg
    obtain ⟨f0, f1, f2, f3, f4, f5⟩ := hf it (by simp)
    have raw : s.heap.DictRaw a es ep := ⟨o, obj_of I hH, hx, hd⟩
    exact wpAny_pyNext_keys_end_raw (I.ok.hd hc) st raw hi fun h' eb => ⟨rfl, I.turned (t' := s.toks) (fun b o hb e => eb b o hb e) f0 f1 f3 f4 f5⟩
  self := fun A i s Q E st h => wpAny_pyIter_keyiter st h
/-- new at most one object -/
def Ext2 (H H' : Hp) : Prop := H' = H ∨ ∃ p o, H p = none ∧ H' = upd H p o
/-- an iterator over data -/
def WalkD (b : Bool) (K : PySem.W.Frag) (w : World) (J : L2.It) (ds : List D) (S : Addr → Prop) (H : Hp) : Prop :=
  ∃ G Y, Walk J ds.length G Y ∧ (∀ S' H', Kp S H S' H' → G H') ∧ ∀ i S2 H2 x H3, i < ds.length → Kp S H S2 H2 → (∀ a, S2 a → H2 a ≠ none) → Y i H2 x H3 → ∃ d, Ext2 H2 H3 ∧ ds[i]? = some d ∧ Ry b K w S2 H3 x d
def iE (A : Am) (C : Ecls) (W : WX) (b : Bool) (x : M (List D)) : TI := fun σ H R => ∃ S e, Rl A S e σ H ∧ Res A C W σ S H e (x e) fun ds e' S' H' => ∀ J, WalkD b A.K A.w J ds S' H' → R J H'
theorem PI.imp {X : Cx} {tg e : Expr} {t t' : TI} (h : PI X tg e t) (i : ∀ σ H Q, t' σ H Q → t σ H Q) : PI X tg e t' := ⟨fun pins s σ H Q I q => h.run pins s σ H Q I (i σ H Q q)⟩
section
variable {K : PySem.W.Frag} {w : World} {S : Addr → Prop} {H : Hp} {a : Addr} {xs : List V} {ds : List D}
theorem rd_kept {S' : Addr → Prop} {H' : Hp} {u : HO} (k : Kp S H S' H') (hs : S a) (h : Rd H a u) : Rd H' a u := rd_kp (k a hs).2 h
theorem walkD_list (h : LF K S H a xs) (q : Rvs K w S H xs ds) : WalkD false K w (Itl K a) ds S H := by
  refine ⟨fun H => SqL K H a xs, YAt xs, by rw [← q.length]; exact walk_list, fun S' H' k => (h.mono k).rd.sq, fun i S2 H2 x H3 hi k sn y => ?_⟩
  obtain ⟨rfl, hx⟩ := y
  obtain ⟨d, h1, h2⟩ := (q.mono k ds xs).get' hx
  exact ⟨d, .inl rfl, h1, .inl h2⟩
theorem walkD_tup (hs : S a) (h : FT H a xs) (q : Rvs K w S H xs ds) : WalkD false K w (Itt K a) ds S H := by
  refine ⟨fun H => SqT K H a xs, YAt xs, by rw [← q.length]; exact walk_tup, fun S' H' k => .inl (rd_kept k hs h.rd), fun i S2 H2 x H3 hi k sn y => ?_⟩
  obtain ⟨rfl, hx⟩ := y
  obtain ⟨d, h1, h2⟩ := (q.mono k ds xs).get' hx
  exact ⟨d, .inl rfl, h1, .inl h2⟩
theorem rde_at : ∀ {es : List DictEntry} {kvs : List (D × D)}, Rde K w S H es kvs → ∀ i (hi : i < es.length), ∃ x d, RelV x es[i].key ∧ (kvs.map (·.1))[i]? = some d ∧ Rv K w S H x d
  | _, [], h, i, hi => by cases h; exact absurd hi (Nat.not_lt_zero _)
  | _, (k, d) :: kvs, h, i, hi => by
    cases h with
    | cons h1 h2 h3 h4 h5 h6 h7 h8 =>
      cases i with
      | zero => exact ⟨_, k, h4, rfl, h5⟩
      | succ i =>
        obtain ⟨x, d, q1, q2, q3⟩ := rde_at h8 i (Nat.lt_of_succ_lt_succ hi)
        exact ⟨x, d, q1, q2, q3⟩
theorem walkD_dict {o : Obj} {es : Array DictEntry} {kvs : List (D × D)} (hs : S a) (h : H a = some (ObjO a o)) (q : Rde K w S H es.toList kvs) : WalkD false K w (ItK a o es) (kvs.map (·.1)) S H := by
  have hl : es.size = (kvs.map (·.1)).length := by rw [List.length_map, ← q.length, Array.length_toList]
  refine ⟨fun H => H a = some (ObjO a o), fun i H x H' => H' = H ∧ ∃ hi : i < es.size, RelV x es[i].key, ?_, fun S' H' k => (k a hs).2.trans h, fun i S2 H2 x H3 hi k sn y => ?_⟩
  · rw [← hl]
    exact ⟨fun i H hi g => ⟨g, hi⟩, fun H g => ⟨g, Nat.le_refl _⟩, fun i H x H' hi g y => y⟩
  · obtain ⟨rfl, hi', rx⟩ := y
    obtain ⟨x', d, q1, q2, q3⟩ := rde_at (q.mono k kvs _) i (by simpa using hi')
    have : x = x' := rx.inj (by simpa using q1)
    subst this
    exact ⟨d, .inl rfl, q2, .inl q3⟩
theorem walkD_range {lo : Int} {n : Nat} : WalkD false K w (Itr lo n) ((List.range n).map fun (i : Nat) => PyData.int (lo + (i : Int))) S H := by
  refine ⟨fun _ => True, YFn fun i => .int (lo + i), by rw [List.length_map, List.length_range]; exact walk_range, fun _ _ _ => True.intro, fun i S2 H2 x H3 hi k sn y => ?_⟩
  obtain ⟨rfl, rfl⟩ := y
  rw [List.length_map, List.length_range] at hi
  exact ⟨.int (lo + i), .inl rfl, by rw [List.getElem?_map, List.getElem?_range hi]; rfl, .inl (.int _)⟩
theorem pair_rv {S2 : Addr → Prop} {H2 : Hp} {T : Addr} {x y : V} {dx dy : D} (hT : H2 T = none) (sn : ∀ a, S2 a → H2 a ≠ none) (h1 : Rv K w S2 H2 x dx) (h2 : Rv K w S2 H2 y dy) : Wk K w S2 (upd H2 T (.tup [x, y])) (.ref T) (.tuple [dx, dy]) :=
  ⟨T, _, _, rfl, upd_same, rfl, .cons (h1.mono (kp_new hT sn)) (.cons (h2.mono (kp_new hT sn)) .nil)⟩
theorem walkD_pair {J : L2.It} {G : Hp → Prop} {f g : Nat → Option V} {fd gd : Nat → Option D} {n : Nat} {es : List D} (w' : Walk J n G (YPair f g)) (hn : es.length = n) (hG : ∀ S' H', Kp S H S' H' → G H')
    (hf : ∀ i x S' H', Kp S H S' H' → f i = some x → ∃ d, fd i = some d ∧ Rv K w S' H' x d) (hg : ∀ i x S' H', Kp S H S' H' → g i = some x → ∃ d, gd i = some d ∧ Rv K w S' H' x d)
    (he : ∀ i d1 d2, i < n → fd i = some d1 → gd i = some d2 → es[i]? = some (.tuple [d1, d2])) : WalkD true K w J es S H := by
  refine ⟨G, YPair f g, by rw [hn]; exact w', hG, fun i S2 H2 v H3 hi k sn y => ?_⟩
  obtain ⟨T, x, y, rfl, hT, rfl, h1, h2⟩ := y
  obtain ⟨d1, e1, q1⟩ := hf i x S2 H2 k h1
  obtain ⟨d2, e2, q2⟩ := hg i y S2 H2 k h2
  exact ⟨_, .inr ⟨T, _, hT, rfl⟩, he i d1 d2 (by rw [← hn]; exact hi) e1 e2, .inr ⟨rfl, pair_rv hT sn q1 q2⟩⟩
theorem enumD_get (ds : List D) (i : Nat) : (enumD ds)[i]? = (ds[i]?).map fun d => .tuple [.int (i : Nat), d] := by
  unfold enumD
  rw [List.getElem?_map, List.getElem?_zipIdx]
  cases ds[i]? <;> simp
theorem enumD_length (ds : List D) : (enumD ds).length = ds.length := by unfold enumD; simp
theorem walkD_enumL (h : LF K S H a xs) (q : Rvs K w S H xs ds) : WalkD true K w (Ite K a) (enumD ds) S H := by
  refine walkD_pair (fd := fun i => some (.int (i : Nat))) (gd := fun i => ds[i]?) walk_enum (by rw [enumD_length, q.length]) (fun S' H' k => (h.mono k).rd.sq) (fun i x S' H' k e => ?_) (fun i x S' H' k e => ?_) fun i d1 d2 hi e1 e2 => ?_
  · cases e; exact ⟨_, rfl, .int _⟩
  · exact (q.mono k ds xs).get' e
  · cases e1
    rw [enumD_get]
    have e2 : ds[i]? = some d2 := e2
    rw [e2]; rfl
theorem zipD_get (ds es : List D) (i : Nat) (d1 d2 : D) (h1 : ds[i]? = some d1) (h2 : es[i]? = some d2) : (zipD ds es)[i]? = some (.tuple [d1, d2]) := by
  unfold zipD
  rw [List.getElem?_map]
  have : (ds.zip es)[i]? = some (d1, d2) := by
    rw [List.getElem?_zip_eq_some]; exact ⟨h1, h2⟩
  rw [this]; rfl
theorem zipD_length (ds es : List D) : (zipD ds es).length = min ds.length es.length := by unfold zipD; simp
theorem walkD_zipL {b : Addr} {ys : List V} {es : List D} (h : LF K S H a xs) (q : Rvs K w S H xs ds) (h2 : LF K S H b ys) (q2 : Rvs K w S H ys es) : WalkD true K w (Itz K a b) (zipD ds es) S H := by
  refine walkD_pair (fd := fun i => ds[i]?) (gd := fun i => es[i]?) (walk_zip rfl) (by rw [zipD_length, q.length, q2.length]) (fun S' H' k => ⟨(h.mono k).rd.sq, (h2.mono k).rd.sq⟩) (fun i x S' H' k e => (q.mono k ds xs).get' e) (fun i x S' H' k e => (q2.mono k es ys).get' e) fun i d1 d2 hi e1 e2 => zipD_get _ _ _ _ _ e1 e2
theorem walk_zipT {b : Addr} {ys : List V} {n : Nat} (hn : n = min xs.length ys.length) : Walk (RZ.ItzT K a b) n (fun H => SqT K H a xs ∧ SqT K H b ys) (YPair (fun i => xs[i]?) (fun i => ys[i]?)) := by
  subst hn
  refine ⟨fun i _ hi q => ?_, fun _ q => ⟨xs, ys, q.1, q.2, by omega⟩, fun i H v H' _ q y => ?_⟩
  · have h1 : i < xs.length := by omega
    have h2 : i < ys.length := by omega
    exact ⟨xs, ys, xs[i], ys[i], q.1, q.2, by simp [h1], by simp [h2]⟩
  · obtain ⟨T, x, z, h1, h2, h3, h4, h5⟩ := y
    exact ⟨T, x, z, h1, h2, h3, h4 xs q.1, h5 ys q.2⟩
theorem walkD_zipT {b : Addr} {ys : List V} {es : List D} (hs : S a) (h : FT H a xs) (q : Rvs K w S H xs ds) (hs2 : S b) (h2 : FT H b ys) (q2 : Rvs K w S H ys es) : WalkD true K w (RZ.ItzT K a b) (zipD ds es) S H := by
  refine walkD_pair (fd := fun i => ds[i]?) (gd := fun i => es[i]?) (walk_zipT rfl) (by rw [zipD_length, q.length, q2.length]) (fun S' H' k => ⟨.inl (rd_kept k hs h.rd), .inl (rd_kept k hs2 h2.rd)⟩) (fun i x S' H' k e => (q.mono k ds xs).get' e) (fun i x S' H' k e => (q2.mono k es ys).get' e) fun i d1 d2 hi e1 e2 => zipD_get _ _ _ _ _ e1 e2
end

/-! ### enumerate(tuple) -/
theorem meets_enumT (t : Addr) (items : Array Value) (n : Nat) (dct : Option Addr) (sl : Array (Option Value)) :
    Meets (Builtin.«enumerate.__new__» ⟨[.type "enumerate", .ref t], []⟩) (fun _ R s => s.heap.get? t = some { cls := .type "tuple", dict := dct, data := .seq items n, slots := sl } ∧
      R (.ok (.ret (.ref (s.heap.push { cls := .type "tuple_iterator", data := .fields #[.ref t, .int 0 0] }).objs.size)))
        { s with heap := (s.heap.push { cls := .type "tuple_iterator", data := .fields #[.ref t, .int 0 0] }).push { cls := .type "enumerate", data := .fields #[.none, .bool false, .ref s.heap.objs.size, rawInt 0, .none, .none] } }) :=
  .of_wp fun prog w A R s hh => by
    obtain ⟨hp, g, d, tk, os⟩ := s
    obtain ⟨ht, hq⟩ := hh
    have z := sub_enumerate
    have hT : Heap.IsTuple (Shared.heap ⟨hp, g, d, tk, os⟩) t items := ⟨_, ht, rfl, n, rfl⟩
    wp_walk using AutoSeq1.wpAny_loadPart' ht
    refine wpAny_stack_any fun st => wpAny_pure ?_
    split
    · rename_i c _ _ _ _ _
      by_cases hc : (c == Value.type "enumerate") = true
      · wp_walk using AutoSeq1.wpAny_loadPart' ht, wpAny_pyIter_tuple hT
        exact ⟨_, rfl, hq⟩
      · wp_walk using AutoSeq1.wpAny_loadPart' ht, wpAny_pyIter_tuple hT
        exact ⟨_, rfl, hq⟩
    · wp_walk using AutoSeq1.wpAny_loadPart' ht, wpAny_pyIter_tuple hT
      exact ⟨_, rfl, hq⟩
/-- the tuple at a as it stands at each turn, each item in a new pair -/
def IteT (K : PySem.W.Frag) (a : Addr) : L2.It :=
  ⟨fun i H => ∃ (xs : List V) (x : V), SqT K H a xs ∧ xs[i]? = some x, fun i H v H' => ∃ T x, v = .ref T ∧ H T = none ∧ H' = upd H T (.tup [.int (i : Nat), x]) ∧ ∀ xs, SqT K H a xs → xs[i]? = some x, fun i H => ∃ xs : List V, SqT K H a xs ∧ xs.length ≤ i⟩
theorem turn_enumT {P : Program} {w : World} {K : PySem.W.Frag} {elts : List Expr} {kk : Nat} {tpos : Pos} (a e it : Addr) :
    Turn P w K (.Tuple elts kk tpos) (IteT K a) [e, it] e (fun i h => (∃ old, IsEnum h e it ((i : Nat) : Int) old) ∧ h.IsTupleIter it a i ∧ e ≠ it) where
  mem := by simp
  obj := fun i h st b hb => by
    obtain ⟨⟨old, he⟩, ⟨o, ho, hc, hd⟩, _⟩ := st
    rcases (show b = e ∨ b = it by simpa using hb) with z | z
    · rw [z]; exact ⟨_, he, fun v q => nomatch q⟩
    · rw [z]; exact ⟨o, ho, fun v q => by rw [hd] at q; cases q⟩
  keep := fun i h h' st k => let ⟨⟨old, he⟩, hi, hne⟩ := st; ⟨⟨old, k e (by simp) _ he⟩, hi.at fun o q => k it (by simp) o q, hne⟩
  item := by
    intro X hP hw hK hc i pins s σ H E I hf st hg
    subst hP hw hK
    obtain ⟨⟨old, he⟩, hit, hne⟩ := st
    obtain ⟨xs, x, hq, hx⟩ := hg
    obtain ⟨its, rv, p, hz⟩ := I.tuple hq
    obtain ⟨u, hu, ru⟩ := rv.get hx
    have hel : e < s.heap.objs.size := Heap.lt_size he
    have hil : it < s.heap.objs.size := by obtain ⟨_, q, _⟩ := hit; exact Heap.lt_size q
    have hai : a ≠ it := fun z => by
      have e1 := (hf it (by simp)).1
      rcases hq with hq | ⟨o, its, n, hk, _⟩
      · rcases hq with hq | ⟨o, hq⟩
        · rw [z, e1] at hq; cases hq
        · rw [z, e1] at hq; cases hq
      · obtain ⟨o2, q, cc, _⟩ := hit
        have := I.kIn a o hk
        rw [z, q] at this
        cases this
        obtain ⟨o3, h3, h4, _⟩ := p
        rw [z, q] at h3; cases h3
        rw [cc] at h4
        exact absurd (Value.type.inj h4) (by decide)
    have hea : e ∉ [it, a] := by
      intro hm
      rcases (show e = it ∨ e = a by simpa using hm) with z | z
      · exact hne z
      · obtain ⟨o3, h3, h4, _⟩ := p
        have he' : s.heap.get? e = some _ := he
        rw [z, h3] at he'
        cases he'
        exact absurd (Value.type.inj h4) (by decide)
    have D := PySem.Draws.tuple (prog := X.prog) (w := X.w) (A := X.A.in1) (I.ok.hd hc) it a hai its.toArray
    have hi : i < its.toArray.size := by
      have := (List.getElem?_eq_some_iff.mp hu).1
      simpa using this
    refine wpAny_pyNext_enum_itemC D he ⟨hit, p⟩ hi hne hea fun x' h' tk hP ho hs' hT hsz hk => ?_
    have hx' : x' = u := by
      have : its.toArray[i]? = some u := by simpa using hu
      rw [this] at hP
      exact (Option.some.inj hP).symm
    subst hx'
    refine ⟨_, rfl, wpAny_letOwnedTupleGo_enum (s := { s with heap := h', toks := tk + 1 }) ho fun h'' he' sb => ?_⟩
    have hT2 : h''.get? s.heap.objs.size = some { cls := .type "tuple", data := .seq #[.int i tk, x'] } := (sb.2 _ (Nat.ne_of_gt hel)).trans hT
    have new : ObjOk X.prog X.w (upd H s.heap.objs.size (.tup [.int (i : Nat), x])) h'' s.heap.objs.size (.tup [.int (i : Nat), x]) :=
      ⟨by show 2 ≤ sizeLine; decide, [.int i tk, x'], .cons ⟨_, rfl⟩ (.cons ru .nil), ⟨_, hT2, rfl, _, rfl⟩⟩
    have I1 : Inv X pins σ (upd H s.heap.objs.size (.tup [.int (i : Nat), x])) { s with heap := h'', toks := tk + 1 } :=
      I.turnedNew (ch := [e, it]) (fun b ob hb q => (sb.2 b (fun z => hb (by simp [z]))).trans (hk b ob (fun z => hb (by simp [z])) (fun z => hb (by simp [z])) q)) hf (Nat.le_refl _) new
    refine ⟨.ref s.heap.objs.size, _, I1, rfl, ⟨_, x, rfl, I.hok.fresh (Nat.le_refl _), rfl, fun ys hy => by rw [I.tuple_inj hy hq]; exact hx⟩, ⟨⟨x', ?_⟩, hs'.1.at fun o q => (sb.2 it (Ne.symm hne)).trans q, hne⟩, fun b hb => ?_⟩
    · have e1 : ((i + 1 : Nat) : Int) = (i : Int) + 1 := by omega
      rw [e1]; exact he'
    · have hb' : b < s.heap.objs.size := by
        rcases (show b = e ∨ b = it by simpa using hb) with z | z
        · rw [z]; exact hel
        · rw [z]; exact hil
      rw [upd_ne (Nat.ne_of_lt hb')]
      exact (hf b hb).1
  done := by
    intro X hP hw hK hc i pins s σ H E I hf st hg
    subst hP hw hK
    obtain ⟨⟨old, he⟩, hit, hne⟩ := st
    obtain ⟨xs, hq, hx⟩ := hg
    obtain ⟨its, rv, p, hz⟩ := I.tuple hq
    obtain ⟨f0, f1, f2, f3, f4, f5⟩ := hf it (by simp)
    have hl := rv.length
    have hT : s.TypeIs (.ref e) "enumerate" := ⟨_, he, rfl⟩
    unfold pyNext
    refine wpAny_bind (wpAny_attempt (wpAny_callSpecial?_slot (name := Str.ofString "__next__") hT PySem.F.slot_enumerate_next (wpAny_call_entry PySem.F.slot_enumerate_next hT PySem.F.entry_enumerate_next ?_ (PySem.F.args_enumerate_next_1 _))))
    show wpAny _ _ (field (.ref e) 2 >>= _) _ _ _
    refine wpAny_bind (wpAny_field he rfl (x := .ref it) rfl ?_)
    refine wpAny_bind (wpAny_nextOf_tuple_end (I.ok.hd hc) hit p (by simp; omega) fun h' x he' hx' => ?_)
    obtain ⟨o, ho, hcc⟩ := hx'
    refine wpAny_bind (wpAny_isInstance (T := "StopIteration") (b := true) ⟨o, ho, hcc⟩ isSubtype_stop ?_)
    exact wpAny_pure ⟨rfl, I.turned (t' := s.toks) (fun b o hb q => he' b o hb q) f0 f1 f3 f4 f5⟩
  self := fun A i s Q E st h => let ⟨⟨_, he⟩, _⟩ := st; wpAny_pyIter_enum he h
theorem walk_enumT {K : PySem.W.Frag} {a : Addr} {xs : List V} : Walk (IteT K a) xs.length (fun H => SqT K H a xs) (YPair (fun i => some (.int (i : Nat))) (fun i => xs[i]?)) := by
  refine ⟨fun i _ hi q => ⟨xs, xs[i], q, by simp [hi]⟩, fun _ q => ⟨xs, q, Nat.le_refl _⟩, fun i H v H' _ q y => ?_⟩
  obtain ⟨T, x, h1, h2, h3, h4⟩ := y
  exact ⟨T, .int (i : Nat), x, h1, h2, h3, rfl, h4 xs q⟩
theorem walkD_enumT {K : PySem.W.Frag} {w : World} {S : Addr → Prop} {H : Hp} {a : Addr} {xs : List V} {ds : List D} (hs : S a) (h : FT H a xs) (q : Rvs K w S H xs ds) : WalkD true K w (IteT K a) (enumD ds) S H := by
  refine walkD_pair (fd := fun i => some (.int (i : Nat))) (gd := fun i => ds[i]?) walk_enumT (by rw [enumD_length, q.length]) (fun S' H' k => .inl (rd_kept k hs h.rd)) (fun i x S' H' k e => ?_) (fun i x S' H' k e => ?_) fun i d1 d2 hi e1 e2 => ?_
  · cases e; exact ⟨_, rfl, .int _⟩
  · exact (q.mono k ds xs).get' e
  · cases e1
    rw [enumD_get]
    have e2 : ds[i]? = some d2 := e2
    rw [e2]; rfl
section
variable {X : Cx} {A : Am} {C : Ecls} {W : WX} {tg l a b : Expr} {xv : M D} {xs : M (List D)} {pos p : Pos}
def iAny (K : PySem.W.Frag) (tl : TE) : TI := fun σ H R => tl σ H fun x H1 => ∃ a, x = .ref a ∧ ((∃ xs, SqL K H1 a xs ∧ R (Itl K a) H1) ∨ (∃ xs, SqT K H1 a xs ∧ R (Itt K a) H1) ∨
  ∃ o es ep, H1 a = some (ObjO a o) ∧ (a == sysModules) = false ∧ o.ExactDict ∧ o.data = .dict es ep ∧ AbsKeys es ∧ R (ItK a o es) H1)
theorem pi_any {tl : TE} (hl : PE X l tl) : PI X tg l (iAny X.K tl) := by
  refine ⟨fun pins s σ H R I h => ?_⟩
  refine thn (hl.run pins s σ H _ I h) fun v s1 ⟨x, H1, I1, r1, q1⟩ => ?_
  obtain ⟨a, rfl, q⟩ := q1
  cases r1
  rcases q with ⟨xs, hq, q⟩ | ⟨xs, hq, q⟩ | ⟨o, es, ep, hH, lo, ex, hd, ha, q⟩
  · obtain ⟨its, rv, pl, hz⟩ := I1.list hq
    exact wpAny_pyIter_list pl.isList (pi_one (tk := s1.toks) I1 _ (turn_list a _) ⟨_, Heap.get?_push_size _ rfl, rfl, rfl⟩ q)
  · obtain ⟨its, rv, pl, hz⟩ := I1.tuple hq
    exact wpAny_pyIter_tuple (show s1.heap.IsTuple a its.toArray from pl) (pi_one (tk := s1.toks) I1 _ (turn_tuple a _) ⟨_, Heap.get?_push_size _ rfl, rfl, rfl⟩ q)
  · have raw : s1.heap.DictRaw a es ep := ⟨o, obj_of I1 hH, ex, hd⟩
    exact wpAny_pyIter_dict_raw lo raw (pi_one (tk := s1.toks) I1 _ (turn_keysE ex hd ha) ⟨_, Heap.get?_push_size _ rfl, rfl, rfl⟩ q)
theorem pi_srcE (hK : X.K = A.K) (he : PE X l (tV A C W xv)) : PI X tg l (iE A C W false (bnd xv fun d => opt (items? d))) := by
  refine PI.imp (pi_any he) ?_
  rintro σ H Q ⟨S, e, R, h⟩
  refine ⟨S, e, R, h.bnd.imp fun d e1 S1 H1 R1 M1 ⟨_, h1⟩ v q => ?_⟩
  obtain ⟨ds, hd, h2⟩ := opt_of h1
  have h3 := h2 S1 H1 R1 .refl
  rw [hK]
  cases q with
  | lst q1 q2 q3 q4 => cases hd; exact ⟨_, rfl, .inl ⟨_, q2.sq, h3 _ (walkD_list q1 q4)⟩⟩
  | tup q1 q2 q3 q4 => cases hd; exact ⟨_, rfl, .inr (.inl ⟨_, .inl q2.rd, h3 _ (walkD_tup q1 q2 q4)⟩)⟩
  | dic q1 q2 q3 q4 q5 q6 q7 q8 =>
    cases hd
    refine ⟨_, rfl, .inr (.inr ⟨_, _, _, q2, q3, q4, q5, fun i hi => ?_, h3 _ (walkD_dict q1 q2 q7)⟩)⟩
    obtain ⟨x, d, z1, z2, z3⟩ := rde_at q7 i (by simpa using hi)
    exact ⟨x, by simpa using z1⟩
  | _ => cases hd
theorem pi_rng2E (hg : Gl X "range") (hm : X.mg "range" = none) (ha : PA X [a, b] (tVs A C W xs)) (hs : starEach [a, b] X.env = [(false, eval a X.env), (false, eval b X.env)]) (hs2 : starEach [b] X.env = [(false, eval b X.env)]) : PI X tg (.Call (.Name "range" p) [a, b] [] pos) (iE A C W false (bnd xs fun ds => opt (rng2D ds))) := by
  refine PI.imp (pi_range2 hg hm ha hs hs2) ?_
  rintro σ H Q ⟨S, e, R, h⟩
  refine ⟨S, e, R, h.bnd.imp fun ds e1 S1 H1 R1 M1 ⟨_, h1⟩ vs q => ?_⟩
  obtain ⟨es, hd, h2⟩ := opt_of h1
  have h3 := h2 S1 H1 R1 .refl
  unfold rng2D at hd
  split at hd
  · rename_i i j _
    obtain ⟨ok, rfl⟩ := rangeD_of hd
    cases q with
    | cons q1 q2 =>
      cases q2 with
      | cons q2 q3 =>
        cases q1; cases q2; cases q3
        exact ⟨i, j, rfl, ⟨ok.1, ok.2.1, ok.2.2.1, ok.2.2.2.1⟩, h3 _ walkD_range⟩
  · cases hd
theorem pi_rng1E (hg : Gl X "range") (hm : X.mg "range" = none) (ha : PA X [b] (tVs A C W xs)) (hs2 : starEach [b] X.env = [(false, eval b X.env)]) : PI X tg (.Call (.Name "range" p) [b] [] pos) (iE A C W false (bnd xs fun ds => opt (rng2D (.int 0 :: ds)))) := by
  refine PI.imp (pi_range1 hg hm ha hs2) ?_
  rintro σ H Q ⟨S, e, R, h⟩
  refine ⟨S, e, R, h.bnd.imp fun ds e1 S1 H1 R1 M1 ⟨_, h1⟩ vs q => ?_⟩
  obtain ⟨es, hd, h2⟩ := opt_of h1
  have h3 := h2 S1 H1 R1 .refl
  cases ds with
  | nil => cases hd
  | cons d ds =>
    cases ds with
    | cons d2 ds => cases d <;> cases hd
    | nil =>
      cases d with
      | int j =>
        obtain ⟨ok, rfl⟩ := rangeD_of (show rangeD 0 j = some es from hd)
        cases q with
        | cons q1 q2 =>
          cases q1; cases q2
          have e0 : (j - 0).toNat = j.toNat := by simp
          rw [e0] at h3
          exact ⟨j, rfl, ok.2.2.1, ok.2.2.2.1, h3 _ (by simpa using walkD_range (lo := 0))⟩
      | _ => cases hd
def iEnumA (K : PySem.W.Frag) (ta : TA) : TI := fun σ H R => ta σ H fun vs H1 => ∃ a, vs = [.ref a] ∧ ((∃ xs, SqL K H1 a xs ∧ R (Ite K a) H1) ∨ ∃ xs, SqT K H1 a xs ∧ R (IteT K a) H1)
theorem call_enumT {prog : Program} {w : World} {A : Around} {E : Value → Shared → Prop} {s : Shared} {t : Addr} {items : Array Value} {Q : Value → Shared → Prop} (hT : s.heap.IsTuple t items)
    (h : ∀ h', IsEnum h' (s.heap.objs.size + 1) s.heap.objs.size 0 .none → h'.IsTupleIter s.heap.objs.size t 0 → (∀ b o, s.heap.get? b = some o → h'.get? b = some o) → Q (.ref (s.heap.objs.size + 1)) { s with heap := h' }) :
    wpAny (model prog w) A (call (.type "enumerate") [.ref t]) Q E s := by
  obtain ⟨⟨c, dct, dt, sl⟩, ht, hc, n, hd⟩ := hT
  simp only at hc hd
  subst hc hd
  refine callType_new PySem.F.called_enumerate (by decide) (PySem.F.typeCall_enumerate_1 _) (PySem.F.newCall_enumerate_1 _) (fun obj => PySem.F.args_object_init_2 obj _) PySem.F.entry_enumerate_new (meets_enumT t items n dct sl) ⟨ht, ?_⟩
  have hz : (s.heap.push { cls := .type "tuple_iterator", data := .fields #[.ref t, .int 0 0] }).objs.size = s.heap.objs.size + 1 := Heap.size_push ..
  show _ ∧ _
  rw [hz]
  have he : IsEnum ((s.heap.push { cls := .type "tuple_iterator", data := .fields #[.ref t, .int 0 0] }).push { cls := .type "enumerate", data := .fields #[.none, .bool false, .ref s.heap.objs.size, rawInt 0, .none, .none] }) (s.heap.objs.size + 1) s.heap.objs.size 0 .none := by
    have q := Heap.get?_push_size (s.heap.push { cls := .type "tuple_iterator", data := .fields #[.ref t, .int 0 0] }) (o := { cls := .type "enumerate", data := .fields #[.none, .bool false, .ref s.heap.objs.size, rawInt 0, .none, .none] }) rfl
    rw [hz] at q
    exact q
  exact ⟨⟨_, he, rfl⟩, h _ he ⟨_, Heap.get?_push_of_some _ (Heap.get?_push_size _ rfl), rfl, rfl⟩ fun b o x => Heap.get?_push_of_some _ (Heap.get?_push_of_some _ x)⟩
theorem pi_enumA {elts : List Expr} {kk : Nat} {tpos : Pos} {ta : TA} (hg : Gl X "enumerate") (hm : X.mg "enumerate" = none) (ha : PA X [a] ta) (hs : starEach [a] X.env = [(false, eval a X.env)]) : PI X (.Tuple elts kk tpos) (.Call (.Name "enumerate" p) [a] [] pos) (iEnumA X.K ta) := by
  refine ⟨fun pins s σ H R I h => ?_⟩
  refine Call_ (ld_blt I hg hm boot_enumerate (PyProof.Rows.callWith_type1 (thn (ha.run pos pins s σ H _ I h) fun us s1 ⟨vs, H1, I1, r1, q1⟩ => ?_) hs rfl))
  obtain ⟨a, rfl, q⟩ := q1
  obtain ⟨u, rfl, ru⟩ := r1.one
  cases ru
  have fp : ∀ {H' : Hp} {h' : Heap}, Inv X pins σ H1 { s1 with heap := h' } → ∀ b ∈ [s1.heap.objs.size + 1, s1.heap.objs.size], FpOk X pins H1 b := fun _ b hb => by
    have hle : s1.heap.objs.size ≤ b := by
      rcases (show b = s1.heap.objs.size + 1 ∨ b = s1.heap.objs.size by simpa using hb) with z | z
      · omega
      · omega
    exact I1.fpOk hle (I1.hok.fresh hle)
  rcases q with ⟨xs, hq, q⟩ | ⟨xs, hq, q⟩
  · obtain ⟨its, rv, pl, hz⟩ := I1.list hq
    refine call_enumerate_list pl.isList fun h' he hit hsz hk => wpAny_pyIter_enum he ?_
    have I2 : Inv X pins σ H1 { s1 with heap := h' } := I1.kept (t' := s1.toks) hk
    exact ⟨s1.heap.objs.size + 1, [s1.heap.objs.size + 1, s1.heap.objs.size], _, _, H1, rfl, I2, turn_enum a (s1.heap.objs.size + 1) s1.heap.objs.size, ⟨⟨.none, he⟩, hit, Nat.succ_ne_self _⟩, fp (H' := H1) I2, q⟩
  · obtain ⟨its, rv, pl, hz⟩ := I1.tuple hq
    refine call_enumT (show s1.heap.IsTuple a its.toArray from pl) fun h' he hit hk => wpAny_pyIter_enum he ?_
    have I2 : Inv X pins σ H1 { s1 with heap := h' } := I1.kept (t' := s1.toks) hk
    exact ⟨s1.heap.objs.size + 1, [s1.heap.objs.size + 1, s1.heap.objs.size], _, _, H1, rfl, I2, turn_enumT a (s1.heap.objs.size + 1) s1.heap.objs.size, ⟨⟨.none, he⟩, hit, Nat.succ_ne_self _⟩, fp (H' := H1) I2, q⟩
theorem pi_enumE {elts : List Expr} {kk : Nat} {tpos : Pos} (hK : X.K = A.K) (hg : Gl X "enumerate") (hm : X.mg "enumerate" = none) (ha : PA X [a] (tVs A C W xs)) (hs : starEach [a] X.env = [(false, eval a X.env)]) : PI X (.Tuple elts kk tpos) (.Call (.Name "enumerate" p) [a] [] pos) (iE A C W true (bnd xs fun ds => opt (enum1D ds))) := by
  refine PI.imp (pi_enumA hg hm ha hs) ?_
  rintro σ H Q ⟨S, e, R, h⟩
  refine ⟨S, e, R, h.bnd.imp fun ds e1 S1 H1 R1 M1 ⟨_, h1⟩ vs q => ?_⟩
  obtain ⟨es, hd, h2⟩ := opt_of h1
  have h3 := h2 S1 H1 R1 .refl
  rw [hK]
  unfold enum1D at hd
  split at hd
  · cases hd
    cases q with
    | cons q1 q2 =>
      cases q2
      cases q1 with
      | lst q1 q2 q3 q4 => exact ⟨_, rfl, .inl ⟨_, q2.sq, h3 _ (walkD_enumL q1 q4)⟩⟩
  · cases hd
    cases q with
    | cons q1 q2 =>
      cases q2
      cases q1 with
      | tup q1 q2 q3 q4 => exact ⟨_, rfl, .inr ⟨_, .inl q2.rd, h3 _ (walkD_enumT q1 q2 q4)⟩⟩
  · cases hd
theorem pi_zip2E {elts : List Expr} {kk : Nat} {tpos : Pos} (hK : X.K = A.K) (hz : PI X (.Tuple elts kk tpos) (.Call (.Name "zip" p) [a, b] [] pos) (RZ.iZipA X.K (tVs A C W xs))) : PI X (.Tuple elts kk tpos) (.Call (.Name "zip" p) [a, b] [] pos) (iE A C W true (bnd xs fun ds => opt (zip2D ds))) := by
  refine PI.imp hz ?_
  rintro σ H Q ⟨S, e, R, h⟩
  refine ⟨S, e, R, h.bnd.imp fun ds e1 S1 H1 R1 M1 ⟨_, h1⟩ vs q => ?_⟩
  obtain ⟨es, hd, h2⟩ := opt_of h1
  have h3 := h2 S1 H1 R1 .refl
  rw [hK]
  unfold zip2D at hd
  split at hd
  · cases hd
    cases q with
    | cons q1 q2 =>
      cases q2 with
      | cons q2 q3 =>
        cases q3
        cases q1 with
        | lst a1 a2 a3 a4 => cases q2 with
          | lst b1 b2 b3 b4 => exact ⟨_, _, _, _, rfl, .inl ⟨a2.sq, b2.sq, h3 _ (walkD_zipL a1 a4 b1 b4)⟩⟩
  · cases hd
    cases q with
    | cons q1 q2 =>
      cases q2 with
      | cons q2 q3 =>
        cases q3
        cases q1 with
        | tup a1 a2 a3 a4 => cases q2 with
          | tup b1 b2 b3 b4 => exact ⟨_, _, _, _, rfl, .inr ⟨.inl a2.rd, .inl b2.rd, h3 _ (walkD_zipT a1 a2 a4 b1 b2 b4)⟩⟩
  · cases hd
end
end Ev
/-! text EvK -/
set_option Elab.async false
set_option linter.all false
set_option maxRecDepth 100000
/-! Ev: comprehensions. -/
namespace Ev
open PySem PySem.Spec PyProof.Rows L2
/-- no exception -/
def WF : WX := fun _ _ _ _ => False
section
variable {A : Am} {C : Ecls} {S : Addr → Prop} {e : VEnv} {σ : L2.St} {H : Hp} {ws : List Nat}
theorem foldl_set_get (f : Nat → Slot) : ∀ (ws : List Nat) (e : VEnv) (j : Nat), (ws.foldl (fun e i => e.set i (f i)) e).getD j .no = if j ∈ ws ∧ j < e.length then f j else e.getD j .no
  | [], e, j => by simp
  | w :: ws, e, j => by
    rw [List.foldl_cons, foldl_set_get f ws, List.length_set]
    by_cases h1 : j ∈ ws ∧ j < e.length
    · rw [if_pos h1, if_pos ⟨List.mem_cons_of_mem _ h1.1, h1.2⟩]
    · rw [if_neg h1]
      by_cases hw : j = w
      · subst hw
        by_cases hl : j < e.length
        · rw [if_pos ⟨List.mem_cons_self .., hl⟩, getD_set _ _ _ _ hl, if_pos rfl]
        · rw [if_neg (fun z => hl z.2)]
          simp [List.getD, hl]
      · have : ¬ (j ∈ w :: ws ∧ j < e.length) := fun z => h1 ⟨(List.mem_cons.mp z.1).resolve_left hw, z.2⟩
        rw [if_neg this]
        simp [List.getD, List.getElem?_set_ne (Ne.symm hw)]
theorem foldl_set_len (f : Nat → Slot) : ∀ (ws : List Nat) (e : VEnv), (ws.foldl (fun e i => e.set i (f i)) e).length = e.length
  | [], e => rfl
  | w :: ws, e => by rw [List.foldl_cons, foldl_set_len f ws, List.length_set]
theorem wipeE_get (e : VEnv) (j : Nat) : (wipeE ws e).getD j .no = if j ∈ ws then .no else e.getD j .no := by
  unfold wipeE
  rw [foldl_set_get (fun _ => .no)]
  by_cases h : j ∈ ws
  · by_cases hl : j < e.length
    · rw [if_pos ⟨h, hl⟩, if_pos h]
    · rw [if_neg (fun z => hl z.2), if_pos h]
      simp [List.getD, List.getElem?_eq_none (Nat.le_of_not_lt hl)]
  · rw [if_neg (fun z => h z.1), if_neg h]
theorem wipeE_len (e : VEnv) : (wipeE ws e).length = e.length := foldl_set_len _ _ _
theorem back_get (e0 e : VEnv) (j : Nat) (hl : e.length = e0.length) : (back ws e0 e).getD j .no = if j ∈ ws then e0.getD j .no else e.getD j .no := by
  unfold back
  rw [foldl_set_get (fun i => e0.getD i .no)]
  by_cases h : j ∈ ws
  · by_cases hj : j < e.length
    · rw [if_pos ⟨h, hj⟩, if_pos h]
    · rw [if_neg (fun z => hj z.2), if_pos h]
      simp [List.getD, List.getElem?_eq_none (Nat.le_of_not_lt hj), List.getElem?_eq_none (show e0.length ≤ j by omega)]
  · rw [if_neg (fun z => h z.1), if_neg h]
theorem back_len (e0 e : VEnv) : (back ws e0 e).length = e.length := foldl_set_len _ _ _
theorem wipe_at {j : Nat} {v : V} (h : (wipe σ ws)[j]? = some (some v)) : σ[j]? = some (some v) ∧ j ∉ ws := wipe_some h
theorem at_wipe {j : Nat} (h : j ∉ ws) : (wipe σ ws)[j]? = σ[j]? := by rw [wipe_get, if_neg h]
/-- the block's slots are forgotten -/
theorem rl_wipe (R : Rl A S e σ H) (ho : ∀ i ∈ ws, ¬ Own e i) : Rl A S (wipeE ws e) (wipe σ ws) H where
  len := by rw [wipeE_len, wipe_length]; exact R.len
  im := fun i d h => by
    rw [wipeE_get] at h
    by_cases hi : i ∈ ws
    · rw [if_pos hi] at h; cases h
    · rw [if_neg hi] at h; rw [at_wipe hi]; exact R.im i d h
  ow := fun i d h => by
    rw [wipeE_get] at h
    by_cases hi : i ∈ ws
    · rw [if_pos hi] at h; cases h
    · rw [if_neg hi] at h; rw [at_wipe hi]; exact R.ow i d h
  io := fun i d h => by
    rw [wipeE_get] at h
    by_cases hi : i ∈ ws
    · rw [if_pos hi] at h; cases h
    · rw [if_neg hi] at h; rw [at_wipe hi]; exact R.io i d h
  dis := fun i j a hi hj ha hb => by
    have low : ∀ j, Own (wipeE ws e) j → Own e j := fun j ⟨d, h⟩ => by
      rw [wipeE_get] at h
      by_cases hi : j ∈ ws
      · rw [if_pos hi] at h; rcases h with h | h <;> cases h
      · rw [if_neg hi] at h; exact ⟨d, h⟩
    exact R.dis i j a (low i hi) (low j hj) (wipe_at ha).1 (wipe_at hb).1
  fr := R.fr
  s0 := R.s0
  s1 := R.s1
  sn := R.sn
  ion := R.ion
  io0 := R.io0
/-- behind the block -/
theorem rl_back {S0 : Addr → Prop} {e0 : VEnv} {H0 : Hp} (R : Rl A S e (wipe σ ws) H) (R0 : Rl A S0 e0 σ H0) (k : Kp S0 H0 S H) (ho : ∀ i ∈ ws, ¬ Own e0 i) (hl : e.length = e0.length) : Rl A S (back ws e0 e) σ H where
  len := by rw [back_len, hl]; exact R0.len
  im := fun i d h => by
    rw [back_get _ _ _ hl] at h
    by_cases hi : i ∈ ws
    · rw [if_pos hi] at h
      obtain ⟨v, h1, h2⟩ := R0.im i d h
      exact ⟨v, h1, h2.mono k⟩
    · rw [if_neg hi] at h
      have := R.im i d h
      rw [at_wipe hi] at this; exact this
  ow := fun i d h => by
    rw [back_get _ _ _ hl] at h
    by_cases hi : i ∈ ws
    · rw [if_pos hi] at h; exact absurd ⟨d, .inl h⟩ (ho i hi)
    · rw [if_neg hi] at h
      have := R.ow i d h
      rw [at_wipe hi] at this; exact this
  io := fun i d h => by
    rw [back_get _ _ _ hl] at h
    by_cases hi : i ∈ ws
    · rw [if_pos hi] at h; exact absurd ⟨d, .inr h⟩ (ho i hi)
    · rw [if_neg hi] at h
      have := R.io i d h
      rw [at_wipe hi] at this; exact this
  dis := fun i j a hi hj ha hb => by
    have low : ∀ j, Own (Ev.back ws e0 e) j → j ∉ ws ∧ Own e j := fun j ⟨d, h⟩ => by
      rw [back_get _ _ _ hl] at h
      by_cases hi : j ∈ ws
      · rw [if_pos hi] at h; exact absurd ⟨d, h⟩ (ho j hi)
      · rw [if_neg hi] at h; exact ⟨hi, d, h⟩
    obtain ⟨z1, o1⟩ := low i hi
    obtain ⟨z2, o2⟩ := low j hj
    exact R.dis i j a o1 o2 (by rw [at_wipe z1]; exact ha) (by rw [at_wipe z2]; exact hb)
  fr := R.fr
  s0 := R.s0
  s1 := R.s1
  sn := R.sn
  ion := R.ion
  io0 := R.io0
theorem wd_wipe {a : Addr} (h : Wd (wipeE ws e) (wipe σ ws) a) : Wd e σ a := by
  obtain ⟨i, ⟨d, h1⟩, h2⟩ := h
  rw [wipeE_get] at h1
  by_cases hi : i ∈ ws
  · rw [if_pos hi] at h1; rcases h1 with h1 | h1 <;> cases h1
  · rw [if_neg hi] at h1
    exact ⟨i, ⟨d, h1⟩, (wipe_at h2).1⟩
/-- own slots frozen -/
theorem frz_one {i : Nat} {e1 : VEnv} (R : Rl A S e σ H) (h : fzAt e i = some e1) : ∃ S1, Rl A S1 e1 σ H ∧ Mn e σ S H e1 S1 H ∧ ¬ Own e1 i ∧ e1.length = e.length := by
  unfold fzAt at h
  cases q : e.getD i .no with
  | io d => simp only [q] at h; cases h
  | no =>
    simp only [q] at h; cases h
    refine ⟨S, R, .refl, ?_, rfl⟩
    rintro ⟨d, z | z⟩ <;> rw [q] at z <;> cases z
  | im d =>
    simp only [q] at h; cases h
    refine ⟨S, R, .refl, ?_, rfl⟩
    rintro ⟨d, z | z⟩ <;> rw [q] at z <;> cases z
  | ow d =>
    simp only [q] at h; cases h
    obtain ⟨a, h1, _⟩ := R.ow i d q
    have hf : fz (.slot i) e = .ok d (e.set i (.im d)) := by unfold fz; simp only [q]
    obtain ⟨d', e', S', R', M', _, rfl⟩ := fz_of (C := fun _ => Value.none) (W := WF) (P := fun d' e' _ _ => e' = e.set i (.im d)) R R .refl (.slot h1) (fun _ _ z => nomatch z) (by
      show Res A _ WF σ S H e (fz (.slot i) e) _
      rw [hf]
      exact fun _ _ _ _ => rfl)
    refine ⟨S', R', M', ?_, List.length_set⟩
    have hl : i < e.length := by
      by_cases hl : i < e.length
      · exact hl
      · simp [List.getD, List.getElem?_eq_none (Nat.le_of_not_lt hl)] at q
    rintro ⟨d, z | z⟩ <;> rw [getD_set _ _ _ _ hl, if_pos rfl] at z <;> cases z
theorem frz_all : ∀ {ws : List Nat} {S : Addr → Prop} {e e1 : VEnv}, Rl A S e σ H → fzAll ws e = some e1 → ∃ S1, Rl A S1 e1 σ H ∧ Mn e σ S H e1 S1 H ∧ (∀ i ∈ ws, ¬ Own e1 i) ∧ e1.length = e.length
  | [], S, e, e1, R, h => by cases h; exact ⟨S, R, .refl, fun i hi => absurd hi (by simp), rfl⟩
  | i :: ws, S, e, e1, R, h => by
    unfold fzAll at h
    cases q : fzAt e i with
    | none => rw [q] at h; cases h
    | some e2 =>
      rw [q] at h
      obtain ⟨S2, R2, M2, n2, l2⟩ := frz_one R q
      obtain ⟨S3, R3, M3, n3, l3⟩ := frz_all R2 h
      refine ⟨S3, R3, M2.trans M3, fun j hj z => ?_, l3.trans l2⟩
      rcases List.mem_cons.mp hj with rfl | hj
      · exact n2 (M3.own _ z)
      · exact n3 j hj z
end
theorem bnd_ok {α β : Type} {x : M α} {f : α → M β} {e e2 : VEnv} {b : β} (h : bnd x f e = .ok b e2) : ∃ a e1, x e = .ok a e1 ∧ f a e1 = .ok b e2 := by
  unfold bnd at h
  cases q : x e with
  | ok a e1 => rw [q] at h; exact ⟨a, e1, rfl, h⟩
  | exc c e1 => rw [q] at h; cases h
  | bad => rw [q] at h; cases h
mutual
theorem bindT_len : ∀ (t : Tg) (d : D) (e e' : VEnv), bindT t d e = .ok () e' → e'.length = e.length ∧ (∀ i, Own e' i → Own e i ∧ i ∉ t.sl) ∧ ∀ i, i ∉ t.sl → e'.getD i .no = e.getD i .no
  | .nm i, d, e, e', h => by
    obtain ⟨h1, h2, rfl⟩ := bind1_of (by simpa [bindT] using h)
    refine ⟨List.length_set, fun j ⟨d', hj⟩ => ?_, fun j hj => ?_⟩
    · rw [getD_set _ _ _ _ h1] at hj
      by_cases hji : j = i
      · rw [if_pos hji] at hj; rcases hj with hj | hj <;> cases hj
      · rw [if_neg hji] at hj; exact ⟨⟨d', hj⟩, by simpa [Tg.sl] using hji⟩
    · rw [getD_set _ _ _ _ h1, if_neg (by simpa [Tg.sl] using hj)]
  | .tp ts, d, e, e', h => by
    unfold bindT at h
    cases q : seq? d with
    | none => simp only [q] at h; cases h
    | some ds =>
      simp only [q] at h
      simpa [Tg.sl] using bindTs_len ts ds e e' h
theorem bindTs_len : ∀ (ts : List Tg) (ds : List D) (e e' : VEnv), bindTs ts ds e = .ok () e' → e'.length = e.length ∧ (∀ i, Own e' i → Own e i ∧ i ∉ Tg.sls ts) ∧ ∀ i, i ∉ Tg.sls ts → e'.getD i .no = e.getD i .no
  | [], [], e, e', h => by
    have h : (O.ok () e : O Unit) = .ok () e' := by simpa [bindTs, ret] using h
    cases h
    exact ⟨rfl, fun i h => ⟨h, by simp [Tg.sls]⟩, fun _ _ => rfl⟩
  | [], _ :: _, e, e', h => by simp [bindTs, bad] at h
  | _ :: _, [], e, e', h => by simp [bindTs, bad] at h
  | t :: ts, d :: ds, e, e', h => by
    obtain ⟨u, e1, h1, h2⟩ := bnd_ok (show bnd (bindT t d) (fun _ => bindTs ts ds) e = .ok () e' by simpa [bindTs] using h)
    obtain ⟨a1, a2, a3⟩ := bindT_len t d e e1 h1
    obtain ⟨b1, b2, b3⟩ := bindTs_len ts ds e1 e' h2
    refine ⟨b1.trans a1, fun i hi => ?_, fun i hi => ?_⟩
    · obtain ⟨c1, c2⟩ := b2 i hi
      obtain ⟨c3, c4⟩ := a2 i c1
      exact ⟨c3, by simp [Tg.sls, c2, c4]⟩
    · simp only [Tg.sls, List.mem_append, not_or] at hi
      rw [b3 i hi.2, a3 i hi.1]
end
section
variable {A : Am} {C : Ecls} {W : WX} {S : Addr → Prop} {e : VEnv} {σ : L2.St} {H : Hp} {ws : List Nat} {p : Addr} {o : HO}
theorem kp_touch (hs : ¬ S p) : Kp S H S (upd H p o) := fun a h => ⟨h, upd_ne fun q => hs (q ▸ h)⟩
theorem rl_touch (R : Rl A S e σ H) (hs : ¬ S p) (hw : ¬ Wd e σ p) (h0 : A.H0 p = none) : Rl A S e σ (upd H p o) where
  len := R.len
  im := fun i d h => let ⟨v, h1, h2⟩ := R.im i d h; ⟨v, h1, h2.mono (kp_touch hs)⟩
  ow := fun i d h => by
    obtain ⟨a, h1, h2, h3, h4⟩ := R.ow i d h
    exact ⟨a, h1, h2, h3, h4.mono (kp_touch hs) (upd_ne fun q => hw ⟨i, ⟨d, .inl h⟩, q ▸ h1⟩)⟩
  io := fun i d h => by
    obtain ⟨a, h1, h2, h3, h4⟩ := R.io i d h
    exact ⟨a, h1, h2, h3, h4.mono (kp_touch hs) (upd_ne fun q => hw ⟨i, ⟨d, .inr h⟩, q ▸ h1⟩)⟩
  dis := R.dis
  fr := fun a u h1 h2 => by
    rw [upd_ne fun q => by rw [q, h0] at h1; cases h1]
    exact R.fr a u h1 h2
  s0 := R.s0
  s1 := R.s1
  sn := fun a h => by
    rw [upd_ne fun q => hs (by rw [← q]; exact h)]
    exact R.sn a h
  ion := fun i a h => by
    obtain ⟨h1, h2⟩ := R.ion i a h
    refine ⟨?_, h2⟩
    rw [upd_ne fun q => R.io0 i a h (by rw [q]; exact h0)]
    exact h1
  io0 := R.io0
theorem wipe_wipe : wipe (wipe σ ws) ws = wipe σ ws := by
  refine List.ext_getElem? fun i => ?_
  rw [wipe_get, wipe_get]
  by_cases h : i ∈ ws
  · rw [if_pos h, if_pos h]
    cases σ[i]? <;> rfl
  · rw [if_neg h, if_neg h]
theorem lc_imp {bp : Bool} {xi : M (List D)} {cond : M Bool} {xe : M D} {t : Tg} (hw : ∀ i ∈ t.sl, i ∈ ws) : ∀ σ H Q, tE A C W (bnd xi fun ds => compM ws t cond xe ds) σ H Q → tLc (iE A C W bp xi) (gT A bp t) (tT A C WF cond) (tV A C WF xe) ws σ H Q := by
  rintro σ H Q ⟨S, e, R, h⟩
  refine ⟨S, e, R, h.bnd.imp fun ds e1 S1 H1 R1 M1 ⟨_, h1⟩ J wd D hD => ?_⟩
  unfold compM at h1
  by_cases hz : sz < ds.length
  · rw [if_pos hz] at h1; exact h1.elim
  rw [if_neg hz] at h1
  cases hfz : fzAll ws e1 with
  | none => simp only [hfz] at h1; exact h1.elim
  | some e0 =>
  simp only [hfz] at h1
  cases hcl : compL ws t cond xe ds [] (wipeE ws e0) with
  | bad => simp only [hcl] at h1; exact h1.elim
  | exc c e2 => simp only [hcl] at h1; exact h1.elim
  | ok acc e2 =>
  simp only [hcl] at h1
  obtain ⟨S0, R0, M0, n0, l0⟩ := frz_all R1 hfz
  obtain ⟨G, Y, wk, hG, hY⟩ := wd
  have Rw0 := rl_wipe R0 n0
  have h0D : A.H0 D = none := R1.h0 hD
  have zl : ds.length ≤ sizeLine := by rw [← sz_eq]; omega
  refine lc_it wk (fun i H' => ∃ S' eB vs dacc, Rl A S' eB (wipe σ ws) H' ∧ Mn (wipeE ws e0) (wipe σ ws) S0 H1 eB S' H' ∧ H' D = some (.lst vs) ∧ Rvs A.K A.w S' H' vs dacc ∧ vs.length ≤ i ∧ ¬ S' D ∧ ¬ Wd eB (wipe σ ws) D ∧ compL ws t cond xe (ds.drop i) dacc eB = .ok acc e2) ?_ ?_ ?_ ?_
  · exact ⟨S0, wipeE ws e0, [], [], Rw0.new hD, .new Rw0 hD, upd_same, .nil, Nat.le_refl _, R0.notS hD, Rw0.notOwn hD, hcl⟩
  · rintro i H' hi ⟨S', eB, vs, dacc, R', M', -⟩
    exact hG S' H' ((M0.kp R1).trans (M'.kp Rw0))
  · rintro i x H' H'' hi ⟨S', eB, vs, dacc, R', M', hDv, hv, hl, nS, nW, hc⟩ y
    obtain ⟨d, ext, hd, hxd⟩ := hY i S' H' x H'' hi ((M0.kp R1).trans (M'.kp Rw0)) R'.sn y
    have hDn : H' D ≠ none := by rw [hDv]; simp
    obtain ⟨R3, M3, k3, hD3, nS3⟩ : Rl A S' eB (wipe σ ws) H'' ∧ Mn (wipeE ws e0) (wipe σ ws) S0 H1 eB S' H'' ∧ Kp S' H' S' H'' ∧ H'' D = some (.lst vs) ∧ ¬ S' D := by
      rcases ext with rfl | ⟨p, o, hp, rfl⟩
      · exact ⟨R', M', .refl, hDv, nS⟩
      · have hpD : D ≠ p := fun z => hDn (by rw [z]; exact hp)
        refine ⟨R'.new hp, M'.trans (.new R' hp), kp_new hp R'.sn, ?_, nS⟩
        rw [upd_ne hpD]; exact hDv
    have hdrop : ds.drop i = d :: ds.drop (i + 1) := by
      obtain ⟨hi', hd'⟩ := List.getElem?_eq_some_iff.mp hd
      rw [List.drop_eq_getElem_cons hi', hd']
    rw [hdrop] at hc
    unfold compL at hc
    obtain ⟨u, eT, hbT, hc⟩ := bnd_ok hc
    obtain ⟨b, e4, hcond, hc⟩ := bnd_ok hc
    obtain ⟨lT, oT, gT'⟩ := bindT_len t d eB eT hbT
    refine ⟨S', eB, d, eT, R3, hxd, hbT, fun σ2 R2 same => ?_⟩
    have same' := same.sub hw
    have w2 : wipe σ2 ws = wipe σ ws := by rw [same'.wipe, wipe_wipe]
    have wdT : ∀ a, Wd eT σ2 a → Wd eB (wipe σ ws) a := fun a ⟨i, o1, o2⟩ => by
      obtain ⟨o3, o4⟩ := oT i o1
      rw [same.2 i o4] at o2
      exact ⟨i, o3, o2⟩
    -- what a turn's end asks
    have fin : ∀ (e5 : VEnv) (S6 : Addr → Prop) (H6 H7 : Hp) (vs7 : List V) (d7 : List PyData), Rl A S6 e5 σ2 H6 → Mn eT σ2 S' H'' e5 S6 H6 → (∀ a, a ≠ D → H7 a = H6 a) → H7 D = some (.lst vs7) → Rvs A.K A.w S6 H7 vs7 d7 → vs7.length ≤ i + 1 →
        compL ws t cond xe (ds.drop (i + 1)) d7 (wipeE ws e5) = .ok acc e2 →
        ∃ S' eB vs dacc, Rl A S' eB (wipe σ ws) H7 ∧ Mn (wipeE ws e0) (wipe σ ws) S0 H1 eB S' H7 ∧ H7 D = some (.lst vs) ∧ Rvs A.K A.w S' H7 vs dacc ∧ vs.length ≤ i + 1 ∧ ¬ S' D ∧ ¬ Wd eB (wipe σ ws) D ∧ compL ws t cond xe (ds.drop (i + 1)) dacc eB = .ok acc e2 := by
      intro e5 S6 H6 H7 vs7 d7 R6 M6 h67 h7D q7 l7 c7
      have n6 : ∀ i ∈ ws, ¬ Own e5 i ∨ True := fun _ _ => .inr True.intro
      have e7 : H7 = upd H6 D (.lst vs7) := by
        funext a
        by_cases ha : a = D
        · subst ha; rw [h7D, upd_same]
        · rw [h67 a ha, upd_ne ha]
      have own5 : ∀ j, Own e5 j → Own eB j ∧ j ∉ t.sl := fun j hj => oT j (M6.own j hj)
      have nD6 : ¬ S6 D := fun z => by
        rcases M6.dn D (by rw [hD3]; simp) z with z | z
        · exact nS3 z
        · exact nW (wdT D z)
      have own0 : ∀ j, Own eB j → j ∉ ws := fun j hj hm => by
        obtain ⟨d', z⟩ := M'.own j hj
        rw [wipeE_get, if_pos hm] at z
        rcases z with z | z <;> cases z
      have R7 : Rl A S6 (wipeE ws e5) (wipe σ ws) H6 := by
        rw [← w2]
        exact rl_wipe R6 fun j hm hj => own0 j (own5 j hj).1 hm
      have nW7 : ¬ Wd (wipeE ws e5) (wipe σ ws) D := fun ⟨j, ⟨d', z1⟩, z2⟩ => by
        rw [wipeE_get] at z1
        by_cases hm : j ∈ ws
        · rw [if_pos hm] at z1; rcases z1 with z1 | z1 <;> cases z1
        · rw [if_neg hm] at z1
          exact nW ⟨j, (own5 j ⟨d', z1⟩).1, z2⟩
      refine ⟨S6, wipeE ws e5, vs7, d7, ?_, ?_, h7D, q7, l7, nD6, nW7, c7⟩
      · rw [e7]; exact rl_touch R7 nD6 nW7 h0D
      · refine ⟨fun a o ha hwa => ?_, fun a ha => M6.up a (M3.up a ha), fun a ha hs => ?_, fun j hj => ?_, fun a ha => ?_, ?_⟩
        · have h2 := M3.keep a o ha hwa
          have h3 := M6.keep a o h2 fun z => hwa ((wdT a z).sub M3.own)
          rw [h67 a fun z => by rw [z, hD] at ha; cases ha]
          exact h3
        · rcases M6.dn a (M3.st a ha) hs with z | z
          · exact M3.dn a ha z
          · exact .inr ((wdT a z).sub M3.own)
        · obtain ⟨d', z1⟩ := hj
          rw [wipeE_get] at z1
          by_cases hm : j ∈ ws
          · rw [if_pos hm] at z1; rcases z1 with z1 | z1 <;> cases z1
          · rw [if_neg hm] at z1
            exact M3.own j (own5 j ⟨d', z1⟩).1
        · by_cases hD' : a = D
          · subst hD'; rw [h7D]; simp
          · rw [h67 a hD']; exact M6.st a (M3.st a ha)
        · rw [wipeE_len, M6.ln, lT, M3.ln]
    refine ⟨w2, S', eT, R2, ?_⟩
    rw [hcond]
    intro S5 H5 R5 M5
    have hD5 : H5 D = some (.lst vs) := M5.keep D _ hD3 fun z => nW (wdT D z)
    cases b with
    | true =>
      rw [if_pos rfl] at hc
      dsimp only
      rw [if_pos rfl]
      obtain ⟨dx, e5, helt, hc⟩ := bnd_ok hc
      refine ⟨S5, e4, R5, ?_⟩
      rw [helt]
      intro S6 H6 R6 M6 yv hy
      have M56 := M5.trans M6
      have hD6 : H6 D = some (.lst vs) := M56.keep D _ hD3 fun z => nW (wdT D z)
      have nD6 : ¬ S6 D := fun z => by
        rcases M56.dn D (by rw [hD3]; simp) z with z | z
        · exact nS3 z
        · exact nW (wdT D z)
      refine ⟨vs, hD6, by omega, ?_⟩
      refine fin e5 S6 H6 _ (vs ++ [yv]) (dacc ++ [dx]) R6 M56 (fun a ha => upd_ne ha) upd_same ?_ (by simp; omega) hc
      have kk : Kp S' H' S6 (upd H6 D (.lst (vs ++ [yv]))) := (k3.trans (M56.kp R2)).trans (kp_touch nD6)
      exact (hv.mono kk).append (.cons (hy.mono (kp_touch nD6)) .nil)
    | false =>
      rw [if_neg Bool.false_ne_true] at hc
      dsimp only
      rw [if_neg Bool.false_ne_true]
      exact fin e4 S5 H5 _ vs dacc R5 M5 (fun a ha => rfl) hD5 (hv.mono (k3.trans (M5.kp R2))) (by omega) hc
  · rintro H' ⟨S', eB, vs, dacc, R', M', hDv, hv, hl, nS, nW, hc⟩
    rw [List.drop_length] at hc
    have hc : (O.ok dacc eB : O (List PyData)) = .ok acc e2 := hc
    cases hc
    have ll : e2.length = e0.length := by rw [M'.ln, wipeE_len]
    have ownB : ∀ j, Own (back ws e0 e2) j → j ∉ ws ∧ Own e2 j := fun j ⟨d', z⟩ => by
      rw [back_get _ _ _ ll] at z
      by_cases hm : j ∈ ws
      · rw [if_pos hm] at z; exact absurd ⟨d', z⟩ (n0 j hm)
      · rw [if_neg hm] at z; exact ⟨hm, d', z⟩
    have own0 : ∀ j, Own (wipeE ws e0) j → Own e0 j := fun j ⟨d', z⟩ => by
      rw [wipeE_get] at z
      by_cases hm : j ∈ ws
      · rw [if_pos hm] at z; rcases z with z | z <;> cases z
      · rw [if_neg hm] at z; exact ⟨d', z⟩
    have MB : Mn e0 σ S0 H1 (back ws e0 e2) S' H' := ⟨fun a o ha hwa => M'.keep a o ha fun z => hwa (wd_wipe z), M'.up, fun a ha hs => (M'.dn a ha hs).imp id wd_wipe, fun j hj => own0 j (M'.own j (ownB j hj).2), M'.st, by rw [back_len, ll]⟩
    refine h1 S' H' (rl_back R' R0 (M'.kp Rw0) n0 ll) (M0.trans MB) (.ref D) (.fresh nS h0D (fun ⟨j, z1, z2⟩ => ?_) (.lst hDv (by omega) hv)) fun d' a z1 z2 => ?_
    · obtain ⟨z3, z4⟩ := ownB j z1
      exact nW ⟨j, z4, by rw [at_wipe z3]; exact z2⟩
    · cases z2
      cases q : H D with
      | none => rfl
      | some o => exact absurd hD (M1.st D (by rw [q]; simp))
end
section
variable {X : Cx} {A : Am} {C : Ecls} {W : WX}
theorem PTs.imp {e : List Expr} {t t' : TT} (h : PTs X e t) (i : ∀ σ H Q, t' σ H Q → t σ H Q) : PTs X e t' := ⟨fun pins s σ H Q I q => h.run pins s σ H Q I (i σ H Q q)⟩
theorem pts_noE : PTs X [] (tT A C W (ret true)) := by
  refine PTs.imp pts_nil ?_
  rintro σ H Q ⟨S, e, R, h⟩
  exact h S H R .refl
theorem pe_lcE {elt tg iter : Expr} {ifs : List Expr} {scope : Scope} {own : List (Str × Nat)} {pos : Pos} {bp : Bool} {xi : M (List D)} {cond : M Bool} {xe : M D} {t : Tg} (hc : X.calm = true) (hN : X.N.Nodup) (hi : PI X tg iter (iE A C W bp xi)) (ok : BlkOk X.N X.env.scope scope own)
    (hg : ∀ (s : Shared) (H : Hp) (C : Addr) (cl : List (Str × Addr)) (fp : List Addr), PG (X.blk s H scope (compEnvC scope cl C X.env) fp) tg (gT A bp t)) (ht : ∀ (s : Shared) (H : Hp) (c : Addr) (cl : List (Str × Addr)) (fp : List Addr), PTs (X.blk s H scope (compEnvC scope cl c X.env) fp) ifs (tT A C WF cond))
    (he : ∀ (s : Shared) (H : Hp) (c : Addr) (cl : List (Str × Addr)) (fp : List Addr), PE (X.blk s H scope (compEnvC scope cl c X.env) fp) elt (tV A C WF xe)) (hs : ∀ x, foldedSetIterable iter X.env x = pure x) (hw : ∀ i ∈ t.sl, i ∈ own.map (·.2)) :
    PE X (.ListComp elt [⟨tg, iter, ifs, 0⟩] scope pos) (tE A C W (bnd xi fun ds => compM (own.map (·.2)) t cond xe ds)) :=
  PE.imp (pe_lc hc hN hi ok hg ht he hs) (lc_imp hw)
end
end Ev
/-! text EvL -/
set_option Elab.async false
set_option linter.all false
set_option maxRecDepth 100000
/-! Ev: statements. -/
namespace Ev
open PySem PySem.Spec PyProof.Rows L2
def EndF (A : Am) (D : Ends) (f : Fl) (S : Addr → Prop) (σ : L2.St) (H : Hp) : Prop := match f with
  | .nx => D.nx σ H
  | .brk => D.bk σ H
  | .cont => D.ct σ H
  | .ret d false => ∀ v, Rv A.K A.w S H v d → D.rt v H
  | .ret d true => ∀ a, ¬ S a → A.H0 a = none → Ro A.K A.w S H a d → D.rt (.ref a) H
def ResF (A : Am) (C : Ecls) (W : WX) (D : Ends) (S : Addr → Prop) (H : Hp) (o : O Fl) : Prop := match o with
  | .ok f e' => ∀ S' σ' H', Rl A S' e' σ' H' → Kp S H S' H' → EndF A D f S' σ' H'
  | .exc c e' => ∀ S' σ' H' dd, Rl A S' e' σ' H' → Kp S H S' H' → W (C c) dd σ' H'
  | .bad => False
def tS (A : Am) (C : Ecls) (W : WX) (x : M Fl) : TS := fun D σ H => ∃ S e, Rl A S e σ H ∧ ResF A C W D S H (x e)
section
variable {A : Am} {C : Ecls} {W : WX} {D D' : Ends} {S S' : Addr → Prop} {H H' : Hp} {σ : L2.St} {e e' : VEnv} {o : O Fl}
theorem ResF.kp (h : ResF A C W D S H o) (k : Kp S H S' H') : ResF A C W D S' H' o := by
  cases o with
  | ok f e' => exact fun S2 σ2 H2 R2 k2 => h S2 σ2 H2 R2 (k.trans k2)
  | exc c e' => exact fun S2 σ2 H2 dd R2 k2 => h S2 σ2 H2 dd R2 (k.trans k2)
  | bad => exact h
/-- an expression, then a statement -/
theorem resF_bnd {α : Type} {x : M α} {f : α → M Fl} (R : Rl A S e σ H) (h : ResF A C W D S H (bnd x f e)) : Res A C W σ S H e (x e) fun a e1 S1 H1 => ResF A C W D S1 H1 (f a e1) := by
  unfold bnd at h
  cases q : x e with
  | ok a e1 =>
    rw [q] at h
    exact fun S1 H1 R1 M1 => ResF.kp h (M1.kp R)
  | exc c e1 =>
    rw [q] at h
    exact fun S1 H1 dd R1 M1 => h S1 σ H1 dd R1 (M1.kp R)
  | bad => rw [q] at h; exact h
/-- a statement, then a statement -/
theorem resF_seq {x : M Fl} {f : Fl → M Fl} (h : ResF A C W D S H (bnd x f e)) (hn : ∀ fl e1 S1 σ1 H1, Rl A S1 e1 σ1 H1 → Kp S H S1 H1 → ResF A C W D S1 H1 (f fl e1) → EndF A D' fl S1 σ1 H1) : ResF A C W D' S H (x e) := by
  unfold bnd at h
  cases q : x e with
  | ok fl e1 =>
    rw [q] at h
    exact fun S1 σ1 H1 R1 k1 => hn fl e1 S1 σ1 H1 R1 k1 (ResF.kp h k1)
  | exc c e1 => rw [q] at h; exact h
  | bad => rw [q] at h; exact h
end
theorem bind1_nx (i : Nat) (s : Slot) (e : VEnv) (c : Nat) (e' : VEnv) : bind1 i s e ≠ .exc c e' := by
  unfold bind1
  split
  · intro z; cases z
  · split <;> (intro z; cases z)
theorem fz_nx (r : R) (e : VEnv) (c : Nat) (e' : VEnv) : fz r e ≠ .exc c e' := by
  cases r with
  | val d => intro z; cases z
  | fresh d => intro z; cases z
  | slot i =>
    unfold fz
    dsimp only
    split <;> (intro z; cases z)
theorem bnd_nx {α β : Type} {x : M α} {f : α → M β} {e e' : VEnv} {c : Nat} (hx : ∀ c e', x e ≠ .exc c e') (hf : ∀ a e1 c e', f a e1 ≠ .exc c e') : bnd x f e ≠ .exc c e' := by
  unfold bnd
  cases q : x e with
  | ok a e1 => exact hf a e1 c e'
  | exc c1 e1 => exact absurd q (hx _ _)
  | bad => intro z; cases z
mutual
theorem bindT_nx : ∀ (t : Tg) (d : D) (e : VEnv) (c : Nat) (e' : VEnv), bindT t d e ≠ .exc c e'
  | .nm i, d, e, c, e' => by
    have : bindT (.nm i) d = bind1 i (.im d) := by simp [bindT]
    rw [this]; exact bind1_nx _ _ _ _ _
  | .tp ts, d, e, c, e' => by
    unfold bindT
    cases q : seq? d with
    | none => intro z; cases z
    | some ds => exact bindTs_nx ts ds e c e'
theorem bindTs_nx : ∀ (ts : List Tg) (ds : List D) (e : VEnv) (c : Nat) (e' : VEnv), bindTs ts ds e ≠ .exc c e'
  | [], [], e, c, e' => by simp [bindTs, ret]
  | [], _ :: _, e, c, e' => by simp [bindTs, bad]
  | _ :: _, [], e, c, e' => by simp [bindTs, bad]
  | t :: ts, d :: ds, e, c, e' => by
    have : bindTs (t :: ts) (d :: ds) = bnd (bindT t d) fun _ => bindTs ts ds := by simp [bindTs]
    rw [this]
    exact bnd_nx (fun c e' => bindT_nx t d e c e') fun _ e1 c e' => bindTs_nx ts ds e1 c e'
end
theorem bindR_nx (i : Nat) (r : R) (e : VEnv) (c : Nat) (e' : VEnv) : bindR i r e ≠ .exc c e' := by
  cases r with
  | val d => exact bind1_nx _ _ _ _ _
  | fresh d => exact bind1_nx _ _ _ _ _
  | slot j => exact bnd_nx (fun c e' => fz_nx _ _ _ _) fun _ _ _ _ => bind1_nx _ _ _ _ _
theorem PSs.imp {X : Cx} {e : List Stmt} {t t' : TS} (h : PSs X e t) (i : ∀ D σ H, t' D σ H → t D σ H) : PSs X e t' := ⟨fun pins s σ H D I q => h.run pins s σ H D I (i D σ H q)⟩
section
variable {X : Cx} {A : Am} {C : Ecls} {W : WX} {pos : Pos}
theorem pss_nilE : PSs X [] (tS A C W (ret .nx)) := by
  refine PSs.imp pss_nil ?_
  rintro D σ H ⟨S, e, R, h⟩
  exact h S σ H R .refl
theorem endF_ret {A : Am} {C : Ecls} {W : WX} (f : Fl) (D : Ends) {S' : Addr → Prop} {H' : Hp} {σ' : L2.St} {e' : VEnv} (R' : Rl A S' e' σ' H') (h : ResF A C W D S' H' (ret f e')) : EndF A D f S' σ' H' := h S' σ' H' R' .refl
theorem pss_consE {s : Stmt} {ss : List Stmt} {x : M Fl} {y : M Fl} (h1 : PS X s (tS A C W x)) (h2 : PSs X ss (tS A C W y)) : PSs X (s :: ss) (tS A C W (bnd x fun f => match f with
    | .nx => y
    | f => ret f)) := by
  refine PSs.imp (pss_cons h1 h2) ?_
  rintro D σ H ⟨S, e, R, h⟩
  refine ⟨S, e, R, resF_seq h fun fl e1 S1 σ1 H1 R1 k1 h1 => ?_⟩
  cases fl with
  | nx => exact ⟨S1, e1, R1, h1⟩
  | brk => exact endF_ret .brk D R1 h1
  | cont => exact endF_ret .cont D R1 h1
  | ret d fr =>
    have := endF_ret (.ret d fr) D R1 h1
    cases fr <;> exact this
theorem ps_passE : PS X (.Pass pos) (tS A C W (ret .nx)) := by
  refine PS.imp ps_pass ?_
  rintro D σ H ⟨S, e, R, h⟩
  exact h S σ H R .refl
theorem ps_docE {x : Str} {j : Option Str} {k : Nat} {pos' : Pos} (hd : PS X (.Expr (.Constant (.str x) k pos) pos') tNext) : PS X (.Expr (.Constant (.str x) k pos) pos') (tS A C W (ret .nx)) := by
  refine PS.imp hd ?_
  rintro D σ H ⟨S, e, R, h⟩
  exact h S σ H R .refl
theorem ps_brkE : PS X (.Break pos) (tS A C W (ret .brk)) := by
  refine PS.imp ps_break ?_
  rintro D σ H ⟨S, e, R, h⟩
  exact h S σ H R .refl
theorem ps_contE : PS X (.Continue pos) (tS A C W (ret .cont)) := by
  refine PS.imp ps_continue ?_
  rintro D σ H ⟨S, e, R, h⟩
  exact h S σ H R .refl
theorem ps_exE {a : Expr} {xa : M R} (ha : PE X a (tE A C W xa)) (hs : swapsWith a none pos.line X.env = pure false) : PS X (.Expr a pos) (tS A C W (bnd xa fun _ => ret .nx)) := by
  refine PS.imp (ps_expr ha hs) ?_
  rintro D σ H ⟨S, e, R, h⟩
  exact ⟨S, e, R, (resF_bnd R h).imp fun r e1 S1 H1 R1 M1 h1 v _ _ => h1 S1 σ H1 R1 .refl⟩
theorem ps_retNE : PS X (.Return none pos) (tS A C W (ret (.ret .none false))) := by
  refine PS.imp ps_retN ?_
  rintro D σ H ⟨S, e, R, h⟩
  exact h S σ H R .refl .non .non
theorem ps_retE {a : Expr} {xa : M R} (ha : PE X a (tE A C W xa)) : PS X (.Return (some a) pos) (tS A C W (bnd xa retR)) := by
  refine PS.imp (ps_ret ha) ?_
  rintro D σ H ⟨S, e, R, h⟩
  refine ⟨S, e, R, (resF_bnd R h).imp fun r e1 S1 H1 R1 M1 h1 v q _ => ?_⟩
  unfold retR at h1
  cases q with
  | val q => exact h1 S1 σ H1 R1 .refl v q
  | fresh q1 q2 q3 q4 => exact h1 S1 σ H1 R1 .refl _ q1 q2 q4
  | @slot _ i q =>
    simp only at h1
    cases qs : e1.getD i .no with
    | no => simp only [qs] at h1; exact h1.elim
    | io d => simp only [qs] at h1; exact h1.elim
    | im d =>
      simp only [qs] at h1
      obtain ⟨v', z1, z2⟩ := R1.im i d qs
      rw [q] at z1; cases z1
      exact h1 S1 σ H1 R1 .refl v z2
    | ow d =>
      simp only [qs] at h1
      obtain ⟨a', z1, z2, z3, z4⟩ := R1.ow i d qs
      rw [q] at z1; cases z1
      exact h1 S1 σ H1 R1 .refl _ z2 z3 z4
theorem ps_ifE {c : Expr} {a b : List Stmt} {xq : M R} {x y : M Fl} (hc : PT X c (tT A C W (bnd xq truthM))) (ha : PSs X a (tS A C W x)) (hb : PSs X b (tS A C W y)) : PS X (.If c a b pos) (tS A C W (bnd xq fun rq => bnd (truthM rq) fun k => if k then x else y)) := by
  refine PS.imp (ps_if hc ha hb) ?_
  rintro D σ H ⟨S, e, R, h⟩
  have z : bnd xq (fun rq => bnd (truthM rq) fun k => if k then x else y) e = bnd (bnd xq truthM) (fun k => if k then x else y) e := by
    unfold bnd
    cases xq e <;> rfl
  rw [z] at h
  refine ⟨S, e, R, (resF_bnd R h).imp fun k e1 S1 H1 R1 M1 h1 => ?_⟩
  cases k with
  | true => rw [if_pos rfl] at h1 ⊢; exact ⟨S1, e1, R1, h1⟩
  | false => rw [if_neg Bool.false_ne_true] at h1 ⊢; exact ⟨S1, e1, R1, h1⟩
theorem ps_whileE {c : Expr} {b : List Stmt} {xq : M R} {x : M Fl} (hp : PassesOwn (model X.prog X.w) X.A X.env X.xe) (hc : PT X c (tT A C W (bnd xq truthM))) (hb : PSs X b (tS A C W x)) : PS X (.While c b [] pos) (tS A C W (whlL (bnd xq truthM) x fuelW)) := by
  refine PS.imp (ps_while hp hc hb) ?_
  rintro D σ H ⟨S, e, R, h⟩
  refine ⟨fun m σ H => ∃ S e, Rl A S e σ H ∧ ResF A C W D S H (whlL (bnd xq truthM) x m e), ⟨fuelW, S, e, R, h⟩, ?_⟩
  rintro m σ H ⟨S, e, R, h⟩
  cases m with
  | zero => exact h.elim
  | succ m =>
    unfold whlL at h
    refine ⟨S, e, R, (resF_bnd R h).imp fun k e1 S1 H1 R1 M1 h1 => ?_⟩
    cases k with
    | false =>
      rw [if_neg Bool.false_ne_true] at h1 ⊢
      exact h1 S1 σ H1 R1 .refl
    | true =>
      rw [if_pos rfl] at h1 ⊢
      refine ⟨fun σ H => ∃ S e, Rl A S e σ H ∧ ResF A C W D S H (whlL (bnd xq truthM) x m e), fun σ' H' n => ⟨m, Nat.lt_succ_self m, n⟩, S1, e1, R1, resF_seq h1 fun fl e2 S2 σ2 H2 R2 k2 h2 => ?_⟩
      cases fl with
      | nx => exact ⟨S2, e2, R2, h2⟩
      | cont => exact ⟨S2, e2, R2, h2⟩
      | brk => exact h2 S2 σ2 H2 R2 .refl
      | ret d fr =>
        have := endF_ret (.ret d fr) D R2 h2
        cases fr <;> exact this
theorem ps_forE {tg iter : Expr} {b : List Stmt} {bp : Bool} {t : Tg} {xi : M (List Ev.D)} {x : M Fl} (hp : PassesOwn (model X.prog X.w) X.A X.env X.xe) (hc : X.calm = true) (hi : PI X tg iter (iE A C W bp xi)) (hg : PG X tg (gT A bp t)) (hb : PSs X b (tS A C W x)) (hs : ∀ x, foldedSetIterable iter X.env x = pure x) :
    PS X (.For tg iter b [] pos) (tS A C W (bnd xi fun ds => forL t x ds)) := by
  refine PS.imp (ps_for hp hc hi hg hb hs) ?_
  rintro D σ H ⟨S, e, R, h⟩
  refine ⟨S, e, R, (resF_bnd R h).imp fun ds e1 S1 H1 R1 M1 h1 J wd => ?_⟩
  obtain ⟨G, Y, wk, hG, hY⟩ := wd
  refine for_it wk (fun i σ H => ∃ S e, Rl A S e σ H ∧ Kp S1 H1 S H ∧ ResF A C W D S H (forL t x (ds.drop i) e)) ⟨S1, e1, R1, .refl, h1⟩ (fun i σ H hi ⟨S, e, R, k, h⟩ => hG S H k) ?_ ?_
  · rintro i v σ2 H2 H3 hi ⟨S2, e2, R2, k2, h2⟩ y
    obtain ⟨d, ext, hd, hv⟩ := hY i S2 H2 v H3 hi k2 R2.sn y
    obtain ⟨R3, k3⟩ : Rl A S2 e2 σ2 H3 ∧ Kp S2 H2 S2 H3 := by
      rcases ext with rfl | ⟨p, o, hp, rfl⟩
      · exact ⟨R2, .refl⟩
      · exact ⟨R2.new hp, kp_new hp R2.sn⟩
    have hdrop : ds.drop i = d :: ds.drop (i + 1) := by
      obtain ⟨hi', hd'⟩ := List.getElem?_eq_some_iff.mp hd
      rw [List.drop_eq_getElem_cons hi', hd']
    rw [hdrop] at h2
    unfold forL at h2
    cases q : bindT t d e2 with
    | bad => unfold bnd at h2; rw [q] at h2; exact h2.elim
    | exc c e3 =>
      exact absurd q (bindT_nx _ _ _ _ _)
    | ok u eT =>
      have h3 : ResF A C W D S2 H2 (bnd x (fun f => match f with
        | .nx => forL t x (ds.drop (i + 1))
        | .cont => forL t x (ds.drop (i + 1))
        | .brk => ret .nx
        | .ret d fr => ret (.ret d fr)) eT) := by
        unfold bnd at h2; rw [q] at h2; exact h2
      refine ⟨S2, e2, d, eT, R3, hv, q, fun σ3 R4 same => ⟨S2, eT, R4, resF_seq (ResF.kp h3 k3) fun fl e5 S5 σ5 H5 R5 k5 h5 => ?_⟩⟩
      cases fl with
      | nx => exact ⟨S5, e5, R5, (k2.trans k3).trans k5, h5⟩
      | cont => exact ⟨S5, e5, R5, (k2.trans k3).trans k5, h5⟩
      | brk => exact h5 S5 σ5 H5 R5 .refl
      | ret d fr =>
        have := endF_ret (.ret d fr) D R5 h5
        cases fr <;> exact this
  · rintro σ2 H2 ⟨S2, e2, R2, k2, h2⟩
    rw [List.drop_length] at h2
    exact h2 S2 σ2 H2 R2 .refl

/-! ### names take values -/
theorem asgR {i : Nat} {r : Ev.R} {S1 : Addr → Prop} {e1 : VEnv} {σ : L2.St} {H1 : Hp} {v : V} {e2 : VEnv} (R1 : Rl A S1 e1 σ H1) (q : Rr A S1 e1 σ H1 v r) (h : bindR i r e1 = .ok () e2) : ∃ S2, Rl A S2 e2 (σ.set i (some v)) H1 ∧ Kp S1 H1 S2 H1 := by
  unfold bindR at h
  cases q with
  | @val _ d q =>
    obtain ⟨h1, h2, rfl⟩ := bind1_of h
    exact ⟨S1, R1.put h1 h2 (.inr (.inl ⟨d, rfl, q⟩)), .refl⟩
  | @fresh a d q1 q2 q3 q4 =>
    obtain ⟨h1, h2, rfl⟩ := bind1_of h
    exact ⟨S1, R1.put h1 h2 (.inr (.inr ⟨d, a, rfl, rfl, q1, q2, q3, q4⟩)), .refl⟩
  | @slot _ j q =>
    simp only at h
    obtain ⟨d, e3, hf, hb⟩ := bnd_ok h
    obtain ⟨d', e', S', R', M', hv, z1, z2⟩ := fz_of (C := fun _ => Value.none) (W := WF) (P := fun d' e' _ _ => d' = d ∧ e' = e3) R1 R1 .refl (.slot q) (fun _ _ z => nomatch z) (by
      show Res A _ WF σ S1 H1 e1 (fz (.slot j) e1) _
      rw [hf]
      exact fun _ _ _ _ => ⟨rfl, rfl⟩)
    subst z1 z2
    obtain ⟨h1, h2, rfl⟩ := bind1_of hb
    exact ⟨S', R'.put h1 h2 (.inr (.inl ⟨d', rfl, hv⟩)), M'.kp R1⟩
theorem ps_setE {i : Nat} {x : Str} {a : Expr} {xa : M R} {pos' : Pos} (hp : PS X (.Assign [.Name x pos'] a pos) (tAsg (tE A C W xa) (gName i))) : PS X (.Assign [.Name x pos'] a pos) (tS A C W (bnd xa fun r => bnd (bindTR (.nm i) r) fun _ => ret .nx)) := by
  refine PS.imp hp ?_
  rintro D σ H ⟨S, e, R, h⟩
  refine ⟨S, e, R, (resF_bnd R h).imp fun r e1 S1 H1 R1 M1 h1 v q _ => ?_⟩
  have h1 : ResF A C W D S1 H1 (bnd (bindR i r) (fun _ => ret .nx) e1) := h1
  unfold bnd at h1
  cases hb : bindR i r e1 with
  | bad => rw [hb] at h1; exact h1.elim
  | exc c e2 => exact absurd hb (bindR_nx _ _ _ _ _)
  | ok u e2 =>
    rw [hb] at h1
    obtain ⟨S2, R2, k2⟩ := asgR R1 q hb
    exact h1 S2 _ H1 R2 k2
end
end Ev
/-! text EvM -/
set_option Elab.async false
set_option linter.all false
set_option maxRecDepth 100000
/-! Ev: own objects change. -/
namespace Ev
open PySem PySem.Spec PyProof.Rows L2
section
variable {A : Am} {C : Ecls} {W : WX} {S : Addr → Prop} {e : VEnv} {σ : L2.St} {H : Hp} {i : Nat} {a : Addr}
theorem getD_lt {e : VEnv} {i : Nat} {s : Slot} (h : e.getD i .no = s) (hs : s ≠ .no) : i < e.length := by
  by_cases hl : i < e.length
  · exact hl
  · simp [List.getD, List.getElem?_eq_none (Nat.le_of_not_lt hl)] at h
    exact absurd h.symm hs
/-- a slot's own object changes -/
theorem rl_own {s' : Slot} {d d' : D} {u : HO} (R : Rl A S e σ H) (hq : (e.getD i .no = .ow d ∧ s' = .ow d') ∨ (e.getD i .no = .io d ∧ s' = .io d')) (ha : σ[i]? = some (some (.ref a))) (hr : ¬ S a → Ro A.K A.w S (upd H a u) a d') :
    Rl A S (e.set i s') σ (upd H a u) ∧ Mn e σ S H (e.set i s') S (upd H a u) := by
  have hl : i < e.length := by
    rcases hq with ⟨q, _⟩ | ⟨q, _⟩
    · exact getD_lt q (by simp)
    · exact getD_lt q (by simp)
  have g := fun j => getD_set e i j s' hl
  have hown : Own e i := by
    rcases hq with ⟨q, _⟩ | ⟨q, _⟩
    · exact ⟨d, .inl q⟩
    · exact ⟨d, .inr q⟩
  have nS : ¬ S a := by
    rcases hq with ⟨q, _⟩ | ⟨q, _⟩
    · obtain ⟨b, h1, h2, _⟩ := R.ow i d q
      rw [ha] at h1; cases h1; exact h2
    · obtain ⟨b, h1, h2, _⟩ := R.io i d q
      rw [ha] at h1; cases h1; exact h2
  have hr := hr nS
  have low : ∀ j, Own (e.set i s') j → Own e j := fun j ⟨d2, hj⟩ => by
    by_cases hji : j = i
    · rw [hji]; exact hown
    · rw [g, if_neg hji] at hj; exact ⟨d2, hj⟩
  have other : ∀ j b d2, j ≠ i → Own e j → σ[j]? = some (some (.ref b)) → Ro A.K A.w S H b d2 → Ro A.K A.w S (upd H a u) b d2 := fun j b d2 hji oj hb ro =>
    ro.mono (kp_touch nS) (upd_ne fun z => hji (R.dis j i a oj hown (z ▸ hb) ha))
  constructor
  · refine ⟨by rw [List.length_set]; exact R.len, fun j d2 hj => ?_, fun j d2 hj => ?_, fun j d2 hj => ?_, fun j k b hj hk hb hc => R.dis j k b (low j hj) (low k hk) hb hc, fun b o h1 h2 => ?_, R.s0, R.s1, fun b hb => ?_, fun j b hb => ?_, R.io0⟩
    · rw [g] at hj
      by_cases hji : j = i
      · rw [if_pos hji] at hj
        rcases hq with ⟨_, rfl⟩ | ⟨_, rfl⟩ <;> cases hj
      · rw [if_neg hji] at hj
        obtain ⟨v, h1, h2⟩ := R.im j d2 hj
        exact ⟨v, h1, h2.mono (kp_touch nS)⟩
    · rw [g] at hj
      by_cases hji : j = i
      · rw [if_pos hji] at hj
        rcases hq with ⟨q, rfl⟩ | ⟨q, rfl⟩
        · cases hj
          obtain ⟨b, h1, h2, h3, _⟩ := R.ow i d q
          rw [ha] at h1; cases h1
          exact ⟨a, by rw [hji]; exact ha, nS, h3, hr⟩
        · cases hj
      · rw [if_neg hji] at hj
        obtain ⟨b, h1, h2, h3, h4⟩ := R.ow j d2 hj
        exact ⟨b, h1, h2, h3, other j b d2 hji ⟨d2, .inl hj⟩ h1 h4⟩
    · rw [g] at hj
      by_cases hji : j = i
      · rw [if_pos hji] at hj
        rcases hq with ⟨q, rfl⟩ | ⟨q, rfl⟩
        · cases hj
        · cases hj
          obtain ⟨b, h1, h2, h3, _⟩ := R.io i d q
          rw [ha] at h1; cases h1
          exact ⟨a, by rw [hji]; exact ha, nS, by rw [hji]; exact h3, hr⟩
      · rw [if_neg hji] at hj
        obtain ⟨b, h1, h2, h3, h4⟩ := R.io j d2 hj
        exact ⟨b, h1, h2, h3, other j b d2 hji ⟨d2, .inr hj⟩ h1 h4⟩
    · rw [upd_ne fun z => ?_]
      · exact R.fr b o h1 h2
      · rcases hq with ⟨q, _⟩ | ⟨q, _⟩
        · obtain ⟨c, z1, z2, z3, _⟩ := R.ow i d q
          rw [ha] at z1; cases z1
          rw [z, z3] at h1; cases h1
        · obtain ⟨c, z1, z2, z3, _⟩ := R.io i d q
          rw [ha] at z1; cases z1
          exact h2 i (by rw [z]; exact z3)
    · rw [upd_ne fun z => nS (by rw [← z]; exact hb)]
      exact R.sn b hb
    · obtain ⟨h1, h2⟩ := R.ion j b hb
      refine ⟨?_, h2⟩
      by_cases z : b = a
      · rw [z, upd_same]; simp
      · rw [upd_ne z]; exact h1
  · refine ⟨fun b o hb hw => ?_, fun _ h => h, fun _ _ h => .inl h, low, fun b hb => ?_, List.length_set⟩
    · rw [upd_ne fun z => hw ⟨i, hown, by rw [z]; exact ha⟩]; exact hb
    · by_cases z : b = a
      · rw [z, upd_same]; simp
      · rw [upd_ne z]; exact hb
theorem ownL_of {f : List D → Option (R × List D)} {r : R} {e' : VEnv} (R : Rl A S e σ H) (h : ownL i f e = .ok r e') : ∃ a xs ds ds' s', σ[i]? = some (some (.ref a)) ∧ H a = some (.lst xs) ∧ xs.length ≤ sizeLine ∧ Rvs A.K A.w S H xs ds ∧ f ds = some (r, ds') ∧ e' = e.set i s' ∧ ¬ S a ∧
    ∀ ys, ys.length ≤ sizeLine → Rvs A.K A.w S H ys ds' → Rl A S e' σ (upd H a (.lst ys)) ∧ Mn e σ S H e' S (upd H a (.lst ys)) := by
  unfold ownL at h
  cases q : e.getD i .no with
  | no => simp only [q] at h; cases h
  | im d => simp only [q] at h; cases h
  | ow d =>
    cases d with
    | list ds =>
      simp only [q] at h
      cases hf : f ds with
      | none => simp only [hf] at h; cases h
      | some p =>
        obtain ⟨r', ds'⟩ := p
        simp only [hf] at h; cases h
        obtain ⟨a, h1, h2, h3, h4⟩ := R.ow i _ q
        cases h4 with
        | lst g1 g2 g3 =>
          refine ⟨a, _, ds, ds', _, h1, g1, g2, g3, hf, rfl, h2, fun ys hz hy => rl_own R (.inl ⟨q, rfl⟩) h1 fun nS => .lst upd_same hz (hy.mono (kp_touch nS))⟩
    | _ => simp only [q] at h; cases h
  | io d =>
    cases d with
    | list ds =>
      simp only [q] at h
      cases hf : f ds with
      | none => simp only [hf] at h; cases h
      | some p =>
        obtain ⟨r', ds'⟩ := p
        simp only [hf] at h; cases h
        obtain ⟨a, h1, h2, h3, h4⟩ := R.io i _ q
        cases h4 with
        | lst g1 g2 g3 =>
          refine ⟨a, _, ds, ds', _, h1, g1, g2, g3, hf, rfl, h2, fun ys hz hy => rl_own R (.inr ⟨q, rfl⟩) h1 fun nS => .lst upd_same hz (hy.mono (kp_touch nS))⟩
    | _ => simp only [q] at h; cases h
theorem chkL_of {α : Type} {f : Unit → M α} {P : α → VEnv → (Addr → Prop) → Hp → Prop} (R : Rl A S e σ H) (h : Res A C W σ S H e (bnd (chkL i) f e) P) : ∃ a, σ[i]? = some (some (.ref a)) ∧ (∃ xs, SqL A.K H a xs) ∧ Res A C W σ S H e (f () e) P := by
  unfold chkL bnd at h
  cases q : e.getD i .no with
  | no => simp only [q] at h; exact h.elim
  | im d => simp only [q] at h; exact h.elim
  | ow d =>
    cases d with
    | list ds =>
      simp only [q] at h
      obtain ⟨a, h1, h2, h3, h4⟩ := R.ow i _ q
      cases h4 with
      | lst g1 g2 g3 => exact ⟨a, h1, ⟨_, .inl (.inl g1)⟩, h⟩
    | _ => simp only [q] at h; exact h.elim
  | io d =>
    cases d with
    | list ds =>
      simp only [q] at h
      obtain ⟨a, h1, h2, h3, h4⟩ := R.io i _ q
      cases h4 with
      | lst g1 g2 g3 => exact ⟨a, h1, ⟨_, .inl (.inl g1)⟩, h⟩
    | _ => simp only [q] at h; exact h.elim
end
theorem Res.ok' {α : Type} {A : Am} {C : Ecls} {W : WX} {S : Addr → Prop} {e : VEnv} {σ : L2.St} {H : Hp} {x : O α} {P : α → VEnv → (Addr → Prop) → Hp → Prop} (h : Res A C W σ S H e x P) (hx : ∀ c e', x ≠ .exc c e') : ∃ a e', x = .ok a e' ∧ ∀ S' H', Rl A S' e' σ H' → Mn e σ S H e' S' H' → P a e' S' H' := by
  cases x with
  | ok a e' => exact ⟨a, e', rfl, h⟩
  | exc c e' => exact absurd rfl (hx c e')
  | bad => exact h.elim
theorem ownL_nx (i : Nat) (f : List D → Option (R × List D)) (e : VEnv) (c : Nat) (e' : VEnv) : ownL i f e ≠ .exc c e' := by
  unfold ownL
  split
  · split <;> (intro z; cases z)
  · split <;> (intro z; cases z)
  · intro z; cases z
theorem extend_tupW (l : Addr) (items : Array Value) (n : Nat) (b : Addr) (items2 : Array Value) (n2 : Nat) (dd : Option Addr) (sl : Array (Option Value)) (c0 : ¬(!items.isEmpty && Builtin.List.listTooLong (items.size + items2.size)) = true) (c1 : items.size ≤ sizeLine) (c2 : items.size + items2.size ≤ sizeLine + 1) :
    Meets (Builtin.«list.extend» ⟨[.ref l, .ref b], []⟩) (fun _ R s => s.heap.get? l = some { cls := .type "list", data := .seq items n } ∧ s.heap.get? b = some { cls := .type "tuple", dict := dd, data := .seq items2 n2, slots := sl } ∧ R (.ok (.ret Value.none)) { s with heap := s.heap.update l (Obj.mapSeq fun x => x ++ items2), toks := s.toks }) :=
  .of_wp fun prog w A R s hh => by
    obtain ⟨hp, g, d, tk, os⟩ := s
    obtain ⟨hl, hb, hq⟩ := hh
    have g1 := AutoSeq1.idx_int
    have g2 := AutoSeq1.sub_tuple_tuple
    have g3 := AutoSeq1.sub_list_list
    have g4 := AutoSeq1.sub_tuple_list
    have g5 := AutoSeq1.sub_list_tuple
    have hz : (items ++ items2).size ≤ sizeLine + 1 := by rw [Array.size_append]; exact c2
    wp_walk using (wpAny_updateSeq hl rfl (hz := c1) (_hz' := hz)), AutoSeq1.wpAny_loadPart' hl, AutoSeq1.wpAny_loadPart' hb
    exact ⟨_, rfl, hq⟩
def rExtE (K : PySem.W.Frag) : V → List V → Hp → VK → Prop := fun x vs H Q => ∃ l b xs zs, x = .ref l ∧ vs = [.ref b] ∧ H l = some (.lst xs) ∧ (RdL K H b zs ∨ SqT K H b zs) ∧ (l ≠ b ∨ KL K b zs) ∧ xs.length + zs.length ≤ sizeLine ∧ Q .non (upd H l (.lst (xs ++ zs)))
section
variable {X : Cx}
theorem mt_extE : MtR X "list.extend" (rExtE X.K) := by
  intro pins s σ H x vs v us Q I rx rv h
  obtain ⟨l, b, xs, zs, rfl, rfl, hH, hB, hne0, hz, q⟩ := h
  have hne : l ≠ b := by
    rcases hne0 with h | ⟨its, n, h1, _, _⟩
    · exact h
    · rintro rfl
      have := (I.bs _ _ (I.ok.mod.kin _ _ h1)).2
      rw [hH] at this; cases this
  cases rx
  obtain ⟨u, rfl, ru⟩ := rv.one
  cases ru
  obtain ⟨z, its, n, r, hl, e⟩ := I.lstM hH
  have fin : ∀ its2 : List Value, Vals zs its2 → EP X pins σ Q Value.none { s with heap := s.heap.update l (Obj.mapSeq fun x => x ++ its2.toArray), toks := s.toks } := fun its2 r2 =>
    ⟨.non, _, I.lset (t' := s.toks) (its' := its ++ its2) hH e (by simp) (r.append r2) (by rw [List.length_append]; exact hz), rfl, q⟩
  have long : ∀ its2 : List Value, Vals zs its2 → ¬ (!its.toArray.isEmpty && Builtin.List.listTooLong (its.toArray.size + its2.toArray.size)) = true := fun its2 r2 => by
    have h1 := r2.length
    rw [show Builtin.List.listTooLong (its.toArray.size + its2.toArray.size) = false by unfold Builtin.List.listTooLong; exact decide_eq_false (by simp; omega), Bool.and_false]
    exact Bool.false_ne_true
  rcases hB with hB | hB
  · obtain ⟨its3, n3, r3, e3⟩ := lst_at I hB
    exact call_meets PySem.F.slot_list_extend ⟨_, e, rfl⟩ PySem.F.entry_list_extend (PySem.F.args_list_extend_2 _ _) (AutoSeq1.list_extend_list_list_0 l its.toArray n b its3.toArray n3 (long its3 r3) (by simp; omega) (by have := r3.length; simp; omega)) ⟨e, e3, fin its3 r3⟩
  · obtain ⟨its2, r2, ⟨⟨oc, od, dt, sl⟩, e2, hc, n2, hd⟩, hz2⟩ := I.tuple hB
    simp only at hc hd
    subst hc hd
    have h1 := r2.length
    exact call_meets PySem.F.slot_list_extend ⟨_, e, rfl⟩ PySem.F.entry_list_extend (PySem.F.args_list_extend_2 _ _) (extend_tupW l its.toArray n b its2.toArray n2 od sl (long its2 r2) (by simp; omega) (by simp; omega)) ⟨e, e2, fin its2 r2⟩
end
end Ev
/-! text EvN -/
set_option Elab.async false
set_option linter.all false
set_option maxRecDepth 100000
/-! Ev: methods, stores. -/
namespace Ev
open PySem PySem.Spec PyProof.Rows L2
section
variable {X : Cx} {A : Am} {C : Ecls} {W : WX} {o a : Expr} {i : Nat} {xa : M R} {xv : M D} {apos cpos : Pos}
theorem few1 {a : Expr} (hs : starEach [a] X.env = [(false, eval a X.env)]) : ((backTo cpos (starEach [a] X.env)).all (fun x => !x.1) && (backToKw cpos (keywordEach [] X.env)).all (fun x => x.1.isSome) && decide (([a] : List Expr).length + ([] : List Keyword).length + (if ([] : List Keyword).isEmpty then 0 else 1) < 30)) = true := by
  rw [hs]; rfl
theorem pe_appE (hK : X.K = A.K) (ho : PE X o (tVar i)) (ha : PE X a (tV A C W xv)) (hbase : attributeBase o "append" X.env (eval o X.env) = eval o X.env) (hline : (apos.endLine == cpos.line) = true) (hs : starEach [a] X.env = [(false, eval a X.env)]) : PE X (.Call (.Attribute o "append" apos) [a] [] cpos) (tE A C W (appM i xv)) := by
  refine PE.imp (pe_bm PySem.F.plainAttrs_list PySem.F.slot_list_append PySem.F.type_list_append mt_append ho (pa_cons ha pa_nil hs) hbase (few1 hs) hline hs rfl) ?_
  rintro σ H Q ⟨S, e, R, h⟩
  obtain ⟨p, hp, ⟨xs, hl⟩, h⟩ := chkL_of R h
  refine ⟨_, hp, .inl ⟨rfl, xs, by rw [hK]; exact hl⟩, S, e, R, h.bnd.imp fun d e1 S1 H1 R1 M1 ⟨_, h1⟩ v hv => ?_⟩
  obtain ⟨r, e2, ho, h2⟩ := h1.ok' (ownL_nx _ _ _)
  obtain ⟨q, ys, ds, ds', s', g1, g2, g3, g4, g5, rfl, g7, g8⟩ := ownL_of R1 ho
  rw [hp] at g1; cases g1
  split at g5
  · rename_i hz
    cases g5
    have zl : ys.length < sizeLine := by rw [g4.length, ← sz_eq]; exact hz
    obtain ⟨R2, M2⟩ := g8 (ys ++ [v]) (by rw [List.length_append]; exact zl) (g4.append (.cons hv .nil))
    exact ⟨p, ys, v, rfl, rfl, g2, zl, h2 _ _ R2 M2 .non (.val .non) (fun _ _ z => nomatch z)⟩
  · cases g5
theorem pe_extE (hK : X.K = A.K) (ho : PE X o (tVar i)) (ha : PE X a (tV A C W xv)) (hbase : attributeBase o "extend" X.env (eval o X.env) = eval o X.env) (hline : (apos.endLine == cpos.line) = true) (hs : starEach [a] X.env = [(false, eval a X.env)]) : PE X (.Call (.Attribute o "extend" apos) [a] [] cpos) (tE A C W (extM i xv)) := by
  refine PE.imp (pe_bm PySem.F.plainAttrs_list PySem.F.slot_list_extend PySem.F.type_list_extend mt_extE ho (pa_cons ha pa_nil hs) hbase (few1 hs) hline hs rfl) ?_
  rintro σ H Q ⟨S, e, R, h⟩
  obtain ⟨p, hp, ⟨xs, hl⟩, h⟩ := chkL_of R h
  refine ⟨_, hp, .inl ⟨rfl, xs, by rw [hK]; exact hl⟩, S, e, R, h.bnd.imp fun d e1 S1 H1 R1 M1 ⟨_, h1⟩ v hv => ?_⟩
  cases hd : seq? d with
  | none => simp only [hd] at h1; exact h1.elim
  | some zs =>
    simp only [hd] at h1
    obtain ⟨r, e2, ho, h2⟩ := h1.ok' (ownL_nx _ _ _)
    obtain ⟨q, ys, ds, ds', s', g1, g2, g3, g4, g5, rfl, g7, g8⟩ := ownL_of R1 ho
    rw [hp] at g1; cases g1
    split at g5
    · rename_i hz
      cases g5
      obtain ⟨b, us, rfl, hb, hsb, qu⟩ : ∃ b us, v = .ref b ∧ (RdL X.K H1 b us ∨ SqT X.K H1 b us) ∧ (S1 b ∨ KL X.K b us) ∧ Rvs A.K A.w S1 H1 us zs := by
        cases hv with
        | lst q1 q2 q3 q4 => cases hd; exact ⟨_, _, rfl, .inl (hK ▸ q2), q1.imp (fun z => z.1) (fun z => hK ▸ z), q4⟩
        | tup q1 q2 q3 q4 => cases hd; exact ⟨_, _, rfl, .inr (.inl q2.rd), .inl q1, q4⟩
        | _ => cases hd
      have zl : ys.length + us.length ≤ sizeLine := by rw [g4.length, qu.length, ← sz_eq]; exact hz
      obtain ⟨R2, M2⟩ := g8 (ys ++ us) (by rw [List.length_append]; exact zl) (g4.append qu)
      exact ⟨p, b, ys, us, rfl, rfl, g2, hb, hsb.imp (fun h z => g7 (z ▸ h)) id, zl, h2 _ _ R2 M2 .non (.val .non) (fun _ _ z => nomatch z)⟩
    · cases g5
theorem pe_popE (hK : X.K = A.K) (ho : PE X o (tVar i)) (hbase : attributeBase o "pop" X.env (eval o X.env) = eval o X.env) (hline : (apos.endLine == cpos.line) = true) : PE X (.Call (.Attribute o "pop" apos) [] [] cpos) (tE A C W (popM i)) := by
  refine PE.imp (pe_bm0 PySem.F.plainAttrs_list PySem.F.slot_list_pop PySem.F.type_list_pop mt_pop ho hbase hline) ?_
  rintro σ H Q ⟨S, e, R, h⟩
  have h : Res A C W σ S H e (ownL i _ e) _ := h
  obtain ⟨r, e2, ho, h2⟩ := h.ok' (ownL_nx _ _ _)
  obtain ⟨p, ys, ds, ds', s', g1, g2, g3, g4, g5, rfl, g7, g8⟩ := ownL_of R ho
  refine ⟨_, g1, .inl ⟨rfl, ys, .inl (.inl g2)⟩, ?_⟩
  cases hl : ds.getLast? with
  | none => simp only [hl] at g5; cases g5
  | some d =>
    simp only [hl] at g5
    cases g5
    rw [List.getLast?_eq_getElem?] at hl
    obtain ⟨v, hv, qv⟩ := g4.get hl
    have nz : ys.dropLast.length ≤ sizeLine := by rw [List.length_dropLast]; omega
    obtain ⟨R2, M2⟩ := g8 ys.dropLast nz g4.dropLast
    exact ⟨p, ys, v, rfl, rfl, g2, by rw [g4.length]; exact hv, h2 _ _ R2 M2 v (.val (qv.mono (M2.kp R))) (fun _ _ z => nomatch z)⟩
theorem pe_popAtE (hK : X.K = A.K) (ho : PE X o (tVar i)) (ha : PE X a (tE A C W xa)) (hbase : attributeBase o "pop" X.env (eval o X.env) = eval o X.env) (hline : (apos.endLine == cpos.line) = true) (hs : starEach [a] X.env = [(false, eval a X.env)]) : PE X (.Call (.Attribute o "pop" apos) [a] [] cpos) (tE A C W (popAtM i xa)) := by
  refine PE.imp (pe_bm PySem.F.plainAttrs_list PySem.F.slot_list_pop PySem.F.type_list_pop mt_popAt ho (pa_cons ha pa_nil hs) hbase (few1 hs) hline hs rfl) ?_
  rintro σ H Q ⟨S, e, R, h⟩
  obtain ⟨p, hp, ⟨xs, hl⟩, h⟩ := chkL_of R h
  refine ⟨_, hp, .inl ⟨rfl, xs, by rw [hK]; exact hl⟩, S, e, R, h.bnd.imp fun ra e1 S1 H1 R1 M1 ⟨_, h1⟩ v hv _ => ?_⟩
  obtain ⟨da, hda, h3⟩ := rdM_of h1
  cases da with
  | int k =>
    cases rw_int (hv.rw R1 hda)
    have h3 : Res A C W σ S1 H1 e1 (ownL i _ e1) _ := h3
    obtain ⟨r, e2, ho, h2⟩ := h3.ok' (ownL_nx _ _ _)
    obtain ⟨q, ys, ds, ds', s', g1, g2, g3, g4, g5, rfl, g7, g8⟩ := ownL_of R1 ho
    rw [hp] at g1; cases g1
    cases hj : Ev.ixN ds.length k with
    | none => simp only [hj] at g5; cases g5
    | some j =>
      simp only [hj, Option.bind_some] at g5
      obtain ⟨d, hd, e5⟩ := map_some g5
      cases e5
      obtain ⟨w, hw, qw⟩ := g4.get hd
      have hj' : L2.ixN ys.length k = some j := by rw [g4.length]; exact hj
      obtain ⟨i1, i2, i3, i4⟩ := ixN_seq hj'
      have zz := sizeLine_eq
      have nz : (ys.eraseIdx j).length ≤ sizeLine := Nat.le_trans (List.length_eraseIdx_le ..) g3
      obtain ⟨R2, M2⟩ := g8 (ys.eraseIdx j) nz (g4.eraseIdx j)
      exact ⟨p, ys, k, j, w, rfl, rfl, g2, by omega, by omega, i1, hw, h2 _ _ R2 M2 w (.val (qw.mono (M2.kp R1))) (fun _ _ z => nomatch z)⟩
  | _ => exact h3.elim
end
end Ev
/-! text EvO -/
set_option Elab.async false
set_option linter.all false
set_option maxRecDepth 100000
/-! Ev: methods that read. -/
namespace Ev
open PySem PySem.Spec PyProof.Rows L2
section
variable {X : Cx} {A : Am} {C : Ecls} {W : WX} {o a : Expr} {es : List Expr} {xa : M R} {xs : M (List R)} {apos cpos : Pos} {name : Str}
def tMth (Φ : V → Hp → Kd → Prop) (r : Kd → V → List V → Hp → VK → Prop) (to : TE) (t : TA) : TE := fun σ H Q => to σ H fun x H1 => ∃ k, Φ x H1 k ∧ t σ H1 fun xs H2 => r k x xs H2 Q
/-- what a method's name is for such a receiver -/
structure MthAt (X : Cx) (name : Str) (Φ : V → Hp → Kd → Prop) (r : V → List V → Hp → VK → Prop) (k : Kd) (T id : String) : Prop where
  pa : PlainAttrs T
  slot : PySem.Slot T name id
  ty : typeOf (.builtin id) = pure (.type "method_descriptor")
  is : ∀ (pins : List (Addr × Obj)) (s : Shared) (σ : L2.St) (H : Hp) (x : V) (v : Value), Inv X pins σ H s → RelV x v → Φ x H k → s.TypeIs v T ∧ ∀ a, v = .ref a → ∃ ob, s.heap.get? a = some ob ∧ ob.dict = none
  rule : MtR X id r
theorem pe_mth {Φ : V → Hp → Kd → Prop} {r : Kd → V → List V → Hp → VK → Prop} {to : TE} {t : TA} (hm : ∀ k, (∃ T id, MthAt X name Φ (r k) k T id) ∨ ∀ x H, ¬ Φ x H k) (ho : PE X o to) (ha : PA X (a :: es) t)
    (hbase : attributeBase o name X.env (eval o X.env) = eval o X.env)
    (hfew : ((backTo cpos (starEach (a :: es) X.env)).all (fun x => !x.1) && (backToKw cpos (keywordEach [] X.env)).all (fun x => x.1.isSome)
      && decide ((a :: es).length + ([] : List Keyword).length + (if ([] : List Keyword).isEmpty then 0 else 1) < 30)) = true)
    (hline : (apos.endLine == cpos.line) = true) (hs : starEach (a :: es) X.env = (false, eval a X.env) :: starEach es X.env) (hplain : (backTo cpos (starEach es X.env)).any (·.1) = false) :
    PE X (.Call (.Attribute o name apos) (a :: es) [] cpos) (tMth Φ r to t) := by
  refine ⟨fun pins s σ H Q I h => ?_⟩
  refine wpAny_Call_method_late hbase hfew hline rfl (thn (ho.run pins s σ H _ I h) fun v s1 ⟨x, H1, I1, r1, k, hk, q1⟩ => ?_)
  rcases hm k with ⟨T, id, m⟩ | no
  · obtain ⟨h1, h2⟩ := m.is pins s1 σ H1 x v I1 r1 hk
    refine ⟨T, id, m.pa, m.slot, m.ty, h1, h2, ?_⟩
    have hA := ha.run cpos pins s1 σ H1 _ I1 q1
    rw [hs] at hA ⊢
    refine Calls.callWith_builtin (by show (false || (backTo cpos (starEach es X.env)).any (·.1)) = false; rw [hplain] <;> rfl) (Calls.evalArgs_plain ?_)
    exact thn hA fun us s2 ⟨vs, H2, I2, r2, q2⟩ => m.rule pins s2 σ H2 x vs v us Q I2 r1 r2 q2
  · exact absurd hk (no x H1)
/-- a receiver by data -/
def ΦD (K : PySem.W.Frag) (w : World) (m : Mt) : V → Hp → Kd → Prop := fun x H k => ∃ S d, Rw K w S H x d ∧ kdM m d = some k
def rMD (K : PySem.W.Frag) (w : World) (m : Mt) : Kd → V → List V → Hp → VK → Prop := fun k x vs H Q => ∃ S ds r, (∀ a, S a → H a ≠ none) ∧ Rws K w S H (x :: vs) ds ∧ mthK m k ds = some r ∧ RK K w S H r Q
theorem mthF_noSl {m : Mt} {d : D} {ds : List D} {r : R} (h : mthF m d ds = some r) : ∀ i, r ≠ .slot i := by
  intro i z
  subst z
  unfold mthF at h
  split at h
  · split at h
    · split at h
      · obtain ⟨_, _, z⟩ := map_some h; cases z
      · cases h
    · cases h
  · split at h <;> cases h
  · split at h <;> cases h
  · split at h <;> cases h
  · cases h
theorem mthK_noSl {m : Mt} {k : Kd} {ds : List D} {r : R} (h : mthK m k ds = some r) : ∀ i, r ≠ .slot i := by
  unfold mthK at h
  split at h
  · split at h
    · exact mthF_noSl h
    · cases h
  · cases h
theorem mth_imp {m : Mt} : ∀ σ H Q, tE A C W (mthM m xa xs) σ H Q → tMth (ΦD A.K A.w m) (rMD A.K A.w m) (tE A C W xa) (tRs A C W xs) σ H Q := by
  rintro σ H Q ⟨S, e, R, h⟩
  refine ⟨S, e, R, h.bnd.imp fun ro e1 S1 H1 R1 M1 ⟨_, h1⟩ v q n => ?_⟩
  obtain ⟨d0, hd0, h2⟩ := rdM_of h1
  obtain ⟨k, hk, h3⟩ := opt_bnd h2
  refine ⟨k, ⟨S1, d0, q.rw R1 hd0, hk⟩, S1, e1, R1, h3.bnd.imp fun rs e2 S2 H2 R2 M2 ⟨_, h4⟩ vs q2 n2 => ?_⟩
  cases hm : (ro :: rs).mapM (rd e2) with
  | none => simp only [hm] at h4; exact h4.elim
  | some ds =>
    simp only [hm] at h4
    obtain ⟨r, hr, h5⟩ := opt_of h4
    have q3 : Rrs A S2 e2 σ H2 (v :: vs) (ro :: rs) := .cons (q.mono R1 M2) q2 fun d' hr j d'' hj hv => by
      cases q with
      | val _ => cases hr
      | slot _ => cases hr
      | @fresh a _ _ _ _ ro => exact ro_ne ro (n2 j d'' a hj hv)
    exact ⟨S2, ds, r, R2.sn, q3.rw R2 hm, hr, rk_of R2 (fun S' H' R' M' v q n => h5 S' H' R' M' v q (n.old fun a h => M2.st a (M1.st a h))) (mthK_noSl hr)⟩

/-! ### index, count -/
theorem indexD_spec {x : D} : ∀ {ds : List D} {j : Nat}, indexD x ds = some j → ∃ z, ds[j]? = some z ∧ PyData.eqv z x = true ∧ ∀ (m : Nat) (z' : D), m < j → ds[m]? = some z' → PyData.eqv z' x = false
  | [], j, h => by cases h
  | y :: r, j, h => by
    unfold indexD at h
    split at h
    · rename_i hy
      cases h
      exact ⟨y, rfl, hy, fun m z' hm _ => absurd hm (Nat.not_lt_zero _)⟩
    · rename_i hy
      obtain ⟨i, hi, rfl⟩ := map_some h
      obtain ⟨z, h1, h2, h3⟩ := indexD_spec hi
      refine ⟨z, by simpa using h1, h2, fun m z' hm hz => ?_⟩
      cases m with
      | zero =>
        have : y = z' := by simpa using hz
        rw [← this]; exact Bool.eq_false_iff.mpr hy
      | succ m => exact h3 m z' (by omega) (by simpa using hz)
theorem at_items {h : Heap} {ds : List D} {its : List Value} {as : List Addr} (hx : PyData.plainAll ds = true) (hr : ReadsAll h its ds as) {m : Nat} (hm : m < its.toArray.size) {z : D} (hz : ds[m]? = some z) : SeqAt.readOf h its.toArray[m] = z := by
  have hml : m < its.length := by simpa using hm
  have hmap := SeqAt.readsAll_map_plain ds its as hx hr
  rw [← hmap, List.getElem?_map, List.getElem?_eq_getElem hml] at hz
  simpa using Option.some.inj hz
theorem plain_list {ds : List D} (h : (PyData.list ds).plain = true) : PyData.plainAll ds = true := by simpa [PyData.plain] using h
theorem plain_tuple {ds : List D} (h : (PyData.tuple ds).plain = true) : PyData.plainAll ds = true := by simpa [PyData.plain] using h
theorem mthK_index {k : Kd} {d : D} {ds : List D} {r : R} (h : mthK .index k (d :: ds) = some r) : kd? d = some k ∧ ∃ x zs j, ds = [x] ∧ seq? d = some zs ∧ shp d = true ∧ shp x = true ∧ indexD x zs = some j ∧ r = .val (.int (j : Nat)) := by
  unfold mthK at h
  simp only at h
  split at h
  · rename_i hk
    refine ⟨hk, ?_⟩
    unfold mthF at h
    split at h
    · rename_i x _
      split at h
      · rename_i zs hz
        split at h
        · rename_i hs
          rw [Bool.and_eq_true] at hs
          obtain ⟨j, hj, rfl⟩ := map_some h
          exact ⟨x, zs, j, rfl, hz, hs.1, hs.2, hj, rfl⟩
        · cases h
      · cases h
    · rename_i e; cases e
    · rename_i e; cases e
    · rename_i e; cases e
    · cases h
  · cases h
theorem rwsC {K : PySem.W.Frag} {w : World} {S : Addr → Prop} {H : Hp} {x : V} {vs : List V} {ds : List D} (h : Rws K w S H (x :: vs) ds) : ∃ d ds', ds = d :: ds' ∧ Rw K w S H x d ∧ Rws K w S H vs ds' := by
  cases h with
  | cons h1 h2 => exact ⟨_, _, rfl, h1, h2⟩
theorem mt_indexL (hu : X.A.units + 100 < cLine) : MtR X "list.index" (rMD X.K X.w .index .list) := by
  intro pins s σ H x vs v us Q I rx rv h
  obtain ⟨S, ds, r, sn, hq, hf, k⟩ := h
  obtain ⟨d, ds', rfl, hx, hvs⟩ := rwsC hq
  obtain ⟨hk, y, zs, j, rfl, hz, s1, s2, hj, rfl⟩ := mthK_index hf
  cases d with
  | list zs' =>
    cases hz
    obtain ⟨vy, rfl, hy⟩ := rws1 hvs
    obtain ⟨uy, rfl, ry⟩ := rv.one
    obtain ⟨bs, rY⟩ := hy.reads I ry
    obtain ⟨p1, z1⟩ := shp_of s1
    obtain ⟨p2, z2⟩ := shp_of s2
    obtain ⟨a, xs, rfl, ra, za, qa⟩ := rw_lst hx
    cases rx
    obtain ⟨its, n, r1, e1⟩ := lst_at I ra
    obtain ⟨as, h4⟩ := Rvs.reads I _ _ its qa r1
    obtain ⟨z, hz1, hz2, hz3⟩ := indexD_spec hj
    have hl := r1.length
    have hlq := qa.length
    have hsl := sizeLine_eq
    obtain ⟨hjd, _⟩ := List.getElem?_eq_some_iff.mp hz1
    have hj' : j < its.toArray.size := by simp; omega
    refine call_meets PySem.F.slot_list_index ⟨_, e1, rfl⟩ PySem.F.entry_list_index (PySem.F.args_list_index_2 _ _)
      (SeqAt.list_indexAt a its.toArray n none #[] uy (fun u => PyData.eqv (SeqAt.readOf s.heap u) y) j hj' (by simp at hj'; omega) ?_ ?_) ⟨e1, SeqAt.items_plain (vs := its.toArray) (by simpa using h4) rY (plain_list p1) p2 (by have := depth_allL z1; omega), ?_⟩
    · show PyData.eqv (SeqAt.readOf s.heap its.toArray[j]) y = true
      rw [at_items (plain_list p1) h4 hj' hz1]
      exact hz2
    · intro m hm hmj
      have hmd : m < zs.length := by simp at hm; omega
      have e2 : zs[m]? = some zs[m] := List.getElem?_eq_getElem hmd
      show PyData.eqv (SeqAt.readOf s.heap its.toArray[m]) y = false
      rw [at_items (plain_list p1) h4 hm e2]
      exact hz3 m _ hmj e2
    · exact ⟨.int (j : Nat), H, I.tok _, ⟨_, rfl⟩, rk_val0 k (.int _)⟩
  | tuple _ => cases hk
  | _ => cases hz
theorem mt_indexT (hu : X.A.units + 100 < cLine) : MtR X "tuple.index" (rMD X.K X.w .index .tuple) := by
  intro pins s σ H x vs v us Q I rx rv h
  obtain ⟨S, ds, r, sn, hq, hf, k⟩ := h
  obtain ⟨d, ds', rfl, hx, hvs⟩ := rwsC hq
  obtain ⟨hk, y, zs, j, rfl, hz, s1, s2, hj, rfl⟩ := mthK_index hf
  cases d with
  | tuple zs' =>
    cases hz
    obtain ⟨vy, rfl, hy⟩ := rws1 hvs
    obtain ⟨uy, rfl, ry⟩ := rv.one
    obtain ⟨bs, rY⟩ := hy.reads I ry
    obtain ⟨p1, z1⟩ := shp_of s1
    obtain ⟨p2, z2⟩ := shp_of s2
    obtain ⟨a, xs, rfl, sa, ra, za, qa⟩ := rw_tup hx
    cases rx
    obtain ⟨its, r1, ⟨⟨oc, od, dt, sl⟩, e1, hc, n, hd⟩, _⟩ := I.tuple (.inl ra.rd)
    simp only at hc hd
    subst hc hd
    obtain ⟨as, h4⟩ := Rvs.reads I _ _ its qa r1
    obtain ⟨z, hz1, hz2, hz3⟩ := indexD_spec hj
    have hl := r1.length
    have hlq := qa.length
    obtain ⟨hjd, _⟩ := List.getElem?_eq_some_iff.mp hz1
    have hj' : j < its.toArray.size := by simp; omega
    refine call_meets PySem.F.slot_tuple_index ⟨_, e1, rfl⟩ PySem.F.entry_tuple_index (PySem.F.args_tuple_index_2 _ _)
      (TI.tuple_indexAt a its.toArray n od sl uy (fun u => PyData.eqv (SeqAt.readOf s.heap u) y) j hj' ?_ ?_) ⟨e1, SeqAt.items_plain (vs := its.toArray) (by simpa using h4) rY (plain_tuple p1) p2 (by have := depth_all z1; omega), ?_⟩
    · show PyData.eqv (SeqAt.readOf s.heap its.toArray[j]) y = true
      rw [at_items (plain_tuple p1) h4 hj' hz1]
      exact hz2
    · intro m hm hmj
      have hmd : m < zs.length := by simp at hm; omega
      have e2 : zs[m]? = some zs[m] := List.getElem?_eq_getElem hmd
      show PyData.eqv (SeqAt.readOf s.heap its.toArray[m]) y = false
      rw [at_items (plain_tuple p1) h4 hm e2]
      exact hz3 m _ hmj e2
    · exact ⟨.int (j : Nat), H, I.tok _, ⟨_, rfl⟩, rk_val0 k (.int _)⟩
  | list _ => cases hk
  | _ => cases hz
/-- the receiver's class -/
theorem is_list {m : Mt} (hm : ∀ d k, kdM m d = some k → k = .list → ∃ zs, d = .list zs) : ∀ (pins : List (Addr × Obj)) (s : Shared) (σ : L2.St) (H : Hp) (x : V) (v : Value), Inv X pins σ H s → RelV x v → ΦD X.K X.w m x H .list → s.TypeIs v "list" ∧ ∀ a, v = .ref a → ∃ ob, s.heap.get? a = some ob ∧ ob.dict = none := by
  rintro pins s σ H x v I rx ⟨S, d, hq, hk⟩
  obtain ⟨zs, rfl⟩ := hm d _ hk rfl
  obtain ⟨a, xs, rfl, ra, za, qa⟩ := rw_lst hq
  cases rx
  obtain ⟨its, n, r1, e1⟩ := lst_at I ra
  exact ⟨⟨_, e1, rfl⟩, fun b hb => by cases hb; exact ⟨_, e1, rfl⟩⟩
theorem is_tuple {m : Mt} (hm : ∀ d k, kdM m d = some k → k = .tuple → ∃ zs, d = .tuple zs) : ∀ (pins : List (Addr × Obj)) (s : Shared) (σ : L2.St) (H : Hp) (x : V) (v : Value), Inv X pins σ H s → RelV x v → ΦD X.K X.w m x H .tuple → s.TypeIs v "tuple" ∧ ∀ a, v = .ref a → ∃ ob, s.heap.get? a = some ob ∧ ob.dict = none := by
  rintro pins s σ H x v I rx ⟨S, d, hq, hk⟩
  obtain ⟨zs, rfl⟩ := hm d _ hk rfl
  obtain ⟨a, xs, rfl, sa, ⟨o, hn, ra⟩, za, qa⟩ := rw_tup hq
  cases rx
  obtain ⟨e1, _, its, r1, o2, e2, hc, _⟩ := I.hok a _ ra
  rw [e1] at e2; cases e2
  exact ⟨⟨_, e1, hc⟩, fun b hb => by cases hb; exact ⟨_, e1, hn⟩⟩
theorem pe_indexE (hK : X.K = A.K) (hw : X.w = A.w) (hu : X.A.units + 100 < cLine) (ho : PE X o (tE A C W xa)) (ha : PA X (a :: es) (tRs A C W xs))
    (hbase : attributeBase o "index" X.env (eval o X.env) = eval o X.env)
    (hfew : ((backTo cpos (starEach (a :: es) X.env)).all (fun x => !x.1) && (backToKw cpos (keywordEach [] X.env)).all (fun x => x.1.isSome)
      && decide ((a :: es).length + ([] : List Keyword).length + (if ([] : List Keyword).isEmpty then 0 else 1) < 30)) = true)
    (hline : (apos.endLine == cpos.line) = true) (hs : starEach (a :: es) X.env = (false, eval a X.env) :: starEach es X.env) (hplain : (backTo cpos (starEach es X.env)).any (·.1) = false) :
    PE X (.Call (.Attribute o "index" apos) (a :: es) [] cpos) (tE A C W (mthM .index xa xs)) := by
  refine PE.imp (pe_mth (Φ := ΦD X.K X.w .index) (r := rMD X.K X.w .index) (fun k => ?_) ho ha hbase hfew hline hs hplain) (by rw [hK, hw]; exact mth_imp)
  cases k with
  | list => exact .inl ⟨"list", "list.index", PySem.F.plainAttrs_list, PySem.F.slot_list_index, PySem.F.type_list_index, is_list (fun d k h z => by subst z; cases d <;> first | exact ⟨_, rfl⟩ | cases h), mt_indexL hu⟩
  | tuple => exact .inl ⟨"tuple", "tuple.index", PySem.F.plainAttrs_tuple, PySem.F.slot_tuple_index, PySem.F.type_tuple_index, is_tuple (fun d k h z => by subst z; cases d <;> first | exact ⟨_, rfl⟩ | cases h), mt_indexT hu⟩
  | dict => exact .inr fun x H ⟨S, d, _, h⟩ => by cases d <;> cases h
end
end Ev
/-! text EvP -/
set_option Elab.async false
set_option linter.all false
set_option maxRecDepth 100000
/-! Ev: stores. -/
namespace Ev
open PySem PySem.Spec PyProof.Rows L2
section
variable {X : Cx} {A : Am} {C : Ecls} {W : WX} {pos : Pos}
/-- a, b, .. = a sequence -/
theorem ps_tpE {tg a : Expr} {ts : List Tg} {xa : M R} (hp : PS X (.Assign [tg] a pos) (tAsg (tE A C W xa) (gTw A ts))) : PS X (.Assign [tg] a pos) (tS A C W (bnd xa fun r => bnd (bindTR (.tp ts) r) fun _ => ret .nx)) := by
  refine PS.imp hp ?_
  rintro D σ H ⟨S, e, R, h⟩
  refine ⟨S, e, R, (resF_bnd R h).imp fun r e1 S1 H1 R1 M1 h1 v q _ => ?_⟩
  have h1 : ResF A C W D S1 H1 (bnd (bnd (rdM r) fun d => bindT (.tp ts) d) (fun _ => ret .nx) e1) := h1
  unfold bnd at h1
  cases hd : rd e1 r with
  | none => simp only [rdM, hd] at h1; exact h1.elim
  | some d =>
    simp only [rdM, hd] at h1
    cases hb : bindT (.tp ts) d e1 with
    | bad => rw [hb] at h1; exact h1.elim
    | exc c e2 => exact absurd hb (bindT_nx _ _ _ _ _)
    | ok u e2 =>
      rw [hb] at h1
      exact ⟨S1, e1, d, e2, R1, .inl (q.rw R1 hd), hb, fun σ' R' _ => h1 S1 σ' H1 R' .refl⟩

/-! ### several names at once -/
theorem Rrs.len {S : Addr → Prop} {e : VEnv} {σ : L2.St} {H : Hp} {vs : List V} {rs : List R} (h : Rrs A S e σ H vs rs) : vs.length = rs.length := by
  induction h with
  | nil => rfl
  | cons _ _ _ ih => exact congrArg Nat.succ ih
theorem resolve_of : ∀ {rs rs' : List R} {S : Addr → Prop} {e e' : VEnv} {σ : L2.St} {H : Hp} {vs : List V}, Rl A S e σ H → Rrs A S e σ H vs rs → resolve rs e = .ok rs' e' → ∃ S', Rl A S' e' σ H ∧ Kp S H S' H ∧ Rrs A S' e' σ H vs rs' ∧ (∀ (j : Nat) (d : D), rs'[j]? = some (.fresh d) → rs[j]? = some (.fresh d)) ∧ (∀ r ∈ rs', ∀ i, r ≠ .slot i) ∧ Mn e σ S H e' S' H
  | [], rs', S, e, e', σ, H, vs, R, h, hr => by
    cases hr
    exact ⟨S, R, .refl, h, fun j d z => z, fun r hr => absurd hr (by simp), .refl⟩
  | r :: rs, rs', S, e, e', σ, H, vs, R, h, hr => by
    cases h with
    | @cons v vs _ _ h1 h2 h3 =>
      unfold resolve at hr
      obtain ⟨r1, e1, q1, q2⟩ := bnd_ok hr
      obtain ⟨rs1, e2, q3, q4⟩ := bnd_ok q2
      cases q4
      obtain ⟨S1, R1, M1, g1, g2, g3⟩ : ∃ S1, Rl A S1 e1 σ H ∧ Mn e σ S H e1 S1 H ∧ Rr A S1 e1 σ H v r1 ∧ (∀ d, r1 = .fresh d → r = .fresh d) ∧ ∀ i, r1 ≠ .slot i := by
        cases r with
        | val d => cases q1; exact ⟨S, R, .refl, h1, fun _ z => z, fun i z => nomatch z⟩
        | fresh d => cases q1; exact ⟨S, R, .refl, h1, fun _ z => z, fun i z => nomatch z⟩
        | slot i =>
          obtain ⟨d, e3, hf, hb⟩ := bnd_ok q1
          cases hb
          obtain ⟨d', e', S', R', M', hv, z1, z2⟩ := fz_of (C := fun _ => Value.none) (W := WF) (P := fun d' e' _ _ => d' = d ∧ e' = e1) R R .refl h1 (fun _ _ z => nomatch z) (by
            show Res A _ WF σ S H e (fz (.slot i) e) _
            rw [hf]
            exact fun _ _ _ _ => ⟨rfl, rfl⟩)
          subst z1 z2
          exact ⟨S', R', M', .val hv, (fun _ z => nomatch z), fun i z => nomatch z⟩
      obtain ⟨S2, R2, k2, f1, f2, f3, M2⟩ := resolve_of R1 (h2.mono R M1) q3
      refine ⟨S2, R2, (M1.kp R).trans k2, .cons (g1.mono R1 M2) f1 fun d hd j d' hj => ?_, fun j d hj => ?_, fun r hr i => ?_, M1.trans M2⟩
      · exact h3 d (g2 d hd) j d' (f2 j d' hj)
      · cases j with
        | zero => simp at hj ⊢; exact g2 d hj
        | succ j => simpa using f2 j d (by simpa using hj)
      · rcases List.mem_cons.mp hr with rfl | hr
        · exact g3 i
        · exact f3 r hr i
def setAll : List Nat → List V → L2.St → L2.St
  | i :: is, v :: vs, σ => setAll is vs (σ.set i (some v))
  | _, _, σ => σ
theorem bindRs_of : ∀ {is : List Nat} {rs : List R} {S : Addr → Prop} {e e' : VEnv} {σ : L2.St} {H : Hp} {vs : List V}, Rl A S e σ H → Rrs A S e σ H vs rs → (∀ r ∈ rs, ∀ i, r ≠ .slot i) → bindRs is rs e = .ok () e' → is.length = rs.length ∧ Rl A S e' (setAll is vs σ) H
  | [], [], S, e, e', σ, H, vs, R, h, n, hb => by cases hb; cases h; exact ⟨rfl, R⟩
  | [], _ :: _, S, e, e', σ, H, vs, R, h, n, hb => by cases hb
  | _ :: _, [], S, e, e', σ, H, vs, R, h, n, hb => by cases hb
  | i :: is, r :: rs, S, e, e', σ, H, vs, R, h, n, hb => by
    cases h with
    | @cons v vs _ _ h1 h2 h3 =>
      unfold bindRs at hb
      obtain ⟨u, e1, q1, q2⟩ := bnd_ok hb
      have step : Rl A S e1 (σ.set i (some v)) H ∧ Rrs A S e1 (σ.set i (some v)) H vs rs := by
        have keep : ∀ (s : Slot), i < e.length → (∀ d, e.getD i .no ≠ .io d) → e1 = e.set i s → (∀ a d, s = .ow d → v = .ref a → r = .fresh d) → ((s = .no) ∨ (∃ d, s = .im d) ∨ ∃ d, s = .ow d) → ∀ {vs : List V} {rs : List Ev.R}, (∀ r ∈ rs, ∀ i, r ≠ .slot i) → Apart v r vs rs → Rrs A S e σ H vs rs → Rrs A S e1 (σ.set i (some v)) H vs rs := by
          intro s hi hio e1e hs hs2 vs rs n hap hrs
          subst e1e
          induction hrs with
          | nil => exact .nil
          | @cons v' vs' r' rs' g1 g2 g3 ih =>
            refine .cons ?_ (ih (fun r hr => n r (List.mem_cons_of_mem _ hr)) fun d hd j d' hj => by simpa using hap d hd (j + 1) d' (by simpa using hj)) g3
            cases g1 with
            | val g => exact .val g
            | slot g => exact absurd rfl (n _ (List.mem_cons_self ..) _)
            | @fresh a d w1 w2 w3 w4 =>
              refine .fresh w1 w2 (fun ⟨j, ⟨d2, z1⟩, z2⟩ => ?_) w4
              rw [getD_set _ _ _ _ hi] at z1
              by_cases hji : j = i
              · subst hji
                have hl : j < σ.length := Nat.lt_of_lt_of_le hi R.len
                rw [List.getElem?_set_self hl] at z2
                have hv : v = .ref a := by simpa using z2
                rw [if_pos rfl] at z1
                rcases z1 with z1 | z1
                · exact absurd (by simp [hv]) (hap d2 (hs a d2 z1 hv) 0 d (by simp))
                · rcases hs2 with z | ⟨_, z⟩ | ⟨_, z⟩ <;> rw [z] at z1 <;> cases z1
              · rw [if_neg hji] at z1
                rw [List.getElem?_set_ne (Ne.symm hji)] at z2
                exact w3 ⟨j, ⟨d2, z1⟩, z2⟩
        have n' : ∀ r ∈ rs, ∀ i, r ≠ .slot i := fun r hr => n r (List.mem_cons_of_mem _ hr)
        cases h1 with
        | @val _ d g =>
          obtain ⟨b1, b2, b3⟩ := bind1_of (show bind1 i (.im d) e = .ok () e1 from q1)
          refine ⟨by rw [b3]; exact R.put b1 b2 (.inr (.inl ⟨d, rfl, g⟩)), keep (.im d) b1 b2 b3 (fun _ _ z => nomatch z) (.inr (.inl ⟨d, rfl⟩)) n' h3 h2⟩
        | slot g => exact absurd rfl (n _ (List.mem_cons_self ..) _)
        | @fresh a d g1 g2 g3 g4 =>
          obtain ⟨b1, b2, b3⟩ := bind1_of (show bind1 i (.ow d) e = .ok () e1 from q1)
          refine ⟨by rw [b3]; exact R.put b1 b2 (.inr (.inr ⟨d, a, rfl, rfl, g1, g2, g3, g4⟩)), keep (.ow d) b1 b2 b3 (fun _ _ z _ => by cases z; rfl) (.inr (.inr ⟨d, rfl⟩)) n' h3 h2⟩
      obtain ⟨l, R2⟩ := bindRs_of step.1 step.2 (fun r hr => n r (List.mem_cons_of_mem _ hr)) q2
      exact ⟨congrArg Nat.succ l, R2⟩
theorem resolve_nx : ∀ (rs : List R) (e : VEnv) (c : Nat) (e' : VEnv), resolve rs e ≠ .exc c e'
  | [], e, c, e' => by intro z; cases z
  | r :: rs, e, c, e' => by
    unfold resolve
    refine bnd_nx (fun c e' => ?_) fun _ e1 c e' => bnd_nx (fun c e' => resolve_nx rs e1 c e') fun _ _ _ _ => by intro z; cases z
    cases r with
    | val d => intro z; cases z
    | fresh d => intro z; cases z
    | slot i => exact bnd_nx (fun c e' => fz_nx _ _ _ _) fun _ _ _ _ => by intro z; cases z
theorem bindRs_nx : ∀ (is : List Nat) (rs : List R) (e : VEnv) (c : Nat) (e' : VEnv), bindRs is rs e ≠ .exc c e'
  | [], [], e, c, e' => by intro z; cases z
  | [], _ :: _, e, c, e' => by intro z; cases z
  | _ :: _, [], e, c, e' => by intro z; cases z
  | i :: is, r :: rs, e, c, e' => by
    unfold bindRs
    exact bnd_nx (fun c e' => bindR_nx _ _ _ _ _) fun _ e1 c e' => bindRs_nx is rs e1 c e'
/-- the reading of names that take values together -/
def tParL (is : List Nat) (ta : TA) : TS := fun D σ H => ta σ H fun vs H1 => is.length = vs.length ∧ D.nx (setAll is vs σ) H1
theorem par_imp {is : List Nat} {xs : M (List R)} : ∀ D σ H, tS A C W (parM is xs) D σ H → tParL is (tRs A C W xs) D σ H := by
  rintro D σ H ⟨S, e, R, h⟩
  refine ⟨S, e, R, (resF_bnd R h).imp fun rs e1 S1 H1 R1 M1 h1 vs q _ => ?_⟩
  unfold bnd at h1
  cases q1 : resolve rs e1 with
  | bad => simp only [q1] at h1; exact h1.elim
  | exc c e2 => exact absurd q1 (resolve_nx _ _ _ _)
  | ok rs' e2 =>
    simp only [q1] at h1
    cases q2 : bindRs is rs' e2 with
    | bad => simp only [q2] at h1; exact h1.elim
    | exc c e2 => exact absurd q2 (bindRs_nx _ _ _ _ _)
    | ok u e3 =>
      simp only [q2] at h1
      obtain ⟨S2, R2, k2, f1, f2, f3, M2⟩ := resolve_of R1 q q1
      obtain ⟨l, R3⟩ := bindRs_of R2 f1 f3 q2
      exact ⟨by rw [l, f1.len], h1 S2 _ H1 R3 k2⟩
theorem ps_par2E {i j : Nat} {st : Stmt} {xs : M (List R)} (hp : PS X st (tPar i j (tRs A C W xs))) : PS X st (tS A C W (parM [i, j] xs)) := by
  refine PS.imp hp fun D σ H h => ?_
  obtain ⟨S, e, R, h⟩ := par_imp D σ H h
  refine ⟨S, e, R, h.imp fun rs e1 S1 H1 R1 M1 h1 vs q n => ?_⟩
  obtain ⟨l, h2⟩ := h1 vs q n
  match vs, l, h2 with
  | [v, w], _, h2 => exact ⟨v, w, rfl, h2⟩
theorem ps_par3E {i j l : Nat} {st : Stmt} {xs : M (List R)} (hp : PS X st (tPar3 i j l (tRs A C W xs))) : PS X st (tS A C W (parM [i, j, l] xs)) := by
  refine PS.imp hp fun D σ H h => ?_
  obtain ⟨S, e, R, h⟩ := par_imp D σ H h
  refine ⟨S, e, R, h.imp fun rs e1 S1 H1 R1 M1 h1 vs q n => ?_⟩
  obtain ⟨l, h2⟩ := h1 vs q n
  match vs, l, h2 with
  | [u, v, w], _, h2 => exact ⟨u, v, w, rfl, h2⟩
/-- names, one after another -/
def gNames : List Nat → TGs
  | [] => gNil
  | i :: is => gCons (gName i) (gNames is)
theorem gNames_of : ∀ {is : List Nat} {vs : List V} {σ : L2.St} {H : Hp} {Q : L2.St → Hp → Prop}, is.length = vs.length → Q (setAll is vs σ) H → gNames is vs σ H Q
  | [], [], σ, H, Q, _, h => ⟨rfl, h⟩
  | [], _ :: _, σ, H, Q, l, h => by cases l
  | _ :: _, [], σ, H, Q, l, h => by cases l
  | i :: is, v :: vs, σ, H, Q, l, h => ⟨v, vs, rfl, gNames_of (Nat.succ.inj l) h⟩
theorem pgs_names : ∀ {ns : List (Str × Pos)} {is : List Nat}, X.N.Nodup → ns.length = is.length → (∀ (j : Nat) (x : Str × Pos) (i : Nat), ns[j]? = some x → is[j]? = some i → X.N[i]? = some x.1 ∧ Loc X.env.scope x.1 ∧ (X.fn x.1 = true ∨ X.env.scope.names.lookup x.1 = some .local)) → PGs X (ns.map fun x => .Name x.1 x.2) (gNames is)
  | [], [], _, _, _ => pgs_nil
  | [], _ :: _, _, l, _ => by cases l
  | _ :: _, [], _, l, _ => by cases l
  | x :: ns, i :: is, hN, l, h => by
    obtain ⟨h1, h2, h3⟩ := h 0 x i rfl rfl
    exact pgs_cons (pg_name hN h1 h2 h3) (pgs_names hN (Nat.succ.inj l) fun j y k e1 e2 => h (j + 1) y k (by simpa using e1) (by simpa using e2)) rfl
theorem ps_parTE {is : List Nat} {st : Stmt} {xs : M (List R)} (hK : X.K = A.K) (hp : PS X st (tAsg (tTupX (tRs A C W xs)) (gTup X.K is.length (gNames is)))) (hz : is.length ≤ sizeLine) : PS X st (tS A C W (parM is xs)) := by
  refine PS.imp hp ?_
  rintro D σ H ⟨S, e, R, h⟩
  refine ⟨S, e, R, (resF_bnd R h).imp fun rs e1 S1 H1 R1 M1 h1 vs q _ => ?_⟩
  unfold bnd at h1
  cases q1 : resolve rs e1 with
  | bad => simp only [q1] at h1; exact h1.elim
  | exc c e2 => exact absurd q1 (resolve_nx _ _ _ _)
  | ok rs' e2 =>
    simp only [q1] at h1
    cases q2 : bindRs is rs' e2 with
    | bad => simp only [q2] at h1; exact h1.elim
    | exc c e2 => exact absurd q2 (bindRs_nx _ _ _ _ _)
    | ok u e3 =>
      simp only [q2] at h1
      obtain ⟨S2, R2, k2, f1, f2, f3, M2⟩ := resolve_of R1 q q1
      obtain ⟨l, R3⟩ := bindRs_of R2 f1 f3 q2
      have l' : is.length = vs.length := by rw [l, f1.len]
      refine ⟨by omega, fun p o hpn ho => ⟨p, vs, rfl, .inl (.inr ⟨o, upd_same⟩), l'.symm, gNames_of l' ?_⟩⟩
      exact h1 S2 _ _ (R3.new hpn) (k2.trans (kp_new hpn R2.sn))

/-! ### name += int -/
theorem ps_augE {i : Nat} {st : Stmt} {xa : M R} (hp : PS X st (tAug i (tE A C W xa) (ipI fun i j => i + j))) : PS X st (tS A C W (augM i xa)) := by
  refine PS.imp hp ?_
  rintro D σ H ⟨S, e, R, h⟩
  unfold augM bnd at h
  cases hd : rd e (.slot i) with
  | none => simp only [rdM, hd] at h; exact h.elim
  | some d0 =>
    simp only [rdM, hd] at h
    have h : ResF A C W D S H (bnd xa (fun ra => bnd (rdM ra) fun da => bnd (opt (augD d0 da)) fun d => bnd (bind1 i (.im d)) fun _ => ret .nx) e) := h
    have e0 : ∃ v, σ[i]? = some (some v) ∧ Rw A.K A.w S H v d0 := by
      have hd' : (e.getD i .no).data = some d0 := hd
      cases q : e.getD i .no with
      | no => rw [q] at hd'; cases hd'
      | im d =>
        rw [q] at hd'; cases hd'
        obtain ⟨v, h1, h2⟩ := R.im i _ q
        exact ⟨v, h1, .rv h2⟩
      | ow d =>
        rw [q] at hd'; cases hd'
        obtain ⟨v, h1, _, _, h2⟩ := R.ow i _ q
        exact ⟨_, h1, .ro h2⟩
      | io d =>
        rw [q] at hd'; cases hd'
        obtain ⟨v, h1, _, _, h2⟩ := R.io i _ q
        exact ⟨_, h1, .ro h2⟩
    obtain ⟨v, hv, qv⟩ := e0
    refine ⟨v, hv, S, e, R, (resF_bnd R h).imp fun ra e1 S1 H1 R1 M1 h1 y qy _ => ?_⟩
    unfold bnd at h1
    cases hda : rd e1 ra with
    | none => simp only [rdM, hda] at h1; exact h1.elim
    | some da =>
      simp only [rdM, hda] at h1
      cases haug : augD d0 da with
      | none => simp only [haug, opt, bad] at h1; exact h1.elim
      | some d =>
        simp only [haug, opt, ret] at h1
        cases hb : bind1 i (.im d) e1 with
        | bad => simp only [hb] at h1; exact h1.elim
        | exc c e2 => exact absurd hb (bind1_nx _ _ _ _ _)
        | ok u e2 =>
          simp only [hb] at h1
          unfold augD at haug
          split at haug
          · cases haug
            cases rw_int qv
            cases rw_int (qy.rw R1 hda)
            obtain ⟨b1, b2, rfl⟩ := bind1_of hb
            exact ⟨_, _, rfl, rfl, h1 S1 _ H1 (R1.put b1 b2 (.inr (.inl ⟨_, rfl, .int _⟩))) .refl⟩
          · cases haug

/-! ### raise -/
theorem ps_raiseE {st : Stmt} {c : Nat} {t : TS} (hp : PS X st t) (hi : ∀ D σ H, (∀ dd, W (C c) dd σ H) → t D σ H) : PS X st (tS A C W (fun e => .exc c e)) := by
  refine PS.imp hp ?_
  rintro D σ H ⟨S, e, R, h⟩
  exact hi D σ H fun dd => h S σ H dd R .refl
end
end Ev
/-! text EvQ -/
set_option Elab.async false
set_option linter.all false
set_option maxRecDepth 100000
/-! Ev: dicts with tuples for keys. -/
namespace Ev
open PySem PySem.Spec PyProof.Rows L2
mutual
theorem eqv_nk : ∀ a b : D, keyOk a = true → keyOk b = true → PyData.eqv a b = NestedKey.beq (nk a) (nk b)
  | .int i, b, _, hb => by
    cases b with
    | int j => simp [PyData.eqv, nk, NestedKey.beq, BEq.beq]
    | str y => simp [PyData.eqv, nk, NestedKey.beq]
    | tuple ys => simp [PyData.eqv, nk, NestedKey.beq]
    | _ => simp [keyOk] at hb
  | .str x, b, _, hb => by
    cases b with
    | int j => simp [PyData.eqv, nk, NestedKey.beq]
    | str y => simp [PyData.eqv, nk, NestedKey.beq, BEq.beq]
    | tuple ys => simp [PyData.eqv, nk, NestedKey.beq]
    | _ => simp [keyOk] at hb
  | .tuple xs, b, ha, hb => by
    cases b with
    | int j => simp [PyData.eqv, nk, NestedKey.beq]
    | str y => simp [PyData.eqv, nk, NestedKey.beq]
    | tuple ys =>
      simp only [PyData.eqv, nk, NestedKey.beq]
      exact eqvAll_nk xs ys (by simpa [keyOk] using ha) (by simpa [keyOk] using hb)
    | _ => simp [keyOk] at hb
  | .none, _, ha, _ => by simp [keyOk] at ha
  | .bool _, _, ha, _ => by simp [keyOk] at ha
  | .list _, _, ha, _ => by simp [keyOk] at ha
  | .dict _, _, ha, _ => by simp [keyOk] at ha
theorem eqvAll_nk : ∀ as bs : List D, keyOkAll as = true → keyOkAll bs = true → PyData.eqvAll as bs = NestedKey.beqAll (nks as) (nks bs)
  | [], [], _, _ => by simp [PyData.eqvAll, nks, NestedKey.beqAll]
  | [], _ :: _, _, _ => by simp [PyData.eqvAll, nks, NestedKey.beqAll]
  | _ :: _, [], _, _ => by simp [PyData.eqvAll, nks, NestedKey.beqAll]
  | a :: as, b :: bs, ha, hb => by
    simp only [keyOkAll, Bool.and_eq_true] at ha hb
    simp only [PyData.eqvAll, nks, NestedKey.beqAll]
    rw [eqv_nk a b ha.1 hb.1, eqvAll_nk as bs ha.2 hb.2]
end
theorem eqv_nk' {a b : D} (ha : keyOk a = true) (hb : keyOk b = true) : PyData.eqv a b = decide (nk a = nk b) := by rw [eqv_nk a b ha hb, NestedKey.decide_eq]
mutual
theorem nk_depth : ∀ d : D, (nk d).depth = nkDepth d
  | .tuple ds => by simp only [nk, NestedKey.depth, nkDepth]; rw [nks_depth ds]
  | .int _ => by simp [nk, NestedKey.depth, nkDepth]
  | .str _ => by simp [nk, NestedKey.depth, nkDepth]
  | .none => by simp [nk, NestedKey.depth, nkDepth]
  | .bool _ => by simp [nk, NestedKey.depth, nkDepth]
  | .list _ => by simp [nk, NestedKey.depth, nkDepth]
  | .dict _ => by simp [nk, NestedKey.depth, nkDepth]
theorem nks_depth : ∀ ds : List D, NestedKey.depthAll (nks ds) = nkDepthAll ds
  | [] => by simp [nks, NestedKey.depthAll, nkDepthAll]
  | d :: ds => by simp only [nks, NestedKey.depthAll, nkDepthAll]; rw [nk_depth d, nks_depth ds]
end
theorem keyF_of {k : D} (h : keyF k = true) : keyOk k = true ∧ (nk k).depth ≤ 8 := by
  unfold keyF at h
  rw [Bool.and_eq_true, decide_eq_true_eq, ← nk_depth] at h
  exact h
section
variable {K : PySem.W.Frag} {w : World} {S : Addr → Prop} {H : Hp}
/-- entries with tuples for keys -/
inductive Ens (K : PySem.W.Frag) (w : World) (S : Addr → Prop) (H : Hp) : List (NestedKey × Addr × Value) → List (D × D) → Prop
  | nil : Ens K w S H [] []
  | cons {a : Addr} {x : Value} {vv : V} {k d : D} {xs : List (NestedKey × Addr × Value)} {kvs : List (D × D)} : keyOk k = true → (nk k).depth ≤ 8 → isTup k = true → Rv K w S H (.ref a) k → RelV vv x → Rv K w S H vv d → Ens K w S H xs kvs → Ens K w S H ((nk k, a, x) :: xs) ((k, d) :: kvs)
theorem ens_of {P : Program} : ∀ {es : List DictEntry} {kvs : List (D × D)}, Rde K w S H es kvs → (kvs.all fun p => isTup p.1) = true → ∃ xs, Ens K w S H xs kvs ∧ es = xs.map (entryOfKey (nestedKind P w))
  | _, [], h, _ => by cases h; exact ⟨[], .nil, rfl⟩
  | _, (k, d) :: kvs, h, ht => by
    rw [List.all_cons, Bool.and_eq_true] at ht
    cases h with
    | @cons en es _ _ _ kv vv h1 h2 h3 h4 h5 h6 h7 h8 =>
      obtain ⟨xs, q1, q2⟩ := ens_of (P := P) h8 ht.2
      cases k with
      | tuple zs =>
        cases h5 with
        | tup g1 g2 g3 g4 =>
          have ek : en.key = Value.ref _ := h4
          refine ⟨_ :: xs, .cons h1 h2 rfl (.tup g1 g2 g3 g4) h6 h7 q1, ?_⟩
          rw [List.map_cons, ← q2]
          congr 1
          obtain ⟨eh, ekk, ev⟩ := en
          simp only at h3 ek
          subst h3 ek
          rfl
      | _ => cases ht.1
theorem rde_of {P : Program} {xs : List (NestedKey × Addr × Value)} {kvs : List (D × D)} (h : Ens K w S H xs kvs) : Rde K w S H (xs.map (entryOfKey (nestedKind P w))) kvs := by
  induction h with
  | nil => exact .nil
  | cons h1 h2 h3 h4 h5 h6 h7 ih =>
    rw [List.map_cons]
    exact .cons (kv := .ref _) h1 h2 rfl (show RelV (V.ref _) (Value.ref _) from rfl) h4 h5 h6 ih
theorem ens_keys {xs : List (NestedKey × Addr × Value)} {kvs : List (D × D)} (h : Ens K w S H xs kvs) : xs.map (·.1) = kvs.map fun p => nk p.1 := by
  induction h with
  | nil => rfl
  | cons h1 h2 h3 h4 h5 h6 h7 ih => rw [List.map_cons, List.map_cons, ih]
theorem ens_len {xs : List (NestedKey × Addr × Value)} {kvs : List (D × D)} (h : Ens K w S H xs kvs) : xs.length = kvs.length := by
  induction h with
  | nil => rfl
  | cons h1 h2 h3 h4 h5 h6 h7 ih => exact congrArg Nat.succ ih
theorem ens_mono {S' : Addr → Prop} {H' : Hp} (k : Kp S H S' H') {xs : List (NestedKey × Addr × Value)} {kvs : List (D × D)} (h : Ens K w S H xs kvs) : Ens K w S' H' xs kvs := by
  induction h with
  | nil => exact .nil
  | cons h1 h2 h3 h4 h5 h6 h7 ih => exact .cons h1 h2 h3 (h4.mono k) h5 (h6.mono k) ih
theorem ens_all {xs : List (NestedKey × Addr × Value)} {kvs : List (D × D)} (h : Ens K w S H xs kvs) : (kvs.all fun p => isTup p.1) = true := by
  induction h with
  | nil => rfl
  | cons h1 h2 h3 h4 h5 h6 h7 ih => rw [List.all_cons, h3, ih]; rfl
theorem ens_at {k : D} (hk : keyOk k = true) {xs : List (NestedKey × Addr × Value)} {kvs : List (D × D)} (h : Ens K w S H xs kvs) : (dget k kvs = none ∧ atKey xs (nk k) = none) ∨ ∃ d p vv, dget k kvs = some d ∧ atKey xs (nk k) = some p ∧ RelV vv p.2 ∧ Rv K w S H vv d := by
  induction h with
  | nil => exact .inl ⟨rfl, rfl⟩
  | @cons a x vv k' d xs kvs h1 h2 h3 h4 h5 h6 h7 ih =>
    unfold dget
    rw [eqv_nk' h1 hk]
    by_cases e : nk k' = nk k
    · rw [if_pos (decide_eq_true e)]
      refine .inr ⟨d, (a, x), vv, rfl, ?_, h5, h6⟩
      unfold atKey
      rw [List.find?_cons_of_pos (by simpa using e)]
      rfl
    · rw [if_neg (by simpa using e)]
      have e2 : atKey ((nk k', a, x) :: xs) (nk k) = atKey xs (nk k) := by
        unfold atKey
        rw [List.find?_cons_of_neg (by simpa using e)]
      rw [e2]
      exact ih
theorem putAt_other {k : NestedKey} {v : Value} : ∀ {xs : List (NestedKey × Addr × Value)}, k ∉ xs.map (·.1) → xs.map (putAt k v) = xs
  | [], _ => rfl
  | x :: xs, h => by
    rw [List.map_cons, List.mem_cons, not_or] at h
    rw [List.map_cons, putAt_other h.2]
    unfold putAt
    rw [if_neg (fun z => h.1 z.symm)]
theorem ens_put {k dv : D} {a : Addr} {x : Value} {vv : V} (hk : keyOk k = true) (hd : (nk k).depth ≤ 8) (ht : isTup k = true) (ha : Rv K w S H (.ref a) k) (hr : RelV vv x) (hv : Rv K w S H vv dv) {xs : List (NestedKey × Addr × Value)} {kvs : List (D × D)} (h : Ens K w S H xs kvs) (nd : (xs.map (·.1)).Nodup) :
    Ens K w S H (storedH xs (nk k) a x) (dput k dv kvs) := by
  induction h with
  | nil => exact .cons hk hd ht ha hr hv .nil
  | @cons a' x' vv' k' d xs kvs h1 h2 h3 h4 h5 h6 h7 ih =>
    rw [List.map_cons, List.nodup_cons] at nd
    have ih := ih nd.2
    unfold dput
    rw [eqv_nk' h1 hk]
    by_cases e : nk k' = nk k
    · rw [if_pos (decide_eq_true e)]
      have hs : (atKey ((nk k', a', x') :: xs) (nk k)).isSome = true := by
        unfold atKey
        rw [List.find?_cons_of_pos (by simpa using e)]
        rfl
      unfold storedH
      rw [if_pos hs, List.map_cons, putAt_other (by rw [← e]; exact nd.1)]
      have : putAt (nk k) x (nk k', a', x') = (nk k', a', x) := by unfold putAt; rw [if_pos e]
      rw [this]
      exact .cons h1 h2 h3 h4 hr hv h7
    · rw [if_neg (by simpa using e)]
      have e2 : atKey ((nk k', a', x') :: xs) (nk k) = atKey xs (nk k) := by
        unfold atKey
        rw [List.find?_cons_of_neg (by simpa using e)]
      have e3 : storedH ((nk k', a', x') :: xs) (nk k) a x = (nk k', a', x') :: storedH xs (nk k) a x := by
        unfold storedH
        rw [e2]
        split
        · rw [List.map_cons]
          congr 1
          unfold putAt; rw [if_neg e]
        · rfl
      rw [e3]
      exact .cons h1 h2 h3 h4 h5 h6 ih
end
section
variable {X : Cx} {pins : List (Addr × Obj)} {σ : L2.St} {S : Addr → Prop} {H : Hp} {s : Shared}
mutual
theorem nested_of (I : Inv X pins σ H s) : ∀ (d : D) (v : V) (u : Value), keyOk d = true → Rv X.K X.w S H v d → RelV v u → NestedIs s.heap (nk d) u
  | .int i, v, u, _, h, r => by cases h; obtain ⟨t, rfl⟩ := r; exact .int i t
  | .str x, v, u, _, h, r => by cases h; obtain ⟨t, rfl⟩ := r; exact .text x t
  | .tuple ds, v, u, hk, h, r => by
    cases h with
    | tup h1 h2 h3 h4 =>
      cases r
      obtain ⟨its, rv, ⟨o, ho, hc, n, hd⟩, _⟩ := I.tuple (.inl h2.rd)
      exact .tup ho hc hd (by simpa using nesteds_of I ds _ its (by simpa [keyOk] using hk) h4 rv)
  | .none, _, _, hk, _, _ => by simp [keyOk] at hk
  | .bool _, _, _, hk, _, _ => by simp [keyOk] at hk
  | .list _, _, _, hk, _, _ => by simp [keyOk] at hk
  | .dict _, _, _, hk, _, _ => by simp [keyOk] at hk
theorem nesteds_of (I : Inv X pins σ H s) : ∀ (ds : List D) (vs : List V) (us : List Value), keyOkAll ds = true → Rvs X.K X.w S H vs ds → Vals vs us → NestedAll s.heap (nks ds) us
  | [], _, _, _, h, r => by cases h; cases r; exact .nil
  | d :: ds, _, _, hk, h, r => by
    simp only [keyOkAll, Bool.and_eq_true] at hk
    cases h with
    | cons h1 h2 =>
      cases r with
      | cons r1 r2 => exact .cons (nested_of I d _ _ hk.1 h1 r1) (nesteds_of I ds _ _ hk.2 h2 r2)
end
theorem ens_is (I : Inv X pins σ H s) {xs : List (NestedKey × Addr × Value)} {kvs : List (D × D)} (h : Ens X.K X.w S H xs kvs) : ∀ x ∈ xs, (nestedKind X.prog X.w).is s.heap x.1 x.2.1 := by
  induction h with
  | nil => intro x hx; exact absurd hx (by simp)
  | cons h1 h2 h3 h4 h5 h6 h7 ih =>
    intro x hx
    rcases List.mem_cons.mp hx with rfl | hx
    · exact ⟨nested_of I _ _ _ h1 h4 rfl, h2⟩
    · exact ih x hx
/-- the dict at hand -/
theorem dict_at (I : Inv X pins σ H s) {v : V} {u : Value} {kvs : List (D × D)} (rv : RelV v u) (h : Rw X.K X.w S H v (.dict kvs)) (ht : (kvs.all fun p => isTup p.1) = true) : ∃ a xs, v = .ref a ∧ u = .ref a ∧ (a == sysModules) = false ∧ s.heap.DictOfH (nestedKind X.prog X.w) a xs ∧ Ens X.K X.w S H xs kvs ∧ (xs.map (·.1)).Nodup ∧ xs.length ≤ sizeLine := by
  obtain ⟨a, o, es, ep, rfl, h1, h2, h3, h4, h5, h6, h7⟩ := rw_dic h
  cases rv
  obtain ⟨xs, q1, q2⟩ := ens_of (P := X.prog) h6 ht
  have nd : (xs.map (·.1)).Nodup := by rw [ens_keys q1]; exact h7
  refine ⟨a, xs, rfl, rfl, h2, ⟨o, es, ep, obj_of I h1, h3, h4, q2, ens_is I q1, nd⟩, q1, nd, ?_⟩
  have := congrArg List.length q2
  rw [List.length_map, Array.length_toList] at this
  omega
theorem kOk_of {k : D} {kvs : List (D × D)} (h : kOk k kvs = true) : keyOk k = true ∧ (nk k).depth ≤ 8 ∧ isTup k = true ∧ (kvs.all fun p => isTup p.1) = true := by
  unfold kOk at h
  rw [Bool.and_eq_true, Bool.and_eq_true] at h
  obtain ⟨h1, h2⟩ := keyF_of h.1.1
  exact ⟨h1, h2, h.1.2, h.2⟩
/-- a key at hand -/
theorem key_at (I : Inv X pins σ H s) {v : V} {u : Value} {k : D} (hk : keyOk k = true) (hd : (nk k).depth ≤ 8) (ht : isTup k = true) (rv : RelV v u) (h : Rw X.K X.w S H v k) : ∃ b, v = .ref b ∧ u = .ref b ∧ (nestedKind X.prog X.w).is s.heap (nk k) b ∧ Rv X.K X.w S H (.ref b) k := by
  cases k with
  | tuple zs =>
    cases h with
    | rv h =>
      cases h with
      | tup h1 h2 h3 h4 =>
        cases rv
        exact ⟨_, rfl, rfl, ⟨nested_of I _ _ _ hk (.tup h1 h2 h3 h4) rfl, hd⟩, .tup h1 h2 h3 h4⟩
    | ro h => cases h
  | _ => cases ht
theorem room1 (hu : X.A.units + 100 < cLine) : (nestedKind X.prog X.w).room X.A.in1 := by
  show X.A.units + 1 + 8 < cLine
  omega
theorem in_dict (hu : X.A.units + 100 < cLine) {x y : V} {v u : Value} {Q : VK} {d1 : D} {kvs : List (D × D)} {k : Bool} (I : Inv X pins σ H s) (rx : RelV x v) (ry : RelV y u) (hx : Rw X.K X.w S H x d1) (hy : Rw X.K X.w S H y (.dict kvs)) (hf : inB d1 (.dict kvs) = some k) (q : Q (.bl k) H) :
    wpAny (model X.prog X.w) X.A (compareOp .In v u) (EP X pins σ Q) X.xe s := by
  have hf : (if kOk d1 kvs then some ((dget d1 kvs).isSome) else none) = some k := hf
  split at hf
  · rename_i ok
    cases hf
    obtain ⟨k1, k2, k3, k4⟩ := kOk_of ok
    obtain ⟨a, xs, rfl, rfl, lo, hm, en, nd, zl⟩ := dict_at I ry hy k4
    obtain ⟨b, rfl, rfl, hb, _⟩ := key_at I k1 k2 k3 rx hx
    refine wpAny_in_heap (room1 hu) hb lo hm ?_
    have e : (atKey xs (nk d1)).isSome = (dget d1 kvs).isSome := by
      rcases ens_at k1 en with ⟨e1, e2⟩ | ⟨d, p, vv, e1, e2, _⟩ <;> rw [e1, e2] <;> rfl
    rw [e]
    exact ⟨.bl _, H, I.tok _, rfl, q⟩
  · cases hf
theorem notIn_dict (hu : X.A.units + 100 < cLine) {x y : V} {v u : Value} {Q : VK} {d1 : D} {kvs : List (D × D)} {k : Bool} (I : Inv X pins σ H s) (rx : RelV x v) (ry : RelV y u) (hx : Rw X.K X.w S H x d1) (hy : Rw X.K X.w S H y (.dict kvs)) (hf : inB d1 (.dict kvs) = some k) (q : Q (.bl (!k)) H) :
    wpAny (model X.prog X.w) X.A (compareOp .NotIn v u) (EP X pins σ Q) X.xe s := by
  have hf : (if kOk d1 kvs then some ((dget d1 kvs).isSome) else none) = some k := hf
  split at hf
  · rename_i ok
    cases hf
    obtain ⟨k1, k2, k3, k4⟩ := kOk_of ok
    obtain ⟨a, xs, rfl, rfl, lo, hm, en, nd, zl⟩ := dict_at I ry hy k4
    obtain ⟨b, rfl, rfl, hb, _⟩ := key_at I k1 k2 k3 rx hx
    show wpAny _ _ (do return Value.bool (!(← contains (.ref a) (.ref b)))) _ _ s
    refine wpAny_bind (wpAny_contains_heap (room1 hu) hb lo hm (wpAny_pure ?_))
    have e : (atKey xs (nk d1)).isSome = (dget d1 kvs).isSome := by
      rcases ens_at k1 en with ⟨e1, e2⟩ | ⟨d, p, vv, e1, e2, _⟩ <;> rw [e1, e2] <;> rfl
    rw [e]
    exact ⟨.bl _, H, I.tok _, rfl, q⟩
  · cases hf
theorem ix_dict (hu : X.A.units + 100 < cLine) {value slice : Expr} {x y : V} {v u : Value} {Q : VK} {d1 d : D} {kvs : List (D × D)} (I : Inv X pins σ H s) (rx : RelV x v) (ry : RelV y u) (hy : Rw X.K X.w S H y d1) (hx : Rw X.K X.w S H x (.dict kvs)) (hf : idx2 (.dict kvs) d1 = some d) (q : ∀ z, Rv X.K X.w S H z d → Q z H)
    (hs : subscripted slice false v u = operate [v, u] (getItem v u)) : wpAny (model X.prog X.w) X.A (subscriptTail value slice v u) (EP X pins σ Q) X.xe s := by
  have hf : (if kOk d1 kvs then dget d1 kvs else none) = some d := hf
  split at hf
  · rename_i ok
    obtain ⟨k1, k2, k3, k4⟩ := kOk_of ok
    obtain ⟨a, xs, rfl, rfl, lo, hm, en, nd, zl⟩ := dict_at I rx hx k4
    obtain ⟨b, rfl, rfl, hb, _⟩ := key_at I k1 k2 k3 ry hy
    rcases ens_at k1 en with ⟨e1, e2⟩ | ⟨d', p, vv, e1, e2, e3, e4⟩
    · rw [e1] at hf; cases hf
    · rw [e1] at hf; cases hf
      exact tail_any hm.typeIs slot_dict_getitem.lookup (wpAny_getItem_heap (room1 hu) hb hm e2 ⟨vv, H, I.tok _, e3, q vv e4⟩) hs
  · cases hf
/-- a dict is written -/
theorem dictW {a : Addr} {o o' : Obj} {h' : Heap} {t : Nat} (I : Inv X pins σ H s) (hH : H a = some (ObjO a o)) (hs : Heap.SameBut a s.heap h') (ho : h'.get? a = some o') : Inv X pins σ (upd H a (ObjO a o')) { s with heap := h', toks := t } :=
  I.write (by rw [hH]; exact True.intro) (.inl rfl) (fun b u hb e => (hs.2 b hb).trans e) ⟨_, ho⟩ ⟨ho, ⟨_, ho⟩, fun _ _ p k => k _ p⟩
end
end Ev
/-! text EvR -/
set_option Elab.async false
set_option linter.all false
set_option maxRecDepth 100000
/-! Ev: x[i] = v, displays of dicts. -/
namespace Ev
open PySem PySem.Spec PyProof.Rows L2
section
variable {A : Am} {C : Ecls} {W : WX} {S : Addr → Prop} {e : VEnv} {σ : L2.St} {H : Hp} {i : Nat}
theorem ownD_of {f : D → Option (R × D)} {r : R} {e' : VEnv} (R : Rl A S e σ H) (h : ownD i f e = .ok r e') : ∃ a d d' s', σ[i]? = some (some (.ref a)) ∧ Ro A.K A.w S H a d ∧ f d = some (r, d') ∧ e' = e.set i s' ∧ ¬ S a ∧
    ∀ u, Ro A.K A.w S (upd H a u) a d' → Rl A S e' σ (upd H a u) ∧ Mn e σ S H e' S (upd H a u) := by
  unfold ownD at h
  cases q : e.getD i .no with
  | no => simp only [q] at h; cases h
  | im d => simp only [q] at h; cases h
  | ow d =>
    simp only [q] at h
    cases hf : f d with
    | none => simp only [hf] at h; cases h
    | some p =>
      obtain ⟨r', d'⟩ := p
      simp only [hf] at h; cases h
      obtain ⟨a, h1, h2, h3, h4⟩ := R.ow i _ q
      exact ⟨a, d, d', _, h1, h4, hf, rfl, h2, fun u hu => rl_own R (.inl ⟨q, rfl⟩) h1 fun _ => hu⟩
  | io d =>
    simp only [q] at h
    cases hf : f d with
    | none => simp only [hf] at h; cases h
    | some p =>
      obtain ⟨r', d'⟩ := p
      simp only [hf] at h; cases h
      obtain ⟨a, h1, h2, h3, h4⟩ := R.io i _ q
      exact ⟨a, d, d', _, h1, h4, hf, rfl, h2, fun u hu => rl_own R (.inr ⟨q, rfl⟩) h1 fun _ => hu⟩
theorem ownD_nx (i : Nat) (f : D → Option (R × D)) (e : VEnv) (c : Nat) (e' : VEnv) : ownD i f e ≠ .exc c e' := by
  unfold ownD
  split
  · split <;> (intro z; cases z)
  · split <;> (intro z; cases z)
  · intro z; cases z
end
/-- o[i] = v by data -/
def rSetE (K : PySem.W.Frag) (w : World) : TSet := fun o i v H Q => ∃ a, o = .ref a ∧ ((∃ xs k j, i = .int k ∧ H a = some (.lst xs) ∧ L2.ixN xs.length k = some j ∧ Q (upd H a (.lst (xs.set j v)))) ∨
  ∃ S kvs dk dv, (∀ a, S a → H a ≠ none) ∧ ¬ S a ∧ Ro K w S H a (.dict kvs) ∧ kOk dk kvs = true ∧ kvs.length < sizeLine ∧ Rv K w S H i dk ∧ Rv K w S H v dv ∧ ∀ o2, Ro K w S (upd H a (ObjO a o2)) a (.dict (dput dk dv kvs)) → Q (upd H a (ObjO a o2)))
section
variable {X : Cx}
theorem set_E (hu : X.A.units + 100 < cLine) : PSet X (rSetE X.K X.w) := by
  intro pins s σ H o i v ov iv u Q I ro ri rv h
  obtain ⟨a, rfl, h⟩ := h
  rcases h with ⟨xs, k, j, rfl, hH, hj, q⟩ | ⟨S, kvs, dk, dv, sn, nS, hro, ok, hl, hk, hv, q⟩
  · exact set_list pins s σ H _ _ v ov iv u Q I ro ri rv ⟨a, xs, k, j, rfl, rfl, hH, hj, q⟩
  · obtain ⟨k1, k2, k3, k4⟩ := kOk_of ok
    obtain ⟨a', xs, ea, rfl, lo, hm, en, nd, zl⟩ := dict_at I ro (.ro hro) k4
    cases ea
    obtain ⟨b, rfl, rfl, hb, hkb⟩ := key_at I k1 k2 k3 ri (.rv hk)
    have hH : ∃ o0, H a = some (ObjO a o0) := by
      cases hro with
      | dic g1 => exact ⟨_, g1⟩
    obtain ⟨o0, hH⟩ := hH
    refine wpAny_setItem_heap (room1 hu) hb hm (fun h' hm' hs => ?_) zl
    obtain ⟨o2, es2, ep2, ho2, ex2, hd2, he2, his2, nd2⟩ := hm'
    have en2 := ens_put k1 k2 k3 hkb rv hv en nd
    refine ⟨upd H a (ObjO a o2), dictW I hH hs ho2, q o2 (.dic upd_same lo ex2 hd2 ?_ ?_ ?_)⟩
    · have l1 := congrArg List.length he2
      rw [List.length_map, Array.length_toList, ens_len en2] at l1
      have : ∀ kvs : List (D × D), (dput dk dv kvs).length ≤ kvs.length + 1 := by
        intro kvs
        induction kvs with
        | nil => simp [dput]
        | cons p r ih => unfold dput; split <;> simp <;> omega
      have := this kvs
      omega
    · rw [he2]
      exact rde_of (ens_mono (kp_touch nS) en2)
    · rw [← ens_keys en2]; exact nd2
variable {A : Am} {C : Ecls} {W : WX} {i : Nat}
theorem ps_setIE {st : Stmt} {xv xk : M D} (hp : PS X st (tAsg (tV A C W xv) (gSub (tVar i) (tV A C W xk) (rSetE A.K A.w)))) : PS X st (tS A C W (setM i xv xk)) := by
  refine PS.imp hp ?_
  rintro D σ H ⟨S, e, R, h⟩
  refine ⟨S, e, R, (resF_bnd R h).imp fun dv e1 S1 H1 R1 M1 h1 v hv => ?_⟩
  unfold bnd at h1
  cases hd : rd e1 (.slot i) with
  | none => simp only [rdM, hd] at h1; exact h1.elim
  | some d0 =>
  simp only [rdM, hd] at h1
  have h1 : ResF A C W D S1 H1 (bnd xk (fun dk => bnd (ownD i (setD dk dv)) fun _ => ret .nx) e1) := h1
  obtain ⟨v0, hv0⟩ : ∃ v0, σ[i]? = some (some v0) := by
    have hd' : (e1.getD i .no).data = some d0 := hd
    cases q : e1.getD i .no with
    | no => rw [q] at hd'; cases hd'
    | im d => obtain ⟨v, h1, _⟩ := R1.im i _ q; exact ⟨v, h1⟩
    | ow d => obtain ⟨v, h1, _⟩ := R1.ow i _ q; exact ⟨_, h1⟩
    | io d => obtain ⟨v, h1, _⟩ := R1.io i _ q; exact ⟨_, h1⟩
  refine ⟨v0, hv0, S1, e1, R1, (resF_bnd R1 h1).imp fun dk e2 S2 H2 R2 M2 h2 kv hk => ?_⟩
  unfold bnd at h2
  cases ho : ownD i (setD dk dv) e2 with
  | bad => simp only [ho] at h2; exact h2.elim
  | exc c e3 => exact absurd ho (ownD_nx _ _ _ _ _)
  | ok r e3 =>
    simp only [ho] at h2
    obtain ⟨a, d, d', s', g1, g2, g3, rfl, g5, g6⟩ := ownD_of R2 ho
    rw [hv0] at g1; cases g1
    refine ⟨a, rfl, ?_⟩
    have hv2 := hv.mono (M2.kp R1)
    have fin : ∀ u, Ro A.K A.w S2 (upd H2 a u) a d' → D.nx σ (upd H2 a u) := fun u hu => by
      obtain ⟨R3, M3⟩ := g6 u hu
      exact h2 S2 σ _ R3 (kp_touch g5)
    unfold setD at g3
    split at g3
    · split at g3
      · obtain ⟨j, hj, e5⟩ := map_some g3
        cases e5
        cases hk
        cases g2 with
        | lst q1 q2 q3 =>
          refine .inl ⟨_, _, j, rfl, q1, by rw [q3.length]; exact hj, fin _ (.lst upd_same (by rw [List.length_set]; exact q2) ((q3.mono (kp_touch g5)).set (hv2.mono (kp_touch g5)) j))⟩
      · cases g3
    · split at g3
      · rename_i kvs hz
        cases g3
        rw [Bool.and_eq_true, decide_eq_true_eq, sz_eq] at hz
        exact .inr ⟨S2, kvs, dk, dv, R2.sn, g5, g2, hz.1, hz.2, hk, hv2, fun o2 ho2 => fin _ ho2⟩
      · cases g3
    · cases g3
/-- {} -/
theorem pe_dic0E {pos : Pos} : PE X (.Dict [] [] pos) (tE A C W (ret (.fresh (.dict [])))) := by
  refine ⟨fun pins s σ H Q I h => wpAny_Dict_empty ?_⟩
  obtain ⟨S, e, R, h⟩ := h
  have fr : H s.heap.objs.size = none := I.hok.fresh (Nat.le_refl _)
  have lo : (s.heap.objs.size == sysModules) = false := beq_eq_false_iff_ne.mpr (Ne.symm (Nat.ne_of_lt I.big))
  refine ⟨.ref s.heap.objs.size, _, I.laid (t' := s.toks) (o := ObjO s.heap.objs.size { cls := .type "dict", data := .dict #[] }) (fun _ _ q => Heap.get?_push_of_some _ q) (Nat.le_refl _) ⟨Heap.get?_push_size _ rfl, ⟨_, Heap.get?_push_size _ rfl⟩, fun _ _ p k => k _ p⟩, rfl, ?_⟩
  exact h S _ (R.new fr) (.new R fr) _ (.fresh (R.notS fr) (R.h0 fr) (R.notOwn fr) (.dic upd_same lo ⟨rfl, rfl, rfl⟩ rfl (Nat.zero_le _) .nil .nil)) (fun _ _ _ z => by cases z; exact fr)
/-- {k: v} -/
theorem pe_dic1E (hu : X.A.units + 100 < cLine) {k v : Expr} {xk xv : M Ev.D} {pos : Pos} (hK : X.K = A.K) (hw : X.w = A.w) (hk : PE X k (tV A C W xk)) (hv : PE X v (tV A C W xv)) : PE X (.Dict [some k] [v] pos) (tE A C W (dic1M xk xv)) := by
  refine ⟨fun pins s σ H Q I h => ?_⟩
  obtain ⟨S, e, R, h⟩ := h
  have fr : H s.heap.objs.size = none := I.hok.fresh (Nat.le_refl _)
  have lo : (s.heap.objs.size == sysModules) = false := beq_eq_false_iff_ne.mpr (Ne.symm (Nat.ne_of_lt I.big))
  have I0 : Inv X pins σ (upd H s.heap.objs.size (ObjO s.heap.objs.size { cls := .type "dict", data := .dict #[] })) { s with heap := s.heap.push { cls := .type "dict", data := .dict #[] } } :=
    I.laid (t' := s.toks) (fun _ _ q => Heap.get?_push_of_some _ q) (Nat.le_refl _) ⟨Heap.get?_push_size _ rfl, ⟨_, Heap.get?_push_size _ rfl⟩, fun _ _ p k => k _ p⟩
  generalize hD : s.heap.objs.size = D at *
  have R0 : Rl A S e σ (upd H D (ObjO D { cls := .type "dict", data := .dict #[] })) := R.new fr
  have M0 : Mn e σ S H e S (upd H D (ObjO D { cls := .type "dict", data := .dict #[] })) := .new R fr
  have nW0 := R.notOwn fr
  have nS0 := R.notS fr
  have h0D := R.h0 fr
  let Post : List (V × V) → Hp → Prop := fun ps H1 => ∃ x y dk dv e' S', ps = [(x, y)] ∧ Rl A S' e' σ H1 ∧ Mn e σ S H e' S' H1 ∧ Mn e σ S (upd H D (ObjO D { cls := .type "dict", data := .dict #[] })) e' S' H1 ∧ Rv A.K A.w S' H1 x dk ∧ Rv A.K A.w S' H1 y dv ∧ kOk dk [] = true ∧
    ∀ S'' H'', Rl A S'' e' σ H'' → Mn e σ S H e' S'' H'' → ∀ v, Rr A S'' e' σ H'' v (.fresh (.dict [(dk, dv)])) → Nw H v (.fresh (.dict [(dk, dv)])) → Q v H''
  have hread : tPairs [(tV A C W xk, tV A C W xv)] σ (upd H D (ObjO D { cls := .type "dict", data := .dict #[] })) Post := by
    refine ⟨S, e, R0, ?_⟩
    unfold dic1M bnd at h
    cases qk : xk e with
    | bad => rw [qk] at h; exact h.elim
    | exc c e1 => rw [qk] at h; exact fun S' H' dd R' M' => h S' H' dd R' (M0.trans M')
    | ok dk e1 =>
      rw [qk] at h
      intro S1 H1 R1 M1 x hx
      refine ⟨S1, e1, R1, ?_⟩
      simp only at h
      cases qv : xv e1 with
      | bad => rw [qv] at h; exact h.elim
      | exc c e2 => rw [qv] at h; exact fun S' H' dd R' M' => h S' H' dd R' (M0.trans (M1.trans M'))
      | ok dv e2 =>
        rw [qv] at h
        intro S2 H2 R2 M2 y hy
        simp only at h
        cases hz : kOk dk [] with
        | false => rw [hz, if_neg Bool.false_ne_true] at h; exact h.elim
        | true =>
          rw [hz, if_pos rfl] at h
          exact ⟨x, y, dk, dv, e2, S2, rfl, R2, M0.trans (M1.trans M2), M1.trans M2, hx.mono (M2.kp R1), hy, hz, fun S'' H'' R'' M'' => h S'' H'' R'' M''⟩
  have run := (pps_cons (pos := pos) hk hv pps_nil).run pins _ σ _ Post I0 hread
  have hshape : (evalEachOpt [some k] X.env).zip ((evalEach [v] X.env).map fun v => do let x ← v; standAt pos; pure x) = (pairTrees [some k] [v] X.env pos).map fun p => (some p.1, p.2) := rfl
  rw [arm_eval_Dict, hshape, dictDisplay_pairs (pairTrees [some k] [v] X.env pos) (fun z => nomatch (show (_ :: _) = [] from z)) (show 1 < 17 by decide)]
  refine wpAny_bind (wpAny_standAt (wpAny_bind (wpAny_subDictH (knd := nestedKind X.prog X.w) (Q := fun d s' => wpAny (model X.prog X.w) X.A (pure (Value.ref d)) (EP X pins σ Q) X.xe s') (show X.A.units + 8 < cLine by omega) (show 1 ≤ 15 by decide) (thn run fun vs s1 ⟨ps, H1, I1, rel, q⟩ => ?_))))
  obtain ⟨x, y, dk, dv, e', S', rfl, R1, M1, M1', hx, hy, ok, fin⟩ := q
  obtain ⟨k1, k2, k3, _⟩ := kOk_of ok
  cases rel with
  | @cons _ p _ _ r rest =>
  cases rest
  obtain ⟨ux, uy⟩ := p
  rw [← hK, ← hw] at hx hy
  obtain ⟨b, rfl, eb, hb, hkb⟩ := key_at I1 k1 k2 k3 r.1 (.rv hx)
  simp only at eb
  subst eb
  have hHD : H1 D = some (ObjO D { cls := .type "dict", data := .dict #[] }) := M1'.keep D _ upd_same nW0
  have nSD : ¬ S' D := fun z => by
    rcases M1'.dn D (by rw [upd_same]; simp) z with z | z
    · exact nS0 z
    · exact nW0 z
  have nWD : ¬ Wd e' σ D := fun z => nW0 (z.sub M1'.own)
  rw [hD]
  refine ⟨[(nk dk, b, uy)], ⟨rfl, rfl, hb, True.intro⟩, ⟨_, #[], 0, obj_of I1 hHD, ⟨rfl, rfl, rfl⟩, rfl, rfl, fun x hx => absurd hx (by simp), List.nodup_nil⟩, fun h' tk hm' hs => wpAny_pure ?_⟩
  obtain ⟨o2, es2, ep2, ho2, ex2, hd2, he2, his2, nd2⟩ := hm'
  have est : storedAllH [] [(nk dk, b, uy)] = [(nk dk, b, uy)] := rfl
  rw [est] at he2 nd2
  have I2 := dictW (t := tk) I1 hHD hs ho2
  have R2 := rl_touch (o := ObjO D o2) R1 nSD nWD h0D
  have en : Ens X.K X.w S' (upd H1 D (ObjO D o2)) [(nk dk, b, uy)] [(dk, dv)] := ens_mono (kp_touch nSD) (.cons k1 k2 k3 hkb r.2 hy .nil)
  have ro : Ro A.K A.w S' (upd H1 D (ObjO D o2)) D (.dict [(dk, dv)]) := by
    rw [← hK, ← hw]
    refine .dic upd_same lo ex2 hd2 ?_ (by rw [he2]; exact rde_of en) (by simp)
    have := congrArg List.length he2
    rw [Array.length_toList] at this
    rw [this]; show 1 ≤ sizeLine; decide
  refine ⟨.ref D, _, I2, rfl, fin S' _ R2 ⟨fun a o ha hwa => ?_, M1.up, M1.dn, M1.own, fun a ha => ?_, M1.ln⟩ (.ref D) (.fresh nSD h0D nWD ro) (fun _ a _ z => by cases z; exact fr)⟩
  · rw [upd_ne fun z => by rw [z, fr] at ha; cases ha]
    exact M1.keep a o ha hwa
  · rw [upd_ne fun z => ha (by rw [z]; exact fr)]
    exact M1.st a ha
end
end Ev
/-! text EvT -/
set_option Elab.async false
set_option linter.all false
set_option maxRecDepth 100000
/-! Ev: tests. -/
namespace Ev
open PySem PySem.Spec PyProof.Rows L2
theorem PW.imp {X : Cx} {e : Expr} {t t' : TT} (h : PW X e t) (i : ∀ σ H Q, t' σ H Q → t σ H Q) : PW X e t' := ⟨fun w pins s σ H Q I q => h.run w pins s σ H Q I (i σ H Q q)⟩
section
variable {X : Cx} {A : Am} {C : Ecls} {W : WX} {a b c : Expr} {xa xb xc : M R} {pos : Pos}
theorem bnd_assoc {α β γ : Type} (x : M α) (f : α → M β) (g : β → M γ) (e : VEnv) : bnd (bnd x f) g e = bnd x (fun a => bnd (f a) g) e := by
  unfold bnd
  cases x e <;> rfl
/-- the truth of what is read again is the same -/
theorem truth_again {r : R} {k : Bool} {e : VEnv} (h : truthM r e = .ok k e) : truthM r e = .ok k e := h
theorem truthM_ok {r : R} {e e' : VEnv} {k : Bool} (h : truthM r e = .ok k e') : e' = e := by
  obtain ⟨d, e1, h1, h2⟩ := bnd_ok h
  unfold rdM at h1
  cases q : rd e r with
  | none => simp only [q] at h1; cases h1
  | some d' =>
    simp only [q] at h1; cases h1
    cases q2 : truth? d with
    | none => rw [q2] at h2; cases h2
    | some k' => rw [q2] at h2; cases h2; rfl
theorem pw_andE {rest : List Expr} (ha : PT X a (tT A C W (bnd xa truthM))) (hb : PW X (.BoolOp .And (b :: rest) pos) (tT A C W (bnd xb truthM))) : PW X (.BoolOp .And (a :: b :: rest) pos) (tT A C W (bnd (andM xa xb) truthM)) := by
  refine PW.imp (pw_and ha hb) ?_
  rintro σ H Q ⟨S, e, R, h⟩
  have z : bnd (andM xa xb) truthM e = bnd (bnd xa fun ra => bnd (truthM ra) fun k => ret (ra, k)) (fun p => if p.2 then bnd xb truthM else truthM p.1) e := by
    unfold andM bnd
    cases xa e with
    | ok ra e1 =>
      simp only
      cases truthM ra e1 with
      | ok k e2 => cases k <;> rfl
      | exc c e2 => rfl
      | bad => rfl
    | exc c e1 => rfl
    | bad => rfl
  rw [z] at h
  have h1 := h.bnd
  refine ⟨S, e, R, ?_⟩
  unfold bnd at h1 ⊢
  cases qa : xa e with
  | bad => simp only [qa] at h1; exact h1
  | exc c e1 => simp only [qa] at h1; exact h1
  | ok ra e1 =>
    simp only [qa] at h1 ⊢
    cases qt : truthM ra e1 with
    | bad => simp only [qt] at h1; exact h1
    | exc c e2 => simp only [qt] at h1; exact h1
    | ok k e2 =>
      simp only [qt, ret] at h1 ⊢
      have e12 := truthM_ok qt
      subst e12
      intro S1 H1 R1 M1
      obtain ⟨_, h2⟩ := h1 S1 H1 R1 M1
      cases k with
      | true => rw [if_pos rfl] at h2 ⊢; exact ⟨S1, e2, R1, h2⟩
      | false =>
        rw [if_neg Bool.false_ne_true] at h2 ⊢
        simp only at h2
        rw [qt] at h2
        exact h2 S1 H1 R1 .refl
theorem pw_orE {rest : List Expr} (ha : PT X a (tT A C W (bnd xa truthM))) (hb : PW X (.BoolOp .Or (b :: rest) pos) (tT A C W (bnd xb truthM))) : PW X (.BoolOp .Or (a :: b :: rest) pos) (tT A C W (bnd (orM xa xb) truthM)) := by
  refine PW.imp (pw_or ha hb) ?_
  rintro σ H Q ⟨S, e, R, h⟩
  have z : bnd (orM xa xb) truthM e = bnd (bnd xa fun ra => bnd (truthM ra) fun k => ret (ra, k)) (fun p => if p.2 then truthM p.1 else bnd xb truthM) e := by
    unfold orM bnd
    cases xa e with
    | ok ra e1 =>
      simp only
      cases truthM ra e1 with
      | ok k e2 => cases k <;> rfl
      | exc c e2 => rfl
      | bad => rfl
    | exc c e1 => rfl
    | bad => rfl
  rw [z] at h
  have h1 := h.bnd
  refine ⟨S, e, R, ?_⟩
  unfold bnd at h1 ⊢
  cases qa : xa e with
  | bad => simp only [qa] at h1; exact h1
  | exc c e1 => simp only [qa] at h1; exact h1
  | ok ra e1 =>
    simp only [qa] at h1 ⊢
    cases qt : truthM ra e1 with
    | bad => simp only [qt] at h1; exact h1
    | exc c e2 => simp only [qt] at h1; exact h1
    | ok k e2 =>
      simp only [qt, ret] at h1 ⊢
      have e12 := truthM_ok qt
      subst e12
      intro S1 H1 R1 M1
      obtain ⟨_, h2⟩ := h1 S1 H1 R1 M1
      cases k with
      | false => rw [if_neg Bool.false_ne_true] at h2 ⊢; exact ⟨S1, e2, R1, h2⟩
      | true =>
        rw [if_pos rfl] at h2 ⊢
        simp only at h2
        rw [qt] at h2
        exact h2 S1 H1 R1 .refl
theorem pt_notE (ha : PT X a (tT A C W (bnd xa truthM))) : PT X (.UnaryOp .Not a pos) (tT A C W (bnd (notM xa) truthM)) := by
  refine PT.imp (pt_not ha) ?_
  rintro σ H Q ⟨S, e, R, h⟩
  have z : bnd (notM xa) truthM e = bnd (bnd xa truthM) (fun k => ret (!k)) e := by
    unfold notM bnd
    cases xa e with
    | ok ra e1 =>
      simp only
      cases truthM ra e1 with
      | ok k e2 => rfl
      | exc c e2 => rfl
      | bad => rfl
    | exc c e1 => rfl
    | bad => rfl
  rw [z] at h
  exact ⟨S, e, R, h.bnd.imp fun k e1 S1 H1 R1 M1 ⟨_, h1⟩ => h1 S1 H1 R1 .refl⟩
/-- answers that are bools -/
def BoolM (x : M R) : Prop := ∀ e r e', x e = .ok r e' → ∃ k, r = .val (.bool k)
theorem test_imp {x : M R} (hb : BoolM x) {t : TE} (i : ∀ σ H Q, tE A C W x σ H Q → t σ H Q) : ∀ σ H Q, tT A C W (bnd x truthM) σ H Q → tTest t σ H Q := by
  rintro σ H Q ⟨S, e, R, h⟩
  refine i σ H _ ⟨S, e, R, ?_⟩
  have h1 := h.bnd
  cases q : x e with
  | bad => rw [q] at h1; exact h1
  | exc c e1 => rw [q] at h1; exact h1
  | ok r e1 =>
    rw [q] at h1
    obtain ⟨k, rfl⟩ := hb e r e1 q
    intro S1 H1 R1 M1 v hv _
    obtain ⟨_, h2⟩ := h1 S1 H1 R1 M1
    cases hv with
    | val hv =>
      cases hv
      exact ⟨k, rfl, h2 S1 H1 R1 .refl⟩
theorem bin2_val {f : D → D → Option R} {e e' : VEnv} {r : R} (h : bin2 xa xb f e = .ok r e') : ∃ x y, f x y = some r := by
  obtain ⟨ra, e1, _, h⟩ := bnd_ok h
  obtain ⟨rb, e2, _, h⟩ := bnd_ok h
  obtain ⟨da, e3, _, h⟩ := bnd_ok h
  obtain ⟨db, e4, _, h⟩ := bnd_ok h
  cases q : f da db with
  | none => rw [q] at h; cases h
  | some r' => rw [q] at h; cases h; exact ⟨da, db, q⟩
theorem bool_cmp {o : Cm} : BoolM (bin2 xa xb (cmpD o)) := by
  intro e r e' h
  obtain ⟨x, y, hf⟩ := bin2_val h
  obtain ⟨k, _, rfl⟩ := map_some hf
  exact ⟨k, rfl⟩
theorem bool_un {f : D → Option R} (hf : ∀ d r, f d = some r → ∃ k, r = .val (.bool k)) : BoolM (un1 xa f) := by
  intro e r e' h
  obtain ⟨ra, e1, _, h⟩ := bnd_ok h
  obtain ⟨da, e3, _, h⟩ := bnd_ok h
  cases q : f da with
  | none => rw [q] at h; cases h
  | some r' => rw [q] at h; cases h; exact hf _ _ q
theorem bool_chain {c1 c2 : D → D → Option Bool} : BoolM (chainM xa xb xc c1 c2) := by
  intro e r e' h
  obtain ⟨ra, e1, _, h⟩ := bnd_ok h
  obtain ⟨rb, e2, _, h⟩ := bnd_ok h
  obtain ⟨da, e3, _, h⟩ := bnd_ok h
  obtain ⟨db, e4, _, h⟩ := bnd_ok h
  obtain ⟨k, e5, _, h⟩ := bnd_ok h
  cases k with
  | false => rw [if_neg Bool.false_ne_true] at h; cases h; exact ⟨_, rfl⟩
  | true =>
    rw [if_pos rfl] at h
    obtain ⟨rc, e6, _, h⟩ := bnd_ok h
    obtain ⟨d1, e7, _, h⟩ := bnd_ok h
    obtain ⟨d2, e8, _, h⟩ := bnd_ok h
    cases q : (c2 d1 d2).map fun k => Ev.R.val (.bool k) with
    | none => rw [q] at h; cases h
    | some r' =>
      rw [q] at h; cases h
      obtain ⟨k, _, rfl⟩ := map_some q
      exact ⟨k, rfl⟩
theorem pt_cmpE {op : CmpOp} {o : Cm} (ho : OpR X (compareOp op) (rD2 A.K A.w (cmpD o))) (ha : PE X a (tE A C W xa)) (hb : PE X b (tE A C W xb)) (hm : behindInMarks op b = false) : PT X (.Compare a [op] [b] pos) (tT A C W (bnd (bin2 xa xb (cmpD o)) truthM)) :=
  PT.imp (pt_cmpR ho ha hb hm) (test_imp bool_cmp (bin_imp (fun x y r hr i => by
    obtain ⟨_, _, rfl⟩ := map_some hr
    intro z; cases z)))
theorem pt_chainE {op op' : CmpOp} {c1 c2 : Cm} (hK : X.K = A.K) (hw : X.w = A.w) (ho : OpR X (compareOp op) (rD2 X.K X.w (cmpD c1))) (ho' : OpR X (compareOp op') (rD2 X.K X.w (cmpD c2))) (ha : PE X a (tE A C W xa)) (hb : PE X b (tE A C W xb)) (hc : PE X c (tE A C W xc))
    (hm : lastMarks [op, op'] [b, c] = false) : PT X (.Compare a [op, op'] [b, c] pos) (tT A C W (bnd (chainM xa xb xc (cmp2 c1) (cmp2 c2)) truthM)) :=
  PT.imp (pt_chain ho ho' ha hb hc hm) (by rw [hK, hw]; exact test_imp bool_chain chain_imp)
theorem pt_isNE {z : Expr} (ha : PE X a (tE A C W xa)) (hz : PE X z (tC .non)) (hm : behindInMarks .Is z = false) : PT X (.Compare a [.Is] [z] pos) (tT A C W (bnd (un1 xa isND) truthM)) :=
  PT.imp (pt_cmpR op_isN ha hz hm) (test_imp (bool_un fun d r h => by cases h; exact ⟨_, rfl⟩) isN_imp)
theorem pt_isNotNE {z : Expr} (ha : PE X a (tE A C W xa)) (hz : PE X z (tC .non)) (hm : behindInMarks .IsNot z = false) : PT X (.Compare a [.IsNot] [z] pos) (tT A C W (bnd (un1 xa notND) truthM)) :=
  PT.imp (pt_cmpR op_notN ha hz hm) (test_imp (bool_un fun d r h => by cases h; exact ⟨_, rfl⟩) notN_imp)
end
end Ev
/-! text EvU -/
set_option Elab.async false
set_option linter.all false
set_option maxRecDepth 100000
/-! Ev: calls of defs. -/
namespace Ev
open PySem PySem.Spec PyProof.Rows L2
theorem mapM_get {α β : Type} {f : α → Option β} : ∀ {l : List α} {r : List β}, l.mapM f = some r → r.length = l.length ∧ ∀ (n : Nat) (a : α), l[n]? = some a → ∃ b : β, r[n]? = some b ∧ f a = some b
  | [], r, h => by
    simp at h; subst h
    exact ⟨rfl, fun n a q => by simp at q⟩
  | x :: l, r, h => by
    rw [List.mapM_cons] at h
    cases q : f x with
    | none => rw [q] at h; cases h
    | some y =>
      rw [q] at h
      cases q2 : l.mapM f with
      | none => rw [q2] at h; cases h
      | some r2 =>
        rw [q2] at h
        cases h
        obtain ⟨l1, g1⟩ := mapM_get q2
        refine ⟨by simp [l1], fun n a z => ?_⟩
        cases n with
        | zero => simp at z; subst z; exact ⟨y, rfl, q⟩
        | succ n => exact g1 n a (by simpa using z)

/-- the arguments of a call: as the addresses of the inout ones -/
structure ArgsOk (K : PySem.W.Frag) (w : World) (S : Addr → Prop) (H : Hp) (pos : List Nat) (as : List Addr) (vs : List V) (ds : List D) : Prop where
  len : vs.length = ds.length
  al : as.length = pos.length
  nd : as.Nodup
  im : ∀ (j : Nat) (d : D), ds[j]? = some d → j ∉ pos → ∃ v : V, vs[j]? = some v ∧ Rv K w S H v d
  io : ∀ (n j : Nat), pos[n]? = some j → ∃ (a : Addr) (d : D), as[n]? = some a ∧ vs[j]? = some (.ref a) ∧ ds[j]? = some d ∧ ¬ S a ∧ Ro K w S H a d
  sn : ∀ a, S a → H a ≠ none
/-- behind a call -/
structure CallPost (K : PySem.W.Frag) (w : World) (S : Addr → Prop) (H : Hp) (as : List Addr) (S' : Addr → Prop) (H' : Hp) (outs : List D) : Prop where
  kp : Kp S H S' H'
  fr : ∀ a o, H a = some o → a ∉ as → H' a = some o
  dn : ∀ a, H a ≠ none → S' a → S a
  st : ∀ a, H a ≠ none → H' a ≠ none
  sn : ∀ a, S' a → H' a ≠ none
  ol : outs.length = as.length
  out : ∀ (n : Nat) (a : Addr) (d : D), as[n]? = some a → outs[n]? = some d → ¬ S' a ∧ Ro K w S' H' a d
/-- a def's promise -/
def spF (K : PySem.W.Frag) (w : World) (C : Ecls) (c : CallF) (f : Nat) (pos : List Nat) (np : Nat) : Sp := fun vs H Q E => vs.length = np ∧ ∃ S ds as, ArgsOk K w S H pos as vs ds ∧ match c f pos ds with
  | .ok d fr outs => ∀ v S' H', CallPost K w S H as S' H' outs → (if fr then ∃ a, v = .ref a ∧ ¬ S' a ∧ H a = none ∧ Ro K w S' H' a d else Rv K w S' H' v d) → Q v H'
  | .exc x outs => ∀ S' H' dd, CallPost K w S H as S' H' outs → E (C x) dd H'
  | .bad => False

theorem zip_mem {α β : Type} {l : List α} {r : List β} {a : α} {b : β} (h : (a, b) ∈ l.zip r) : ∃ n : Nat, l[n]? = some a ∧ r[n]? = some b := by
  obtain ⟨n, hn⟩ := List.mem_iff_getElem?.mp h
  rw [List.getElem?_zip_eq_some] at hn
  exact ⟨n, hn⟩
theorem mem_zip {α β : Type} {l : List α} {r : List β} {a : α} {b : β} {n : Nat} (h1 : l[n]? = some a) (h2 : r[n]? = some b) : (a, b) ∈ l.zip r := by
  rw [List.mem_iff_getElem?]
  exact ⟨n, List.getElem?_zip_eq_some.mpr ⟨h1, h2⟩⟩
theorem initE_get (fd : FnDef) (ds : List D) (i : Nat) : (initE fd ds).getD i .no = match ds[i]? with
    | some x => if fd.io.contains i then .io x else .im x
    | none => .no := by
  unfold initE
  rw [List.getD_eq_getElem?_getD, List.getElem?_append]
  simp only [List.length_map, List.length_zipIdx]
  split
  · rename_i h
    simp only [List.getElem?_map, List.getElem?_zipIdx]
    rw [List.getElem?_eq_getElem h]
    simp
  · rename_i h
    rw [List.getElem?_eq_none (l := ds) (by omega)]
    simp only [List.getElem?_replicate]
    split <;> rfl
theorem start_get {N : List Str} {vs : List V} {i : Nat} {v : V} (h : vs[i]? = some v) : (L2.start N vs)[i]? = some (some v) := by
  unfold L2.start
  have hl : i < vs.length := by
    by_cases q : i < vs.length
    · exact q
    · rw [List.getElem?_eq_none (by omega)] at h; cases h
  rw [List.getElem?_append_left (by simpa using hl)]
  simp [h]
theorem ro_some {K : PySem.W.Frag} {w : World} {S : Addr → Prop} {H : Hp} {a : Addr} {d : D} (h : Ro K w S H a d) : H a ≠ none := by
  cases h with
  | lst q => rw [q]; simp
  | dic q => rw [q]; simp
theorem nodup_get {α : Type} {l : List α} (h : l.Nodup) {i j : Nat} {a : α} (h1 : l[i]? = some a) (h2 : l[j]? = some a) : i = j := by
  have l1 : i < l.length := by
    by_cases q : i < l.length
    · exact q
    · rw [List.getElem?_eq_none (by omega)] at h1; cases h1
  exact (List.getElem?_inj l1 h).mp (h1.trans h2.symm)
section
variable {P : Program} {w : World} {K : PySem.W.Frag} {C : Ecls} {S : Addr → Prop} {H : Hp} {N : List Str} {vs : List V} {ds : List D} {as : List Addr} {fd : FnDef}
theorem rl_start (ha : ArgsOk K w S H fd.io as vs ds) (hl : ds.length = fd.np) (hn : fd.np ≤ fd.n) (hN : fd.n = N.length) : Rl ⟨K, w, H, S, fd.io.zip as⟩ S (initE fd ds) (L2.start N vs) H where
  len := by
    unfold initE L2.start
    have := ha.len
    simp; omega
  im := fun i d h => by
    rw [initE_get] at h
    cases q : ds[i]? with
    | none => rw [q] at h; cases h
    | some x =>
      rw [q] at h; dsimp only at h
      split at h
      · cases h
      · cases h
        rename_i hc
        obtain ⟨v, h1, h2⟩ := ha.im i _ q (by simpa using hc)
        exact ⟨v, start_get h1, h2⟩
  ow := fun i d h => by
    rw [initE_get] at h
    cases q : ds[i]? with
    | none => rw [q] at h; cases h
    | some x =>
      rw [q] at h; dsimp only at h
      split at h <;> cases h
  io := fun i d h => by
    rw [initE_get] at h
    cases q : ds[i]? with
    | none => rw [q] at h; cases h
    | some x =>
      rw [q] at h; dsimp only at h
      split at h
      · cases h
        rename_i hc
        obtain ⟨n, hn⟩ := List.mem_iff_getElem?.mp (by simpa using hc : i ∈ fd.io)
        obtain ⟨a, d', h1, h2, h3, h4, h5⟩ := ha.io n i hn
        rw [q] at h3; cases h3
        exact ⟨a, start_get h2, h4, mem_zip hn h1, h5⟩
      · cases h
  dis := fun i j a hi hj h1 h2 => by
    have key : ∀ i, Own (initE fd ds) i → (L2.start N vs)[i]? = some (some (.ref a)) → ∃ n : Nat, fd.io[n]? = some i ∧ as[n]? = some a := fun i ⟨d, hd⟩ h1 => by
      rw [initE_get] at hd
      cases q : ds[i]? with
      | none => rw [q] at hd; rcases hd with hd | hd <;> cases hd
      | some x =>
        rw [q] at hd; dsimp only at hd
        split at hd
        · rename_i hc
          obtain ⟨n, hn⟩ := List.mem_iff_getElem?.mp (by simpa using hc : i ∈ fd.io)
          obtain ⟨b, d', g1, g2, _, _, _⟩ := ha.io n i hn
          have := start_get (N := N) g2
          rw [h1] at this
          cases this
          exact ⟨n, hn, g1⟩
        · rcases hd with hd | hd <;> cases hd
    obtain ⟨n, a1, a2⟩ := key i hi h1
    obtain ⟨m, b1, b2⟩ := key j hj h2
    obtain rfl := nodup_get ha.nd a2 b2
    rw [a1] at b1; cases b1; rfl
  fr := fun a o h _ => h
  s0 := fun a h => h
  s1 := fun a h _ => h
  sn := ha.sn
  ion := fun i a h => by
    obtain ⟨n, h1, h2⟩ := zip_mem h
    obtain ⟨b, d', g1, g2, _, g4, g5⟩ := ha.io n i h1
    rw [h2] at g1; cases g1
    exact ⟨ro_some g5, g4⟩
  io0 := fun i a h => by
    obtain ⟨n, h1, h2⟩ := zip_mem h
    obtain ⟨b, d', g1, g2, _, g4, g5⟩ := ha.io n i h1
    rw [h2] at g1; cases g1
    exact ro_some g5
theorem post_of {S' : Addr → Prop} {H' : Hp} {e' : VEnv} {σ' : L2.St} {os : List D} (ha : ArgsOk K w S H fd.io as vs ds) (R : Rl ⟨K, w, H, S, fd.io.zip as⟩ S' e' σ' H') (ho : outsE fd e' = some os) : CallPost K w S H as S' H' os := by
  have nio : ∀ a, a ∉ as → ∀ i, (i, a) ∉ fd.io.zip as := fun a h i q => h (List.of_mem_zip q).2
  obtain ⟨l1, g1⟩ := mapM_get ho
  have sio : ∀ a, S a → a ∉ as := fun a hS h => by
    obtain ⟨n, hn⟩ := List.mem_iff_getElem?.mp h
    have : n < fd.io.length := by
      rw [← ha.al]
      by_cases q : n < as.length
      · exact q
      · rw [List.getElem?_eq_none (by omega)] at hn; cases hn
    obtain ⟨b, d', g1, g2, _, g4, g5⟩ := ha.io n _ (List.getElem?_eq_getElem this)
    rw [hn] at g1; cases g1
    exact g4 hS
  refine ⟨fun a h => ⟨R.s0 a h, ?_⟩, fun a o h hn => R.fr a o h (nio a hn), fun a h h2 => R.s1 a h2 h, fun a h => ?_, R.sn, by rw [l1, ha.al], fun n a d h1 h2 => ?_⟩
  · cases q : H a with
    | none => exact absurd q (ha.sn a h)
    | some o => exact R.fr a o q (nio a (sio a h))
  · by_cases q : a ∈ as
    · obtain ⟨n, hn⟩ := List.mem_iff_getElem?.mp q
      have : n < fd.io.length := by
        rw [← ha.al]
        by_cases q : n < as.length
        · exact q
        · rw [List.getElem?_eq_none (by omega)] at hn; cases hn
      exact (R.ion _ a (mem_zip (List.getElem?_eq_getElem this) hn)).1
    · obtain ⟨o, ho⟩ := Option.ne_none_iff_exists'.mp h
      rw [R.fr a o ho (nio a q)]; simp
  · have : n < fd.io.length := by
      rw [← ha.al]
      by_cases q : n < as.length
      · exact q
      · rw [List.getElem?_eq_none (by omega)] at h1; cases h1
    obtain ⟨b, e1, e2⟩ := g1 n _ (List.getElem?_eq_getElem this)
    rw [h2] at e1; cases e1
    split at e2
    · rename_i d' q
      cases e2
      obtain ⟨a', _, n1, m1, r1⟩ := R.io _ _ q
      obtain ⟨m, m2, m3⟩ := zip_mem m1
      obtain ⟨b, d2, k1, k2, _, _, _⟩ := ha.io m _ m2
      obtain ⟨b', d2', k1', k2', _, _, _⟩ := ha.io n _ (List.getElem?_eq_getElem this)
      rw [k2] at k2'; cases k2'
      rw [m3] at k1; cases k1
      rw [h1] at k1'; cases k1'
      exact ⟨n1, r1⟩
    · cases e2
end
/-- THE RULE of a def -/
theorem fn_okE {P : Program} {w : World} {K : PySem.W.Frag} {mg : Str → Option Value} {base : Heap} {x qual : Str} {params : Arguments} {body : List Stmt} {scope : Scope} {dvs : List V} {kws : List (Str × V)} {f : Addr} {fd : FuncData} {N ps : List Str} {k i : Nat} {C : Ecls}
    {T : Nat → Option FnDef} {d : FnDef} (F : FunD K x qual params body scope dvs kws f fd) (Sc : FnScope N ps scope) (hT : T i = some d) (hnp : d.np = ps.length) (hn : d.n = N.length)
    (hb : ∀ (cdv : Value) (A0 : Around) (outer : List Env) (s : Shared) (H : Hp) (E : XK) (A : Am), Room k (A0.deeper (envOfC qual scope s.heap.objs.size f cdv)) → A.K = K → A.w = w →
      PSs (cxOf (L2.CX P w) P w K mg base N qual scope f cdv A0 outer s H E) body (tS A C (fun cls dd _ H' => E cls dd H') (evSs (run T k) d.body))) :
    FnOk P w K mg base (L2.CX P w) (k + 1) f fd ps (spF K w C (run T (k + 1)) i d.io d.np) := by
  refine F.ok Sc (fun vs H Q E h => h.1.trans hnp) fun cdv A0 outer s H vs Q E hr ⟨hl, S, ds, as, ha, hm⟩ => ?_
  refine ⟨_, hb cdv A0 outer s H E ⟨K, w, H, S, d.io.zip as⟩ hr rfl rfl, S, initE d ds, ?_, ?_⟩
  · by_cases hle : ds.length = d.np ∧ d.np ≤ d.n
    · exact rl_start ha hle.1 hle.2 hn
    · simp only [run, hT] at hm
      rw [if_neg (fun z => hle ⟨z.2.1, z.2.2⟩)] at hm
      exact hm.elim
  · simp only [run, hT] at hm
    by_cases hle : True ∧ ds.length = d.np ∧ d.np ≤ d.n
    · rw [if_pos hle] at hm
      unfold ResF
      cases q : evSs (run T k) d.body (initE d ds) with
      | bad => rw [q] at hm; exact hm.elim
      | exc c e' =>
        rw [q] at hm
        intro S' σ' H' dd R' k'
        simp only [fin] at hm
        cases qo : outsE d e' with
        | none => rw [qo] at hm; exact hm.elim
        | some os =>
          rw [qo] at hm
          exact hm S' H' dd (post_of ha R' qo)
      | ok fl e' =>
        rw [q] at hm
        intro S' σ' H' R' k'
        cases fl with
        | brk => exact hm.elim
        | cont => exact hm.elim
        | nx =>
          simp only [fin] at hm
          cases qo : outsE d e' with
          | none => rw [qo] at hm; exact hm.elim
          | some os =>
            rw [qo] at hm
            exact hm .non S' H' (post_of ha R' qo) (by simp; exact .non)
        | ret dd fr =>
          simp only [fin] at hm
          cases qo : outsE d e' with
          | none => rw [qo] at hm; exact hm.elim
          | some os =>
            rw [qo] at hm
            cases fr with
            | false => exact fun v hv => hm v S' H' (post_of ha R' qo) (by simpa using hv)
            | true => exact fun a n1 n2 r => hm (.ref a) S' H' (post_of ha R' qo) (by simp; exact ⟨n1, n2, r⟩)
    · rw [if_neg hle] at hm
      exact hm.elim
/-- at depth 0 nothing is promised -/
theorem fn_ok0 {P : Program} {w : World} {K : PySem.W.Frag} {mg : Str → Option Value} {base : Heap} {f : Addr} {fd : FuncData} {ps : List Str} {i : Nat} {C : Ecls} {T : Nat → Option FnDef} {pos : List Nat} {np : Nat} {CX : CXT} :
    FnOk P w K mg base CX 0 f fd ps (spF K w C (run T 0) i pos np) := by
  refine ⟨fun vs H Q E h => ?_, fun A outer s H args us vs Q E hr he hb hv h => ?_⟩
  · obtain ⟨_, S, ds, as, _, h⟩ := h; exact h.elim
  · obtain ⟨_, S, ds, as, _, h⟩ := h; exact h.elim

/-! ### at the caller -/
/-- written arguments: os the slots of the inout ones -/
inductive Avs (A : Am) (S : Addr → Prop) (σ : L2.St) (H : Hp) : List V → List (Option Nat) → List D → Prop
  | nil : Avs A S σ H [] [] []
  | im {v : V} {vs : List V} {os : List (Option Nat)} {d : D} {ds : List D} : Rv A.K A.w S H v d → Avs A S σ H vs os ds → Avs A S σ H (v :: vs) (none :: os) (d :: ds)
  | io {v : V} {vs : List V} {os : List (Option Nat)} {i : Nat} {d : D} {ds : List D} : σ[i]? = some (some v) → Avs A S σ H vs os ds → Avs A S σ H (v :: vs) (some i :: os) (d :: ds)
def tAs (A : Am) (C : Ecls) (W : WX) (os : List (Option Nat)) (x : M (List D)) : TA := fun σ H Q => ∃ S e, Rl A S e σ H ∧ Res A C W σ S H e (x e) fun ds e' S' H' => ∀ vs, Avs A S' σ H' vs os ds → Q vs H'
theorem Avs.len {A : Am} {S : Addr → Prop} {σ : L2.St} {H : Hp} {vs : List V} {os : List (Option Nat)} {ds : List D} (h : Avs A S σ H vs os ds) : vs.length = ds.length ∧ os.length = ds.length := by
  induction h with
  | nil => exact ⟨rfl, rfl⟩
  | im _ _ ih => exact ⟨by simp [ih.1], by simp [ih.2]⟩
  | io _ _ ih => exact ⟨by simp [ih.1], by simp [ih.2]⟩
theorem Avs.get {A : Am} {S : Addr → Prop} {σ : L2.St} {H : Hp} {vs : List V} {os : List (Option Nat)} {ds : List D} (h : Avs A S σ H vs os ds) : ∀ {j : Nat} {d : D}, ds[j]? = some d → ∃ v o, vs[j]? = some v ∧ os[j]? = some o ∧ match o with
    | none => Rv A.K A.w S H v d
    | some i => σ[i]? = some (some v) := by
  induction h with
  | nil => intro j d h; simp at h
  | im h1 h2 ih =>
    intro j d h
    cases j with
    | zero => simp at h; subst h; exact ⟨_, _, rfl, rfl, h1⟩
    | succ j => simpa using ih (by simpa using h)
  | io h1 h2 ih =>
    intro j d h
    cases j with
    | zero => exact ⟨_, _, rfl, rfl, h1⟩
    | succ j => simpa using ih (by simpa using h)
theorem Avs.mono {A : Am} {S S' : Addr → Prop} {σ : L2.St} {H H' : Hp} {vs : List V} {os : List (Option Nat)} {ds : List D} (k : Kp S H S' H') (h : Avs A S σ H vs os ds) : Avs A S' σ H' vs os ds := by
  induction h with
  | nil => exact .nil
  | im h1 h2 ih => exact .im (h1.mono k) ih
  | io h1 h2 ih => exact .io h1 ih
theorem ownAt_own {e : VEnv} {i : Nat} {d : D} (h : ownAt e i = some d) : e.getD i .no = .ow d ∨ e.getD i .no = .io d := by
  unfold ownAt at h
  split at h
  · rename_i q; cases h; exact .inl q
  · rename_i q; cases h; exact .inr q
  · cases h
theorem putOuts_get : ∀ {is : List Nat} {outs : List D} {e e2 : VEnv} {u : Unit}, putOuts is outs e = .ok u e2 → is.Nodup → e2.length = e.length ∧ outs.length = is.length ∧ (∀ s, s ∉ is → e2.getD s .no = e.getD s .no) ∧
    (∀ (n s : Nat) (x : D), is[n]? = some s → outs[n]? = some x → (∃ d, e.getD s .no = .ow d ∧ e2.getD s .no = .ow x) ∨ (∃ d, e.getD s .no = .io d ∧ e2.getD s .no = .io x))
  | [], [], e, e2, u, h, _ => by
    simp [putOuts, ret] at h; subst h
    exact ⟨rfl, rfl, fun _ _ => rfl, fun n s x h => by simp at h⟩
  | [], _ :: _, _, _, _, h, _ => by simp [putOuts, bad] at h
  | _ :: _, [], _, _, _, h, _ => by simp [putOuts, bad] at h
  | i :: is, d :: outs, e, e2, u, h, nd => by
    have ndi : i ∉ is := (List.nodup_cons.mp nd).1
    have key : ∀ s : Slot, (e.getD i .no = .ow d → True) → ∀ (e1 : VEnv), e1 = e.set i s → i < e.length → putOuts is outs e1 = .ok u e2 → (∀ d', s ≠ .ow d' → True) → e2.length = e.length ∧ (d :: outs).length = (i :: is).length ∧ (∀ t, t ∉ i :: is → e2.getD t .no = e.getD t .no) ∧ e2.getD i .no = s ∧
        (∀ (n t : Nat) (x : D), is[n]? = some t → outs[n]? = some x → (∃ d, e.getD t .no = .ow d ∧ e2.getD t .no = .ow x) ∨ (∃ d, e.getD t .no = .io d ∧ e2.getD t .no = .io x)) := by
      intro s _ e1 he1 hi hp _
      subst he1
      obtain ⟨a1, a2, a3, a4⟩ := putOuts_get hp (List.nodup_cons.mp nd).2
      have gs : ∀ t, t ≠ i → (e.set i s).getD t .no = e.getD t .no := fun t ht => by
        simp only [List.getD_eq_getElem?_getD]
        rw [List.getElem?_set_ne (Ne.symm ht)]
      refine ⟨by simpa using a1, by simp [a2], fun t ht => ?_, ?_, fun n t x h1 h2 => ?_⟩
      · rw [a3 t (fun z => ht (List.mem_cons_of_mem _ z)), gs t (fun z => ht (z ▸ List.mem_cons_self))]
      · rw [a3 i ndi, List.getD_eq_getElem?_getD, List.getElem?_set_self hi]; rfl
      · have ht : t ≠ i := fun z => ndi (z ▸ List.mem_iff_getElem?.mpr ⟨n, h1⟩)
        have := a4 n t x h1 h2
        rwa [gs t ht] at this
    have lt : ∀ s : Slot, s ≠ .no → e.getD i .no = s → i < e.length := fun s hs h => by
      by_cases q : i < e.length
      · exact q
      · rw [List.getD_eq_getElem?_getD, List.getElem?_eq_none (by omega)] at h
        exact absurd h.symm hs
    unfold putOuts at h
    split at h
    · rename_i d0 q
      obtain ⟨b1, b2, b3, b4, b5⟩ := key (.ow d) (fun _ => trivial) _ rfl (lt _ (by simp) q) h (fun _ _ => trivial)
      refine ⟨b1, b2, b3, fun n s x h1 h2 => ?_⟩
      cases n with
      | zero => simp at h1 h2; subst h1; subst h2; exact .inl ⟨d0, q, b4⟩
      | succ n => exact b5 n s x (by simpa using h1) (by simpa using h2)
    · rename_i d0 q
      obtain ⟨b1, b2, b3, b4, b5⟩ := key (.io d) (fun _ => trivial) _ rfl (lt _ (by simp) q) h (fun _ _ => trivial)
      refine ⟨b1, b2, b3, fun n s x h1 h2 => ?_⟩
      cases n with
      | zero => simp at h1 h2; subst h1; subst h2; exact .inr ⟨d0, q, b4⟩
      | succ n => exact b5 n s x (by simpa using h1) (by simpa using h2)
    · cases h
theorem putOuts_nx : ∀ (is : List Nat) (outs : List D) (e : VEnv) (c : Nat) (e2 : VEnv), putOuts is outs e ≠ .exc c e2
  | [], [], e, c, e2 => by simp [putOuts, ret]
  | [], _ :: _, _, _, _ => by simp [putOuts, bad]
  | _ :: _, [], _, _, _ => by simp [putOuts, bad]
  | i :: is, d :: outs, e, c, e2 => by
    unfold putOuts
    split
    · exact putOuts_nx is outs _ c e2
    · exact putOuts_nx is outs _ c e2
    · simp
section
variable {A : Am} {S S' : Addr → Prop} {e e2 : VEnv} {σ : L2.St} {H H' : Hp} {is : List Nat} {as : List Addr} {outs : List D} {u : Unit}
theorem Rl.own_at (R : Rl A S e σ H) {i : Nat} (h : Own e i) : ∃ a d, σ[i]? = some (some (.ref a)) ∧ ¬ S a ∧ Ro A.K A.w S H a d ∧ (A.H0 a = none ∨ (i, a) ∈ A.io) := by
  obtain ⟨d, h | h⟩ := h
  · obtain ⟨a, h1, h2, h3, h4⟩ := R.ow i d h; exact ⟨a, d, h1, h2, h4, .inl h3⟩
  · obtain ⟨a, h1, h2, h3, h4⟩ := R.io i d h; exact ⟨a, d, h1, h2, h4, .inr h3⟩
theorem rl_call (R : Rl A S e σ H) (P : CallPost A.K A.w S H as S' H' outs) (hp : putOuts is outs e = .ok u e2) (nd : is.Nodup) (ho : ∀ s ∈ is, Own e s) (hl : as.length = is.length) (ha : ∀ (n s : Nat), is[n]? = some s → ∃ a : Addr, as[n]? = some a ∧ σ[s]? = some (some (.ref a))) :
    Rl A S' e2 σ H' ∧ Mn e σ S H e2 S' H' := by
  obtain ⟨p1, p2, p3, p4⟩ := putOuts_get hp nd
  have isat : ∀ s, s ∈ is → ∃ (n : Nat) (x : D) (a : Addr), is[n]? = some s ∧ outs[n]? = some x ∧ as[n]? = some a ∧ σ[s]? = some (some (.ref a)) := fun s hs => by
    obtain ⟨n, hn⟩ := List.mem_iff_getElem?.mp hs
    have : n < outs.length := by
      rw [p2]
      by_cases q : n < is.length
      · exact q
      · rw [List.getElem?_eq_none (by omega)] at hn; cases hn
    obtain ⟨a, h1, h2⟩ := ha n s hn
    exact ⟨n, outs[n], a, hn, List.getElem?_eq_getElem this, h1, h2⟩
  have asat : ∀ a, a ∈ as → ∃ s, s ∈ is ∧ σ[s]? = some (some (.ref a)) := fun a h => by
    obtain ⟨n, hn⟩ := List.mem_iff_getElem?.mp h
    have : n < is.length := by
      rw [← hl]
      by_cases q : n < as.length
      · exact q
      · rw [List.getElem?_eq_none (by omega)] at hn; cases hn
    obtain ⟨b, h1, h2⟩ := ha n _ (List.getElem?_eq_getElem this)
    rw [hn] at h1; cases h1
    exact ⟨_, List.getElem_mem this, h2⟩
  have own : ∀ i, Own e2 i → Own e i := fun i ⟨d, h⟩ => by
    by_cases q : i ∈ is
    · exact ho i q
    · rw [p3 i q] at h; exact ⟨d, h⟩
  have asw : ∀ a, a ∈ as → Wd e σ a := fun a h => by
    obtain ⟨s, hs, h2⟩ := asat a h
    exact ⟨s, ho s hs, h2⟩
  have keepO : ∀ i a, i ∉ is → Own e i → σ[i]? = some (some (.ref a)) → a ∉ as := fun i a hi hw h1 h2 => by
    obtain ⟨s, hs, h3⟩ := asat a h2
    exact hi (R.dis i s a hw (ho s hs) h1 h3 ▸ hs)
  refine ⟨?_, ⟨fun a o h hn => P.fr a o h fun z => hn (asw a z), fun a h => (P.kp a h).1, fun a h h2 => .inl (P.dn a h h2), own, P.st, p1⟩⟩
  refine ⟨by rw [p1]; exact R.len, fun i d h => ?_, fun i d h => ?_, fun i d h => ?_, fun i j a hi hj => R.dis i j a (own i hi) (own j hj), fun a o h hn => ?_, fun a h => (P.kp a (R.s0 a h)).1, fun a h h0 => R.s1 a (P.dn a (fun z => h0 (R.h0 z)) h) h0, P.sn,
    fun i a h => ⟨P.st a (R.ion i a h).1, fun z => (R.ion i a h).2 (P.dn a (R.ion i a h).1 z)⟩, R.io0⟩
  · by_cases q : i ∈ is
    · obtain ⟨n, x, a, h1, h2, _, _⟩ := isat i q
      rcases p4 n i x h1 h2 with ⟨_, _, z⟩ | ⟨_, _, z⟩ <;> (rw [h] at z; cases z)
    · rw [p3 i q] at h
      obtain ⟨v, h1, h2⟩ := R.im i d h
      exact ⟨v, h1, h2.mono P.kp⟩
  · by_cases q : i ∈ is
    · obtain ⟨n, x, a, h1, h2, h3, h4⟩ := isat i q
      rcases p4 n i x h1 h2 with ⟨d0, y, z⟩ | ⟨_, _, z⟩
      · rw [h] at z; cases z
        obtain ⟨b, g1, g2, g3, g4⟩ := R.ow i d0 y
        rw [h4] at g1; cases g1
        exact ⟨a, h4, (P.out n a _ h3 h2).1, g3, (P.out n a _ h3 h2).2⟩
      · rw [h] at z; cases z
    · rw [p3 i q] at h
      obtain ⟨a, h1, h2, h3, h4⟩ := R.ow i d h
      have hn := ro_some h4
      obtain ⟨o, ho'⟩ := Option.ne_none_iff_exists'.mp hn
      exact ⟨a, h1, fun z => h2 (P.dn a hn z), h3, h4.mono P.kp (by rw [ho']; exact P.fr a o ho' (keepO i a q ⟨d, .inl h⟩ h1))⟩
  · by_cases q : i ∈ is
    · obtain ⟨n, x, a, h1, h2, h3, h4⟩ := isat i q
      rcases p4 n i x h1 h2 with ⟨_, _, z⟩ | ⟨d0, y, z⟩
      · rw [h] at z; cases z
      · rw [h] at z; cases z
        obtain ⟨b, g1, g2, g3, g4⟩ := R.io i d0 y
        rw [h4] at g1; cases g1
        exact ⟨a, h4, (P.out n a _ h3 h2).1, g3, (P.out n a _ h3 h2).2⟩
    · rw [p3 i q] at h
      obtain ⟨a, h1, h2, h3, h4⟩ := R.io i d h
      have hn := ro_some h4
      obtain ⟨o, ho'⟩ := Option.ne_none_iff_exists'.mp hn
      exact ⟨a, h1, fun z => h2 (P.dn a hn z), h3, h4.mono P.kp (by rw [ho']; exact P.fr a o ho' (keepO i a q ⟨d, .inr h⟩ h1))⟩
  · refine P.fr a o (R.fr a o h hn) fun z => ?_
    obtain ⟨s, hs, h2⟩ := asat a z
    obtain ⟨b, d, g1, _, _, g4⟩ := R.own_at (ho s hs)
    rw [h2] at g1; cases g1
    rcases g4 with g4 | g4
    · rw [h] at g4; cases g4
    · exact hn _ g4
end

/-- THE RULE of a call -/
theorem fillA_get {ios : List Nat} {os ds : List D} {j : Nat} : (fillA ios os ds)[j]? = ds[j]?.map fun d => ((ios.zip os).lookup j).getD d := by
  unfold fillA
  rw [List.getElem?_map, List.getElem?_zipIdx]
  cases ds[j]? <;> simp
theorem lookup_out {j : Nat} : ∀ {ios : List Nat} {os : List D}, j ∉ ios → (ios.zip os).lookup j = none
  | [], os, _ => by simp
  | _ :: _, [], _ => by simp
  | i :: ios, o :: os, h => by
    have h1 : j ≠ i := fun z => h (z ▸ List.mem_cons_self)
    have h2 : j ∉ ios := fun z => h (List.mem_cons_of_mem _ z)
    simp only [List.zip_cons_cons, List.lookup_cons]
    rw [show (j == i) = false from by simpa using h1]
    exact lookup_out h2
theorem lookup_at {j : Nat} : ∀ {ios : List Nat} {os : List D} {n : Nat}, ios.Nodup → ios[n]? = some j → n < os.length → (ios.zip os).lookup j = os[n]?
  | [], os, n, _, h, _ => by simp at h
  | _ :: _, [], n, _, _, h => by simp at h
  | i :: ios, o :: os, n, nd, h, hl => by
    simp only [List.zip_cons_cons, List.lookup_cons]
    cases n with
    | zero => simp at h; subst h; simp
    | succ n =>
      have h : ios[n]? = some j := by simpa using h
      have h1 : j ≠ i := fun z => (List.nodup_cons.mp nd).1 (z ▸ List.mem_iff_getElem?.mpr ⟨n, h⟩)
      rw [show (j == i) = false from by simpa using h1]
      simpa using lookup_at (List.nodup_cons.mp nd).2 h (by simpa using hl)
theorem ownAt_ro {A : Am} {S : Addr → Prop} {e : VEnv} {σ : L2.St} {H : Hp} {i : Nat} {d : D} (R : Rl A S e σ H) (h : ownAt e i = some d) : ∃ a, σ[i]? = some (some (.ref a)) ∧ ¬ S a ∧ Ro A.K A.w S H a d := by
  rcases ownAt_own h with h | h
  · obtain ⟨a, h1, h2, h3, h4⟩ := R.ow i d h; exact ⟨a, h1, h2, h4⟩
  · obtain ⟨a, h1, h2, h3, h4⟩ := R.io i d h; exact ⟨a, h1, h2, h4⟩
/-- the addresses of the slots -/
def adrs (σ : L2.St) (is : List Nat) : List Addr := is.map fun i => match (σ[i]? : Option (Option V)) with
  | some (some (V.ref a)) => a
  | _ => 0
theorem adrs_get {σ : L2.St} {is : List Nat} {n s : Nat} {a : Addr} (h : is[n]? = some s) (h2 : σ[s]? = some (some (.ref a))) : (adrs σ is)[n]? = some a := by
  unfold adrs
  rw [List.getElem?_map, h]
  simp [h2]
theorem res_call {A : Am} {C : Ecls} {W : WX} {S : Addr → Prop} {e : VEnv} {σ : L2.St} {H : Hp} {c : CallF} {f np : Nat} {ios is : List Nat} {os : List (Option Nat)} {ds dfl : List D} {vs dvs : List V} {P : R → VEnv → (Addr → Prop) → Hp → Prop} {Q : VK}
    (R : Rl A S e σ H) (hv : Avs A S σ H vs os ds) (hd : Rvs A.K A.w S H dvs dfl) (h1 : ∀ (n j s : Nat), ios[n]? = some j → is[n]? = some s → os[j]? = some (some s)) (h2 : ∀ (j : Nat) (o : Option Nat), os[j]? = some o → j ∉ ios → o = none) (hli : ios.length = is.length)
    (hnp : (vs ++ dvs).length = np)
    (h : Res A C W σ S H e ((fun e => if decide is.Nodup && decide ios.Nodup && ios.all (fun p => decide (p < (ds ++ dfl).length)) then (match is.mapM (ownAt e) with
      | some os => doCall c f ios is (fillA ios os (ds ++ dfl)) e
      | none => O.bad) else .bad) e) P)
    (hP : ∀ r e' S' H', P r e' S' H' → ∀ v, Rr A S' e' σ H' v r → Nw H v r → Q v H') :
    spF A.K A.w C c f ios np (vs ++ dvs) H Q (fun cls dd H' => W cls dd σ H') := by
  refine ⟨hnp, S, ?_⟩
  dsimp only at h
  split at h
  · rename_i hc
    simp only [Bool.and_eq_true, decide_eq_true_eq, List.all_eq_true] at hc
    obtain ⟨⟨nd1, nd2⟩, hlt⟩ := hc
    cases qm : is.mapM (ownAt e) with
    | none => rw [qm] at h; exact h.elim
    | some ows =>
      rw [qm] at h
      obtain ⟨ml, mg⟩ := mapM_get qm
      have own : ∀ (n s : Nat), is[n]? = some s → ∃ (a : Addr) (d : D), ows[n]? = some d ∧ ownAt e s = some d ∧ σ[s]? = some (some (.ref a)) ∧ ¬ S a ∧ Ro A.K A.w S H a d := fun n s hn => by
        obtain ⟨d, g1, g2⟩ := mg n s hn
        obtain ⟨a, g3, g4, g5⟩ := ownAt_ro R g2
        exact ⟨a, d, g1, g2, g3, g4, g5⟩
      have nlt : ∀ {n j : Nat}, ios[n]? = some j → n < is.length := fun {n j} hn => by
        rw [← hli]
        by_cases q : n < ios.length
        · exact q
        · rw [List.getElem?_eq_none (by omega)] at hn; cases hn
      have hoi : ∀ s ∈ is, Own e s := fun s hs => by
        obtain ⟨n, hn⟩ := List.mem_iff_getElem?.mp hs
        obtain ⟨a, d, _, g2, _⟩ := own n s hn
        exact ⟨d, ownAt_own g2⟩
      have had : ∀ (n s : Nat), is[n]? = some s → ∃ a : Addr, (adrs σ is)[n]? = some a ∧ σ[s]? = some (some (.ref a)) := fun n s hn => by
        obtain ⟨a, d, _, g2, g3, _⟩ := own n s hn
        exact ⟨a, adrs_get hn g3, g3⟩
      have hal : (adrs σ is).length = is.length := by simp [adrs]
      have hlen : (vs ++ dvs).length = (fillA ios ows (ds ++ dfl)).length := by
        have := hv.len; have := hd.length
        simp [fillA]; omega
      have ok : ArgsOk A.K A.w S H ios (adrs σ is) (vs ++ dvs) (fillA ios ows (ds ++ dfl)) := by
        refine ⟨hlen, hal.trans hli.symm, ?_, fun j d hj hn => ?_, fun n j hn => ?_, R.sn⟩
        · refine List.pairwise_iff_getElem.mpr fun i j hi hj hij z => ?_
          have z : (adrs σ is)[i]? = (adrs σ is)[j]? := by rw [List.getElem?_eq_getElem hi, List.getElem?_eq_getElem hj, z]
          rw [hal] at hi hj
          obtain ⟨a, g1, g2⟩ := had i _ (List.getElem?_eq_getElem hi)
          obtain ⟨b, k1, k2⟩ := had j _ (List.getElem?_eq_getElem hj)
          rw [g1, k1] at z; cases z
          have := R.dis _ _ a (hoi _ (List.getElem_mem (by omega))) (hoi _ (List.getElem_mem hj)) g2 k2
          have := (List.getElem_inj nd1).mp this
          omega
        · rw [fillA_get, lookup_out hn] at hj
          simp only [Option.getD_none, Option.map_id'] at hj
          by_cases q : j < ds.length
          · rw [List.getElem?_append_left q] at hj
            obtain ⟨v, o, g1, g2, g3⟩ := hv.get hj
            cases h2 j o g2 hn
            exact ⟨v, by rw [List.getElem?_append_left (by have := hv.len; omega)]; exact g1, g3⟩
          · rw [List.getElem?_append_right (by omega)] at hj
            obtain ⟨v, g1, g2⟩ := hd.get hj
            exact ⟨v, by rw [List.getElem?_append_right (by have := hv.len; omega), hv.len.1]; exact g1, g2⟩
        · have hl := nlt hn
          obtain ⟨a, d, g1, g2, g3, g4, g5⟩ := own n _ (List.getElem?_eq_getElem hl)
          have hos := h1 n j _ hn (List.getElem?_eq_getElem hl)
          have jl : j < ds.length := by
            rw [← hv.len.2]
            by_cases q : j < os.length
            · exact q
            · rw [List.getElem?_eq_none (by omega)] at hos; cases hos
          obtain ⟨v, o, k1, k2, k3⟩ := hv.get (List.getElem?_eq_getElem jl)
          rw [hos] at k2; cases k2
          have k3 : σ[is[n]]? = some (some v) := k3
          rw [g3] at k3; cases k3
          refine ⟨a, d, adrs_get (List.getElem?_eq_getElem hl) g3, by rw [List.getElem?_append_left (by have := hv.len; omega)]; exact k1, ?_, g4, g5⟩
          rw [fillA_get, lookup_at nd2 hn (by omega), g1, List.getElem?_append_left jl, List.getElem?_eq_getElem jl]
          rfl
      refine ⟨_, _, ok, ?_⟩
      have h : Res A C W σ S H e (doCall c f ios is (fillA ios ows (ds ++ dfl)) e) P := h
      unfold doCall at h
      cases qc : c f ios (fillA ios ows (ds ++ dfl)) with
      | bad => rw [qc] at h; exact h.elim
      | exc x outs =>
        rw [qc] at h
        dsimp only at h ⊢
        intro S' H' dd cp
        cases qp : putOuts is outs e with
        | bad => rw [qp] at h; exact h.elim
        | exc c e2 => exact absurd qp (putOuts_nx _ _ _ _ _)
        | ok u e2 =>
          rw [qp] at h
          obtain ⟨R2, M2⟩ := rl_call R cp qp nd1 hoi hal had
          exact h S' H' dd R2 M2
      | ok d fr outs =>
        rw [qc] at h
        dsimp only at h ⊢
        intro v S' H' cp hr
        cases qp : putOuts is outs e with
        | bad => rw [qp] at h; exact h.elim
        | exc c e2 => exact absurd qp (putOuts_nx _ _ _ _ _)
        | ok u e2 =>
          rw [qp] at h
          obtain ⟨R2, M2⟩ := rl_call R cp qp nd1 hoi hal had
          refine hP _ _ _ _ (h S' H' R2 M2) v ?_ ?_
          · cases fr with
            | false => exact .val (by simpa using hr)
            | true =>
              obtain ⟨a, rfl, n1, n2, ro⟩ := (by simpa using hr : ∃ a, v = V.ref a ∧ ¬ S' a ∧ H a = none ∧ Ro A.K A.w S' H' a d)
              refine .fresh n1 (R.h0 n2) (fun ⟨i, hi, hs⟩ => ?_) ro
              obtain ⟨b, d2, k1, _, k3, _⟩ := R.own_at (M2.own i hi)
              rw [hs] at k1; cases k1
              exact ro_some k3 n2
          · intro d' a hq hva
            cases fr with
            | false => simp at hq
            | true =>
              obtain ⟨b, hb, n1, n2, ro⟩ := (by simpa using hr : ∃ a, v = V.ref a ∧ ¬ S' a ∧ H a = none ∧ Ro A.K A.w S' H' a d)
              rw [hb] at hva; cases hva
              exact n2
  · exact h.elim
end Ev
/-! text EvW -/
set_option Elab.async false
set_option linter.all false
set_option maxRecDepth 100000
/-! Ev: call expressions. -/
namespace Ev
open PySem PySem.Spec PyProof.Rows L2
section
variable {X : Cx} {A : Am} {C : Ecls} {W : WX} {a : Expr} {es : List Expr}
theorem pa_nilA : PA X [] (tAs A C W [] (ret [])) := by
  refine PA.imp pa_nil ?_
  rintro σ H Q ⟨S, e, R, h⟩
  exact h S H R .refl [] .nil
theorem aAs_im {xv : M D} {xs : M (List D)} {os : List (Option Nat)} : ∀ σ H Q, tAs A C W (none :: os) (consV xv xs) σ H Q → tCons (tV A C W xv) (tAs A C W os xs) σ H Q := by
  rintro σ H Q ⟨S, e, R, h⟩
  refine ⟨S, e, R, h.bnd.imp fun d e1 S1 H1 R1 M1 ⟨_, h1⟩ v q1 => ⟨S1, e1, R1, h1.bnd.imp fun ds e2 S2 H2 R2 M2 ⟨_, h2⟩ vs q2 => ?_⟩⟩
  exact h2 S2 H2 R2 .refl _ (.im (q1.mono (M2.kp R1)) q2)
theorem aAs_io {i : Nat} {xs : M (List D)} {os : List (Option Nat)} : ∀ σ H Q, tAs A C W (some i :: os) (consV (chkO (some i)) xs) σ H Q → tCons (tVar i) (tAs A C W os xs) σ H Q := by
  rintro σ H Q ⟨S, e, R, h⟩
  have h1 := h.bnd
  unfold chkO at h1
  dsimp only at h1
  cases q : ownAt e i with
  | none => rw [q] at h1; exact h1.elim
  | some d =>
    rw [q] at h1
    obtain ⟨b, g1, _⟩ := ownAt_ro R q
    refine ⟨.ref b, g1, S, e, R, (h1 S H R .refl).2.bnd.imp fun ds e2 S2 H2 R2 M2 ⟨_, h2⟩ vs q2 => ?_⟩
    exact h2 S2 H2 R2 .refl _ (.io g1 q2)
theorem pa_consIm {xv : M D} {xs : M (List D)} {os : List (Option Nat)} (ha : PE X a (tV A C W xv)) (hr : PA X es (tAs A C W os xs)) (hs : starEach (a :: es) X.env = (false, eval a X.env) :: starEach es X.env) :
    PA X (a :: es) (tAs A C W (none :: os) (consV xv xs)) := PA.imp (pa_cons ha hr hs) aAs_im
theorem pa_consIo {i : Nat} {xs : M (List D)} {os : List (Option Nat)} (ha : PE X a (tVar i)) (hr : PA X es (tAs A C W os xs)) (hs : starEach (a :: es) X.env = (false, eval a X.env) :: starEach es X.env) :
    PA X (a :: es) (tAs A C W (some i :: os) (consV (chkO (some i)) xs)) := PA.imp (pa_cons ha hr hs) aAs_io
theorem PK.imp {kws : List Keyword} {t t' : TA} (h : PK X kws t) (i : ∀ σ H Q, t' σ H Q → t σ H Q) : PK X kws t' := ⟨fun pos pins s σ H Q I q => h.run pos pins s σ H Q I (i σ H Q q)⟩
theorem pk_nilA : PK X [] (tAs A C W [] (ret [])) := by
  refine PK.imp pk_nil ?_
  rintro σ H Q ⟨S, e, R, h⟩
  exact h S H R .refl [] .nil
variable {nm : Option Str} {kpos : Pos} {kws : List Keyword}
theorem pk_consIm {xv : M D} {xs : M (List D)} {os : List (Option Nat)} (ha : PE X a (tV A C W xv)) (hr : PK X kws (tAs A C W os xs)) : PK X (⟨nm, a, kpos⟩ :: kws) (tAs A C W (none :: os) (consV xv xs)) := PK.imp (pk_cons ha hr) aAs_im
theorem pk_consIo {i : Nat} {xs : M (List D)} {os : List (Option Nat)} (ha : PE X a (tVar i)) (hr : PK X kws (tAs A C W os xs)) : PK X (⟨nm, a, kpos⟩ :: kws) (tAs A C W (some i :: os) (consV (chkO (some i)) xs)) := PK.imp (pk_cons ha hr) aAs_io

/-- what a call finds of a def -/
structure CallOk (P : Program) (w : World) (K : PySem.W.Frag) (mg : Str → Option Value) (base : Heap) (C : Ecls) (k : Nat) (c : CallF) (x : Str) (i : Nat) (ps : List Str) (pos : List Nat) (dfl : List Int) : Prop where
  ex : ∃ (f : Addr) (fd : FuncData), FnOk P w K mg base (L2.CX P w) k f fd ps (spF K w C c i pos ps.length) ∧ mg x = some (.ref f) ∧ PySem.W.keepIn K (.ref f) = true ∧
    (dfl = [] → Binds K fd ps []) ∧ (dfl = [] → ∀ (s : Shared) (ws : List Value), ws.length = ps.length → BindsTo s fd ⟨[], ps.zip ws⟩ (ps.zip ws)) ∧
    (∀ j, 0 < dfl.length → j ≤ dfl.length → ∃ ds, Vals ((dfl.drop j).map V.int) ds ∧ Binds K fd ps ds)
theorem rvs_int {K : PySem.W.Frag} {w : World} {S : Addr → Prop} {H : Hp} : ∀ (l : List Int), Rvs K w S H (l.map V.int) (l.map PyData.int)
  | [] => .nil
  | i :: l => .cons (.int i) (rvs_int l)
/-- from the arguments to the promise -/
theorem call_to {c : CallF} {i np : Nat} {ios is : List Nat} {os : List (Option Nat)} {dfl : List Int} {xs : M (List D)} {t : TA} (ht : ∀ σ H Q, tAs A C W os xs σ H Q → t σ H Q) (hos1 : ∀ (n j s : Nat), ios[n]? = some j → is[n]? = some s → os[j]? = some (some s))
    (hos2 : ∀ (j : Nat) (o : Option Nat), os[j]? = some o → j ∉ ios → o = none) (hli : ios.length = is.length) (hnp : os.length + dfl.length = np) :
    ∀ σ H Q, tE A C W (callM c i ios (some is) (bnd xs fun ds => ret (ds ++ dfl.map PyData.int))) σ H Q → t σ H fun vs H1 => spF A.K A.w C c i ios np (vs ++ dfl.map V.int) H1 Q (WE W σ) := by
  rintro σ H Q ⟨S, e, R, h⟩
  refine ht σ H _ ⟨S, e, R, ?_⟩
  unfold callM at h
  refine (h.bnd).bnd.imp fun ds e1 S1 H1 R1 M1 ⟨M1', h1⟩ vs hv => ?_
  have h1 := (h1 S1 H1 R1 .refl).2
  have hl := hv.len
  exact res_call R1 hv (rvs_int dfl) hos1 hos2 hli (by simp; omega) h1 fun r e' S' H' hp v rr nw => hp v rr fun d a z1 z2 => by
    have := nw d a z1 z2
    cases q : H a with
    | none => rfl
    | some o => exact absurd this (M1'.st a (by rw [q]; simp))
variable {k i : Nat} {c : CallF} {x : Str} {ps : List Str} {ios is : List Nat} {dfl : List Int} {os : List (Option Nat)} {xs : M (List D)} {p pos : Pos}
/-- f(e, ..): the written arguments, then the int defaults behind the first j -/
theorem pe_callE {j : Nat} (F : CallOk X.prog X.w X.K X.mg X.base C k c x i ps ios dfl) (hK : X.K = A.K) (hw : X.w = A.w) (tk : Takes X W) (hr : Room k X.A) (hg : Gl X x) (hdb : (x == ("__debug__" : Str)) = false) (ha : PA X (a :: es) (tAs A C W os xs))
    (he : starEach (a :: es) X.env = (false, eval a X.env) :: starEach es X.env) (hpl : (backTo pos (starEach es X.env)).any (·.1) = false)
    (hos1 : ∀ (n j s : Nat), ios[n]? = some j → is[n]? = some s → os[j]? = some (some s)) (hos2 : ∀ (j : Nat) (o : Option Nat), os[j]? = some o → j ∉ ios → o = none) (hli : ios.length = is.length) (hj : j ≤ dfl.length) (hnp : os.length + (dfl.drop j).length = ps.length) :
    PE X (.Call (.Name x p) (a :: es) [] pos) (tE A C W (callM c i ios (some is) (bnd xs fun ds => ret (ds ++ (dfl.drop j).map PyData.int)))) := by
  obtain ⟨f, fd, F, hm, hk, hb0, hbk, hbd⟩ := F.ex
  have hb : ∃ ds, Vals ((dfl.drop j).map V.int) ds ∧ Binds X.K fd ps ds := by
    cases dfl with
    | nil => exact ⟨[], by simpa using .nil, hb0 rfl⟩
    | cons d dfl => exact hbd j (by simp) hj
  obtain ⟨ds, hd, hb⟩ := hb
  refine PE.imp (pe_callSD (E := fun σ => WE W σ) F hr hg hm hk hb hd (passAt tk) ha hdb he hpl) fun σ H Q h => ?_
  have := call_to (t := tAs A C W os xs) (fun σ H Q h => h) hos1 hos2 hli hnp σ H Q h
  unfold tCallSD
  rw [hK, hw]
  exact this
theorem pe_call0E {j : Nat} (F : CallOk X.prog X.w X.K X.mg X.base C k c x i [] [] []) (hK : X.K = A.K) (hw : X.w = A.w) (tk : Takes X W) (hr : Room k X.A) (hg : Gl X x) (hdb : (x == ("__debug__" : Str)) = false) :
    PE X (.Call (.Name x p) [] [] pos) (tE A C W (callM c i [] (some []) (bnd (ret []) fun ds => ret (ds ++ [])))) := by
  obtain ⟨f, fd, F, hm, hk, hb0, hbk, hbd⟩ := F.ex
  refine ⟨fun pins s σ H Q I h => ?_⟩
  refine wpAny_Call_Name_kw (ld_glob I hg hm ?_ hdb)
  have h2 := call_to (A := A) (C := C) (W := W) (c := c) (i := i) (np := 0) (ios := []) (is := []) (os := []) (dfl := []) (xs := ret []) (t := tNil) (fun σ H Q ⟨S, e, R, h⟩ => h S H R .refl [] .nil) (by simp) (by simp) rfl rfl σ H Q h
  rw [← hK, ← hw] at h2
  exact PySem.W.callWith_K0 I.kIn hk (run_fnSD (E := fun σ => WE W σ) (us := []) (dvs := []) F hr (hb0 rfl) .nil (passAt tk σ) I .nil h2)
/-- f(k = e, ..): every parameter, in order -/
theorem pe_callKE (F : CallOk X.prog X.w X.K X.mg X.base C k c x i ps ios []) (hK : X.K = A.K) (hw : X.w = A.w) (tk : Takes X W) (hr : Room k X.A) (hg : Gl X x) (hdb : (x == ("__debug__" : Str)) = false) (hkw : PK X kws (tAs A C W os xs))
    (hall : (backToKw pos (keywordEach kws X.env)).all (·.1.isSome) = true) (hks : (backToKw pos (keywordEach kws X.env)).filterMap (·.1) = ps) (hpl : ((backTo pos (starEach [] X.env)).any (·.1) || (backToKw pos (keywordEach kws X.env)).any (·.1.isNone)) = false)
    (hos1 : ∀ (n j s : Nat), ios[n]? = some j → is[n]? = some s → os[j]? = some (some s)) (hos2 : ∀ (j : Nat) (o : Option Nat), os[j]? = some o → j ∉ ios → o = none) (hli : ios.length = is.length) (hnp : os.length = ps.length) :
    PE X (.Call (.Name x p) [] kws pos) (tE A C W (callM c i ios (some is) (bnd xs fun ds => ret (ds ++ [])))) := by
  obtain ⟨f, fd, F, hm, hk, hb0, hbk, hbd⟩ := F.ex
  refine ⟨fun pins s σ H Q I h => ?_⟩
  refine wpAny_Call_Name_kw (ld_glob I hg hm ?_ hdb)
  have h2 := call_to (dfl := []) (t := tAs A C W os xs) (fun σ H Q h => h) hos1 hos2 hli (by simpa using hnp) σ H Q h
  refine PySem.W.callWith_KW0 (h₀ := X.base) I.ok.mod.kin hk hall (thn (hkw.run pos pins s σ H _ I h2) fun ws s2 ⟨zs, H2, I2, rz, q2⟩ => ⟨I2.kIn, ?_⟩) hpl
  rw [hks]
  simp only [List.map_nil, List.append_nil] at q2
  rw [← hK, ← hw] at q2
  have hl : ws.length = ps.length := by rw [← rz.length]; exact F.len _ _ _ _ q2
  refine wpAny_call (codeAny_mono (F.run X.A X.stack s2 H2 ⟨[], ps.zip ws⟩ ws zs Q (WE W σ) hr I2.env0 (hbk rfl s2 ws hl) rz q2) fun r s' hq => ?_)
  cases r with
  | error e => exact passAt tk σ pins H2 s2 e s' I2 hq
  | ok fl =>
    cases fl with
    | ret u => exact I2.after hq
    | next => exact False.elim hq
    | brk => exact False.elim hq
    | cont => exact False.elim hq
end
end Ev
/-! text EvX -/
set_option Elab.async false
set_option linter.all false
set_option maxRecDepth 100000
/-! Ev: from the program's tree to the core, each step with its proof. -/
namespace Ev
open PySem PySem.Spec PyProof.Rows L2

/-! ### names -/
def nEq : List Nat → List Nat → Bool
  | [], [] => true
  | a :: r, b :: s => Nat.beq a b && nEq r s
  | _, _ => false
theorem nEq_iff : ∀ {l r : List Nat}, nEq l r = true ↔ l = r
  | [], [] => by simp [nEq]
  | [], _ :: _ => by simp [nEq]
  | _ :: _, [] => by simp [nEq]
  | a :: r, b :: s => by
    simp only [nEq, Bool.and_eq_true, nEq_iff (l := r) (r := s), List.cons.injEq]
    exact and_congr ⟨fun h => Nat.eq_of_beq_eq_true h, fun h => h ▸ Nat.beq_refl a⟩ Iff.rfl
def sEq (a b : Str) : Bool := nEq a.cps.toList b.cps.toList
theorem sEq_iff {a b : Str} : sEq a b = true ↔ a = b := by
  unfold sEq
  rw [nEq_iff]
  obtain ⟨⟨a⟩⟩ := a
  obtain ⟨⟨b⟩⟩ := b
  simp
theorem sEq_ne {a b : Str} (h : sEq a b = false) : a ≠ b := fun e => by rw [sEq_iff.mpr e] at h; cases h
def lk {α : Type} (x : Str) : List (Str × α) → Option α
  | [] => none
  | p :: r => bif sEq x p.1 then some p.2 else lk x r
theorem lk_eq {α : Type} {x : Str} : ∀ {l : List (Str × α)}, lk x l = l.lookup x
  | [] => rfl
  | (y, a) :: r => by
    unfold lk
    rw [List.lookup_cons, lk_eq (l := r)]
    cases q : sEq x y with
    | true => rw [sEq_iff.mp q]; simp
    | false =>
      have : (x == y) = false := by simpa using sEq_ne q
      rw [this]; rfl
def ixOf (x : Str) : List Str → Option Nat
  | [] => none
  | y :: r => bif sEq x y then some 0 else (ixOf x r).map (· + 1)
theorem ixOf_get {x : Str} : ∀ {l : List Str} {i : Nat}, ixOf x l = some i → l[i]? = some x
  | [], i, h => by cases h
  | y :: r, i, h => by
    unfold ixOf at h
    cases q : sEq x y with
    | true => rw [q] at h; cases h; rw [sEq_iff.mp q]; rfl
    | false =>
      rw [q] at h
      cases q2 : ixOf x r with
      | none => rw [q2] at h; cases h
      | some j => rw [q2] at h; cases h; simpa using ixOf_get q2
def sMem (x : Str) (l : List Str) : Bool := (ixOf x l).isSome
theorem sMem_mem {x : Str} {l : List Str} (h : sMem x l = true) : x ∈ l := by
  unfold sMem at h
  obtain ⟨i, hi⟩ := Option.isSome_iff_exists.mp h
  exact List.mem_iff_getElem?.mpr ⟨i, ixOf_get hi⟩

/-! ### the surroundings -/
structure Fe where
  i : Nat
  ps : List Str
  io : List Nat
  dfl : List Int
/-- what a law's program has: its defs, its int constants, the built-in names that it uses -/
structure Gm where
  fns : List (Str × Fe)
  cons : List (Str × Int)
  bis : List Str
/-- a scope: the slots' names, the scope, the raw scope of a block -/
structure Fm where
  N : List Str
  sc : Scope
  raw : Option Scope
def Fm.fn (F : Fm) : Str → Bool := match F.raw with
  | none => fun _ => true
  | some r => fun x => r.names.lookup x == some .cell
structure Sit (G : Gm) (F : Fm) (X : Cx) (A : Am) (C : Ecls) (W : WX) (c : CallF) : Prop where
  room : ∃ k, Room k X.A ∧ ∀ x f, lk x G.fns = some f → CallOk X.prog X.w X.K X.mg X.base C k c x f.i f.ps f.io f.dfl
  hN : X.N = F.N
  nd : X.N.Nodup
  hK : X.K = A.K
  hw : X.w = A.w
  calm : X.calm = true
  sc : X.env.scope = F.sc
  fn : X.fn = F.fn
  tk : Takes X W
  cons : ∀ x n, lk x G.cons = some n → ∃ u, X.mg x = some u ∧ RelV (.int n) u
  bis : ∀ x, x ∈ G.bis → X.mg x = none
theorem Sit.units {G : Gm} {F : Fm} {X : Cx} {A : Am} {C : Ecls} {W : WX} {c : CallF} (s : Sit G F X A C W c) : X.A.units + 100 < cLine := by
  obtain ⟨k, r, _⟩ := s.room
  have := r.un
  omega
def Fm.blk (F : Fm) (scope : Scope) : Fm := ⟨F.N, relS scope F.sc, some scope⟩
theorem Sit.blk {G : Gm} {F : Fm} {X : Cx} {A : Am} {C : Ecls} {W : WX} {c : CallF} (s : Sit G F X A C W c) (s0 : Shared) (H : Hp) (scope : Scope) (cl : List (Str × Addr)) (L : Addr) (fp : List Addr) :
    Sit G (F.blk scope) (X.blk s0 H scope (compEnvC scope cl L X.env) fp) A C WF c where
  room := s.room
  hN := s.hN
  nd := s.nd
  hK := s.hK
  hw := s.hw
  calm := s.calm
  sc := by
    show relS scope X.env.scope = _
    rw [s.sc]; rfl
  fn := rfl
  tk := fun u s' ⟨_, _, _, _, _, _, _, _, _, _, _, _, _, _, _, _, h⟩ => h.elim
  cons := s.cons
  bis := s.bis

/-! ### what a step gives -/
def EOk (G : Gm) (F : Fm) (e : Expr) (c : E) : Prop := ∀ X A C W cf, Sit G F X A C W cf → PE X e (tE A C W (evE cf c))
def TOk (G : Gm) (F : Fm) (e : Expr) (c : E) : Prop := ∀ X A C W cf, Sit G F X A C W cf → PT X e (tT A C W (bnd (evE cf c) truthM))
abbrev CE (G : Gm) (F : Fm) (e : Expr) := Option {c : E // EOk G F e c}
abbrev CT (G : Gm) (F : Fm) (e : Expr) := Option {c : E // TOk G F e c}
structure Stg (G : Gm) where
  cE : (F : Fm) → (e : Expr) → Ev.CE G F e
  cT : (F : Fm) → (e : Expr) → Ev.CT G F e

/-! ### forms -/
def plain : Expr → Bool
  | .Starred .. => false
  | _ => true
theorem star_ok {e : Expr} (h : plain e = true) (es : List Expr) (env : Env) : starEach (e :: es) env = (false, eval e env) :: starEach es env := by
  cases e <;> first | rfl | cases h
theorem star_any {pos : Pos} {env : Env} : ∀ {es : List Expr}, es.all plain = true → (backTo pos (starEach es env)).any (·.1) = false
  | [], _ => rfl
  | e :: es, h => by
    simp only [List.all_cons, Bool.and_eq_true] at h
    rw [star_ok h.1]
    show (false || (backTo pos (starEach es env)).any (·.1)) = false
    rw [star_any h.2]; rfl
def plainIx : Expr → Bool
  | .Slice .. => false
  | .Tuple .. => false
  | _ => true
theorem ix_ok {e : Expr} (h : plainIx e = true) : PlainIx e := by
  cases e <;> first | (intro o i; rfl) | cases h
def tstOk : Expr → Bool
  | .UnaryOp .Not _ _ => false
  | .BoolOp .. => false
  | .IfExp .. => false
  | .Compare .. => false
  | _ => true
theorem tst_ok {e : Expr} (h : tstOk e = true) (env : Env) (whole : Sem Value) : isTrue e env whole = (do let v ← whole; standAt e.pos; holding [v] (truthy v)) := by
  cases e with
  | UnaryOp op _ _ => cases op <;> first | rfl | cases h
  | _ => first | rfl | cases h
def notSet : Expr → Bool
  | .Set .. => false
  | _ => true
theorem set_ok {e : Expr} (h : notSet e = true) (env : Env) (x : Value) : foldedSetIterable e env x = pure x := by
  cases e <;> first | rfl | cases h
def notLc : Expr → Bool
  | .ListComp .. => false
  | .SetComp .. => false
  | .DictComp .. => false
  | _ => true
theorem swap_ok {e : Expr} (h : notLc e = true) (t : Option Expr) (line : Nat) (env : Env) : swapsWith e t line env = pure false := by
  cases e <;> first | rfl | cases h

section
variable {G : Gm}
def visB (sc : Scope) (x : Str) : Bool := match lk x sc.names with
  | some .local => true
  | some .cell => true
  | some .free => true
  | _ => false
theorem visB_ok {sc : Scope} {x : Str} (h : visB sc x = true) : Vis sc x := by
  unfold visB at h
  rw [lk_eq] at h
  unfold Vis
  split at h <;> simp_all
def locB (sc : Scope) (x : Str) : Bool := match lk x sc.names with
  | some .local => true
  | some .cell => true
  | _ => false
theorem locB_ok {sc : Scope} {x : Str} (h : locB sc x = true) : L2.Loc sc x := by
  unfold locB at h
  rw [lk_eq] at h
  unfold L2.Loc
  split at h <;> simp_all
def isLocB (sc : Scope) (x : Str) : Bool := match lk x sc.names with
  | some .local => true
  | _ => false
theorem isLocB_ok {sc : Scope} {x : Str} (h : isLocB sc x = true) : sc.names.lookup x = some .local := by
  unfold isLocB at h
  rw [lk_eq] at h
  split at h <;> simp_all
def gloB (sc : Scope) (x : Str) : Bool := match lk x sc.names with
  | some .globalImplicit => true
  | _ => false
theorem gloB_ok {F : Fm} {X : Cx} {A : Am} {C : Ecls} {W : WX} {c : CallF} (s : Sit G F X A C W c) {x : Str} (h : gloB F.sc x = true) : Gl X x := by
  unfold gloB at h
  rw [lk_eq] at h
  unfold Gl Env.kindOf
  rw [s.sc]
  split at h <;> simp_all
def okName (x : Str) : Bool := !sEq x "__debug__" && !sEq x "__classdict__" && !sEq x "__name__"
theorem okName1 {x : Str} (h : okName x = true) : (x == ("__debug__" : Str)) = false := by
  unfold okName at h
  simp only [Bool.and_eq_true, Bool.not_eq_true'] at h
  simpa using sEq_ne h.1.1
theorem okName2 {x : Str} (h : okName x = true) : (x == ("__classdict__" : Str)) = false := by
  unfold okName at h
  simp only [Bool.and_eq_true, Bool.not_eq_true'] at h
  simpa using sEq_ne h.1.2
theorem okName3 {x : Str} (h : okName x = true) : x ≠ "__name__" := by
  unfold okName at h
  simp only [Bool.and_eq_true, Bool.not_eq_true'] at h
  exact sEq_ne h.2

/-- a name: a slot, or an int constant of the module -/
def cName (G : Gm) (F : Fm) (x : Str) (pos : Pos) : CE G F (.Name x pos) :=
  if hn : okName x = true then
    if hv : visB F.sc x = true then
      match hi : ixOf x F.N with
      | some i => some ⟨.var i, fun X A C W cf s => pe_varE (s.hN ▸ ixOf_get hi) (s.sc ▸ visB_ok hv) (okName1 hn) (okName2 hn)⟩
      | none => none
    else if hg : gloB F.sc x = true then
      match hi : lk x G.cons with
      | some n => some ⟨.cst (.int n), fun X A C W cf s => by
          obtain ⟨u, h1, h2⟩ := s.cons x n hi
          exact pe_cstE (pe_glob (gloB_ok s hg) h1 h2 (okName1 hn)) fun S H => .int n⟩
      | none => none
    else none
  else none
def cConst (G : Gm) (F : Fm) (v : Const) (k : Nat) (pos : Pos) : CE G F (.Constant v k pos) := match v with
  | .int n => some ⟨.cst (.int n), fun X A C W cf s => pe_cstE pe_int fun S H => .int n⟩
  | .str x => some ⟨.cst (.str x), fun X A C W cf s => pe_cstE pe_str fun S H => .str x⟩
  | .bool b => some ⟨.cst (.bool b), fun X A C W cf s => pe_cstE pe_bl fun S H => .bl b⟩
  | .none => some ⟨.cst .none, fun X A C W cf s => pe_cstE pe_non fun S H => .non⟩
  | _ => none
end
end Ev
/-! text EvY -/
set_option Elab.async false
set_option linter.all false
set_option maxRecDepth 100000
/-! Ev: from the program's tree to the core: expressions. -/
namespace Ev
open PySem PySem.Spec PyProof.Rows L2
theorem op2_noSl (o : Op2) : NoSl2 (op2 o) := by
  intro x y r h i e
  subst e
  cases o <;> simp only [op2, addD, subD, mulD, fdivD, modD, powD, shlD] at h <;> (repeat' split at h) <;> first | (cases h; done) | (injection h with h; cases h; done)
theorem cmpD_noSl (o : Cm) : NoSl2 (cmpD o) := by
  intro x y r h i e
  subst e
  unfold cmpD at h
  cases q : cmp2 o x y <;> rw [q] at h <;> simp at h
theorem idxD_noSl : NoSl2 idxD := by
  intro x y r h i e
  subst e
  unfold idxD at h
  cases q : idx2 x y <;> rw [q] at h <;> simp at h
theorem pe_and1 {X : Cx} {a : Expr} {t : TE} {pos : Pos} (h : PE X a t) : PE X (.BoolOp .And [a] pos) t := ⟨fun pins s σ H Q I q => h.run pins s σ H Q I q⟩
theorem pe_or1 {X : Cx} {a : Expr} {t : TE} {pos : Pos} (h : PE X a t) : PE X (.BoolOp .Or [a] pos) t := ⟨fun pins s σ H Q I q => h.run pins s σ H Q I q⟩
section
variable {G : Gm} (s : Stg G) (F : Fm)
def VsOk (G : Gm) (F : Fm) (es : List Expr) (cs : List E) : Prop := es.all plain = true ∧ ∀ X A C W cf, Sit G F X A C W cf → PA X es (tVs A C W (evVs cf cs))
def RsOk (G : Gm) (F : Fm) (es : List Expr) (cs : List E) : Prop := es.all plain = true ∧ ∀ X A C W cf, Sit G F X A C W cf → PA X es (tRs A C W (evRs cf cs))
def cVs : (es : List Expr) → Option {cs : List E // VsOk G F es cs}
  | [] => some ⟨[], rfl, fun X A C W cf _ => pa_nilV⟩
  | e :: es => if hp : plain e = true then match s.cE F e, cVs es with
    | some c, some cs => some ⟨c.1 :: cs.1, by simp only [List.all_cons, hp, cs.2.1]; rfl, fun X A C W cf st => pa_consV (pe_fz (c.2 X A C W cf st)) (cs.2.2 X A C W cf st) (star_ok hp _ _)⟩
    | _, _ => none else none
def cRs : (es : List Expr) → Option {cs : List E // RsOk G F es cs}
  | [] => some ⟨[], rfl, fun X A C W cf _ => pa_nilR⟩
  | e :: es => if hp : plain e = true then match s.cE F e, cRs es with
    | some c, some cs => some ⟨c.1 :: cs.1, by simp only [List.all_cons, hp, cs.2.1]; rfl, fun X A C W cf st => pa_consR (c.2 X A C W cf st) (cs.2.2 X A C W cf st) (star_ok hp _ _)⟩
    | _, _ => none else none
def cTup (es : List Expr) (k : Nat) (pos : Pos) : CE G F (.Tuple es k pos) := match cVs s F es with
  | some cs => some ⟨.tup cs.1, fun X A C W cf st => pe_tupE (cs.2.2 X A C W cf st)⟩
  | none => none
def cLst (es : List Expr) (pos : Pos) : CE G F (.List es pos) := match cVs s F es with
  | some cs => some ⟨.lst cs.1, fun X A C W cf st => pe_lstE (cs.2.2 X A C W cf st)⟩
  | none => none
def cDic (ks : List (Option Expr)) (vs : List Expr) (pos : Pos) : CE G F (.Dict ks vs pos) := match ks, vs with
  | [], [] => some ⟨.dic0, fun X A C W cf st => pe_dic0E⟩
  | [some k], [v] => match s.cE F k, s.cE F v with
    | some ck, some cv => some ⟨.dic1 ck.1 cv.1, fun X A C W cf st => pe_dic1E st.units st.hK st.hw (pe_fz (ck.2 X A C W cf st)) (pe_fz (cv.2 X A C W cf st))⟩
    | _, _ => none
  | _, _ => none
def binOp : Operator → Option Op2
  | .Add => some .add
  | .Sub => some .sub
  | .Mult => some .mul
  | .FloorDiv => some .fdiv
  | .Mod => some .mod
  | .Pow => some .pow
  | .LShift => some .shl
  | _ => none
theorem binOp_ok {op : Operator} {o : Op2} (h : binOp op = some o) {X : Cx} : OpR X (binaryOp op) (rD2 X.K X.w (op2 o)) := by
  cases op <;> simp only [binOp] at h <;> cases h <;> first | exact op_addE | exact op_subE | exact op_mulE | exact op_fdivE | exact op_modE | exact op_powE | exact op_shlE
def cBin (a : Expr) (op : Operator) (b : Expr) (pos : Pos) : CE G F (.BinOp a op b pos) := match ho : binOp op, s.cE F a, s.cE F b with
  | some o, some ca, some cb => some ⟨.bin o ca.1 cb.1, fun X A C W cf st => pe_bin2 (op2_noSl o) (st.hK ▸ st.hw ▸ binOp_ok ho) (ca.2 X A C W cf st) (cb.2 X A C W cf st)⟩
  | _, _, _ => none
def cUn (op : UnaryOp) (a : Expr) (pos : Pos) : CE G F (.UnaryOp op a pos) := match op with
  | .Not => (match s.cE F a with
    | some ca => some ⟨.not ca.1, fun X A C W cf st => pe_notE st.hK (ca.2 X A C W cf st)⟩
    | none => none)
  | .USub => (match s.cE F a with
    | some ca => some ⟨.neg ca.1, fun X A C W cf st => pe_un1 neg_noSl (st.hK ▸ st.hw ▸ un_negE) (ca.2 X A C W cf st)⟩
    | none => none)
  | _ => none
def cAnd : (es : List Expr) → (pos : Pos) → CE G F (.BoolOp .And es pos)
  | [], _ => none
  | [a], pos => match s.cE F a with
    | some ca => some ⟨ca.1, fun X A C W cf st => pe_and1 (ca.2 X A C W cf st)⟩
    | none => none
  | a :: b :: rest, pos => match s.cE F a, cAnd (b :: rest) pos with
    | some ca, some cb => some ⟨.and ca.1 cb.1, fun X A C W cf st => pe_andE st.hK (ca.2 X A C W cf st) (cb.2 X A C W cf st)⟩
    | _, _ => none
def cOr : (es : List Expr) → (pos : Pos) → CE G F (.BoolOp .Or es pos)
  | [], _ => none
  | [a], pos => match s.cE F a with
    | some ca => some ⟨ca.1, fun X A C W cf st => pe_or1 (ca.2 X A C W cf st)⟩
    | none => none
  | a :: b :: rest, pos => match s.cE F a, cOr (b :: rest) pos with
    | some ca, some cb => some ⟨.or ca.1 cb.1, fun X A C W cf st => pe_orE st.hK (ca.2 X A C W cf st) (cb.2 X A C W cf st)⟩
    | _, _ => none
def cBool (op : BoolOp) (es : List Expr) (pos : Pos) : CE G F (.BoolOp op es pos) := match op with
  | .And => cAnd s F es pos
  | .Or => cOr s F es pos
def cIf (q a b : Expr) (pos : Pos) : CE G F (.IfExp q a b pos) := match s.cT F q, s.cE F a, s.cE F b with
  | some cq, some ca, some cb => some ⟨.ite cq.1 ca.1 cb.1, fun X A C W cf st => pe_iteE (cq.2 X A C W cf st) (ca.2 X A C W cf st) (cb.2 X A C W cf st)⟩
  | _, _, _ => none
/-! ### comparisons -/
def cmOp : CmpOp → Option Cm
  | .Eq => some .eq
  | .NotEq => some .ne
  | .Lt => some .lt
  | .LtE => some .le
  | .Gt => some .gt
  | .GtE => some .ge
  | .In => some .isIn
  | .NotIn => some .notIn
  | _ => none
theorem cmOp_ok {op : CmpOp} {o : Cm} (h : cmOp op = some o) {X : Cx} (hu : X.A.units + 100 < cLine) : OpR X (compareOp op) (rD2 X.K X.w (cmpD o)) := by
  cases op <;> simp only [cmOp] at h <;> cases h <;> first | exact op_eqE hu | exact op_neE hu | exact op_ltE hu | exact op_leE | exact op_gtE | exact op_geE | skip
  · exact op_inE hu fun pins s σ H x y v u Q S d1 kvs k I rx ry _ hx hy hf q => in_dict hu I rx ry hx hy hf q
  · exact op_notInE hu fun pins s σ H x y v u Q S d1 kvs k I rx ry _ hx hy hf q => notIn_dict hu I rx ry hx hy hf q
def isNoneC : Expr → Bool
  | .Constant .none _ _ => true
  | _ => false
theorem isNoneC_ok {e : Expr} (h : isNoneC e = true) {X : Cx} : PE X e (tC .non) := by
  unfold isNoneC at h
  split at h
  · exact pe_non
  · cases h
/-- both forms of a comparison -/
def CmpOk (G : Gm) (F : Fm) (e : Expr) (c : E) : Prop := EOk G F e c ∧ TOk G F e c
def cCmp (a : Expr) (ops : List CmpOp) (cs : List Expr) (pos : Pos) : Option {c : E // CmpOk G F (.Compare a ops cs pos) c} := match ops, cs with
  | [.Is], [z] => if hz : isNoneC z = true then if hm : behindInMarks .Is z = false then (match s.cE F a with
      | some ca => some ⟨.isN ca.1, fun X A C W cf st => pe_isNE (j := none) (pos' := pos) (ca.2 X A C W cf st) (isNoneC_ok hz) hm, fun X A C W cf st => pt_isNE (ca.2 X A C W cf st) (isNoneC_ok hz) hm⟩
      | none => none) else none else none
  | [.IsNot], [z] => if hz : isNoneC z = true then if hm : behindInMarks .IsNot z = false then (match s.cE F a with
      | some ca => some ⟨.notN ca.1, fun X A C W cf st => pe_notNE (j := none) (pos' := pos) (ca.2 X A C W cf st) (isNoneC_ok hz) hm, fun X A C W cf st => pt_isNotNE (ca.2 X A C W cf st) (isNoneC_ok hz) hm⟩
      | none => none) else none else none
  | [op], [b] => if hm : behindInMarks op b = false then (match ho : cmOp op, s.cE F a, s.cE F b with
      | some o, some ca, some cb => some ⟨.cmp o ca.1 cb.1, fun X A C W cf st => pe_cmp2 (cmpD_noSl o) (st.hK ▸ st.hw ▸ cmOp_ok ho st.units) (ca.2 X A C W cf st) (cb.2 X A C W cf st) hm,
          fun X A C W cf st => pt_cmpE (st.hK ▸ st.hw ▸ cmOp_ok ho st.units) (ca.2 X A C W cf st) (cb.2 X A C W cf st) hm⟩
      | _, _, _ => none) else none
  | [op, op'], [b, c] => if hm : lastMarks [op, op'] [b, c] = false then (match ho : cmOp op, ho' : cmOp op', s.cE F a, s.cE F b, s.cE F c with
      | some o, some o', some ca, some cb, some cc => some ⟨.chain o o' ca.1 cb.1 cc.1, fun X A C W cf st => pe_chainE st.hK st.hw (cmOp_ok ho st.units) (cmOp_ok ho' st.units) (ca.2 X A C W cf st) (cb.2 X A C W cf st) (cc.2 X A C W cf st) hm,
          fun X A C W cf st => pt_chainE st.hK st.hw (cmOp_ok ho st.units) (cmOp_ok ho' st.units) (ca.2 X A C W cf st) (cb.2 X A C W cf st) (cc.2 X A C W cf st) hm⟩
      | _, _, _, _, _ => none) else none
  | _, _ => none
/-! ### subscripts -/
def OOk (G : Gm) (F : Fm) (e : Option Expr) (c : Option E) : Prop := ∀ X A C W cf, Sit G F X A C W cf → PO X e (tO A C W (evO cf c))
def cO : (e : Option Expr) → Option {c : Option E // OOk G F e c}
  | none => some ⟨none, fun X A C W cf st => po_noneE⟩
  | some e => match s.cE F e with
    | some c => some ⟨some c.1, fun X A C W cf st => po_someE (c.2 X A C W cf st)⟩
    | none => none
def cSub (a b : Expr) (pos : Pos) : CE G F (.Subscript a b pos) := match b with
  | .Slice lo hi none p2 => (match s.cE F a, cO s F lo, cO s F hi with
    | some ca, some cl, some ch => some ⟨.sl ca.1 cl.1 ch.1, fun X A C W cf st => pe_slE st.hK.symm st.hw.symm (ca.2 X A C W cf st) (cl.2 X A C W cf st) (ch.2 X A C W cf st)⟩
    | _, _, _ => none)
  | b => if hb : plainIx b = true then (match s.cE F a, s.cE F b with
    | some ca, some cb => some ⟨.idx ca.1 cb.1, fun X A C W cf st => pe_ix2 idxD_noSl (st.hK ▸ st.hw ▸ ix_E fun value slice pins s σ H x y v u Q S d1 d kvs I rx ry _ hy hx hf q hs => ix_dict st.units I rx ry hy hx hf q hs) (ca.2 X A C W cf st) (cb.2 X A C W cf st) (ix_ok hb)⟩
    | _, _ => none) else none
end
end Ev
/-! text EvZ -/
set_option Elab.async false
set_option linter.all false
set_option maxRecDepth 100000
/-! Ev: from the program's tree to the core: calls. -/
namespace Ev
open PySem PySem.Spec PyProof.Rows L2
/-! ### arguments of a def -/
def slotsAt (ios : List Nat) (n : Nat) : List E → List (Option Nat)
  | [] => []
  | c :: cs => (if ios.contains n then slotOf c else none) :: slotsAt ios (n + 1) cs
theorem slotsAt_len {ios : List Nat} : ∀ {cs : List E} {n : Nat}, (slotsAt ios n cs).length = cs.length
  | [], _ => rfl
  | c :: cs, n => by simp [slotsAt, slotsAt_len (cs := cs)]
section
variable {G : Gm} (s : Stg G) (F : Fm)
def AsOk (G : Gm) (F : Fm) (ios : List Nat) (n : Nat) (es : List Expr) (cs : List E) : Prop := es.all plain = true ∧ ∀ X A C W cf, Sit G F X A C W cf → PA X es (tAs A C W (slotsAt ios n cs) (evAs cf ios n cs))
/-- an argument: a name as it stands, where the def wants an own object -/
def cSlot (e : Expr) : Option {i : Nat // ∀ X A C W cf, Sit G F X A C W cf → PE X e (tVar i)} := match e with
  | .Name x pos => if hn : okName x = true then
    if hv : visB F.sc x = true then
      match hi : ixOf x F.N with
      | some i => some ⟨i, fun X A C W cf s => pe_var (s.hN ▸ ixOf_get hi) (s.sc ▸ visB_ok hv) (okName1 hn) (okName2 hn)⟩
      | none => none
    else none else none
  | _ => none
def cAs (ios : List Nat) : (n : Nat) → (es : List Expr) → Option {cs : List E // AsOk G F ios n es cs}
  | n, [] => some ⟨[], rfl, fun X A C W cf _ => pa_nilA⟩
  | n, e :: es => if hp : plain e = true then match cAs ios (n + 1) es with
    | none => none
    | some cs => if hc : ios.contains n = true then (match cSlot (G := G) F e with
        | some i => some ⟨.var i.1 :: cs.1, by simp only [List.all_cons, hp, cs.2.1]; rfl, fun X A C W cf st => by
            have h := pa_consIo (A := A) (C := C) (W := W) (i.2 X A C W cf st) (cs.2.2 X A C W cf st) (star_ok hp es X.env)
            simp only [slotsAt, evAs, hc, if_true]
            exact h⟩
        | none => none)
      else (match s.cE F e with
        | some c => some ⟨c.1 :: cs.1, by simp only [List.all_cons, hp, cs.2.1]; rfl, fun X A C W cf st => by
            have h := pa_consIm (A := A) (C := C) (W := W) (pe_fz (c.2 X A C W cf st)) (cs.2.2 X A C W cf st) (star_ok hp es X.env)
            simp only [slotsAt, evAs, hc]
            exact h⟩
        | none => none)
    else none
def KsOk (G : Gm) (F : Fm) (ios : List Nat) (n : Nat) (ks : List Keyword) (cs : List E) : Prop := ∀ X A C W cf, Sit G F X A C W cf → PK X ks (tAs A C W (slotsAt ios n cs) (evAs cf ios n cs))
def cKs (ios : List Nat) : (n : Nat) → (ks : List Keyword) → Option {cs : List E // KsOk G F ios n ks cs}
  | n, [] => some ⟨[], fun X A C W cf _ => pk_nilA⟩
  | n, ⟨nm, e, kp⟩ :: es => match cKs ios (n + 1) es with
    | none => none
    | some cs => if hc : ios.contains n = true then (match cSlot (G := G) F e with
        | some i => some ⟨.var i.1 :: cs.1, fun X A C W cf st => by
            have h := pk_consIo (A := A) (C := C) (W := W) (nm := nm) (kpos := kp) (i.2 X A C W cf st) (cs.2 X A C W cf st)
            simp only [slotsAt, evAs, hc, if_true]
            exact h⟩
        | none => none)
      else (match s.cE F e with
        | some c => some ⟨c.1 :: cs.1, fun X A C W cf st => by
            have h := pk_consIm (A := A) (C := C) (W := W) (nm := nm) (kpos := kp) (pe_fz (c.2 X A C W cf st)) (cs.2 X A C W cf st)
            simp only [slotsAt, evAs, hc]
            exact h⟩
        | none => none)
end
theorem bnd_asc {α β γ : Type} (x : M α) (f : α → M β) (g : β → M γ) : bnd (bnd x f) g = bnd x fun a => bnd (f a) g := funext fun e => bnd_assoc x f g e
theorem bnd_ret {α : Type} (x : M α) : bnd x ret = x := by
  funext e
  unfold bnd
  cases x e <;> rfl
theorem ret_bnd {α β : Type} (a : α) (f : α → M β) : bnd (ret a) f = f a := rfl
def csts (l : List Int) : List E := l.map fun i => .cst (.int i)
theorem evAs_csts (cf : CallF) {ios : List Nat} : ∀ (l : List Int) (n : Nat), (∀ p ∈ ios, p < n) → evAs cf ios n (csts l) = ret (l.map PyData.int)
  | [], n, _ => rfl
  | i :: l, n, h => by
    have hc : ios.contains n = false := by
      cases q : ios.contains n with
      | false => rfl
      | true => have := h n (by simpa using q); omega
    show consV (if ios.contains n then chkO (slotOf (.cst (.int i))) else fzM (evE cf (.cst (.int i)))) (evAs cf ios (n + 1) (csts l)) = _
    rw [hc, evAs_csts cf l (n + 1) fun p hp => Nat.lt_succ_of_lt (h p hp)]
    rfl
theorem evAs_app (cf : CallF) {ios : List Nat} {l : List Int} : ∀ (cs : List E) (n : Nat), (∀ p ∈ ios, p < n + cs.length) → evAs cf ios n (cs ++ csts l) = bnd (evAs cf ios n cs) fun ds => ret (ds ++ l.map PyData.int)
  | [], n, h => by
    rw [List.nil_append, evAs_csts cf l n (by simpa using h)]
    rfl
  | c :: cs, n, h => by
    show consV _ (evAs cf ios (n + 1) (cs ++ csts l)) = bnd (consV _ (evAs cf ios (n + 1) cs)) _
    rw [evAs_app cf cs (n + 1) (fun p hp => by have := h p hp; simp at this; omega)]
    unfold consV
    simp only [bnd_asc]
    rfl
def hos1B (ios is : List Nat) (os : List (Option Nat)) : Bool := (ios.zip is).all fun p => match os[p.1]? with
  | some (some t) => t == p.2
  | _ => false
theorem hos1B_ok {ios is : List Nat} {os : List (Option Nat)} (h : hos1B ios is os = true) : ∀ (n j s : Nat), ios[n]? = some j → is[n]? = some s → os[j]? = some (some s) := fun n j t h1 h2 => by
  have := List.all_eq_true.mp h (j, t) (mem_zip h1 h2)
  dsimp only at this
  split at this
  · rename_i q; rw [q, eq_of_beq this]
  · cases this
theorem hos2 {ios : List Nat} : ∀ {cs : List E} {n j : Nat} {o : Option Nat}, (slotsAt ios n cs)[j]? = some o → n + j ∉ ios → o = none
  | [], n, j, o, h, _ => by simp [slotsAt] at h
  | c :: cs, n, 0, o, h, hn => by
    simp only [slotsAt, List.getElem?_cons_zero, Option.some.injEq] at h
    rw [if_neg (by simpa using hn)] at h
    exact h.symm
  | c :: cs, n, j + 1, o, h, hn => by
    simp only [slotsAt, List.getElem?_cons_succ] at h
    exact hos2 h (by rwa [show n + 1 + j = n + (j + 1) from by omega])
def strsEq : List Str → List Str → Bool
  | [], [] => true
  | a :: l, b :: r => sEq a b && strsEq l r
  | _, _ => false
theorem strsEq_ok : ∀ {l r : List Str}, strsEq l r = true → l = r
  | [], [], _ => rfl
  | [], _ :: _, h => by cases h
  | _ :: _, [], h => by cases h
  | a :: l, b :: r, h => by
    simp only [strsEq, Bool.and_eq_true] at h
    rw [sEq_iff.mp h.1, strsEq_ok h.2]
def kwNames : List Keyword → Option (List Str)
  | [] => some []
  | ⟨some n, _, _⟩ :: r => (kwNames r).map (n :: ·)
  | _ => none
theorem kwNames_ok {pos : Pos} {env : Env} : ∀ {ks : List Keyword} {ns : List Str}, kwNames ks = some ns → (backToKw pos (keywordEach ks env)).all (·.1.isSome) = true ∧ (backToKw pos (keywordEach ks env)).filterMap (·.1) = ns ∧ (backToKw pos (keywordEach ks env)).any (·.1.isNone) = false
  | [], ns, h => by cases h; exact ⟨rfl, rfl, rfl⟩
  | ⟨some n, e, p⟩ :: r, ns, h => by
    unfold kwNames at h
    cases q : kwNames r with
    | none => rw [q] at h; cases h
    | some l =>
      rw [q] at h; cases h
      obtain ⟨h1, h2, h3⟩ := kwNames_ok (pos := pos) (env := env) q
      refine ⟨?_, ?_, ?_⟩
      · show (true && (backToKw pos (keywordEach r env)).all (·.1.isSome)) = true
        rw [h1]; rfl
      · show n :: (backToKw pos (keywordEach r env)).filterMap (·.1) = n :: l
        rw [h2]
      · show (false || (backToKw pos (keywordEach r env)).any (·.1.isNone)) = false
        rw [h3]; rfl
  | ⟨none, e, p⟩ :: r, ns, h => by cases h
section
variable {G : Gm} (s : Stg G) (F : Fm)
/-- a call of a def -/
def cDef (x : Str) (p : Pos) (f : Fe) (hf : lk x G.fns = some f) (hn : okName x = true) (hg : gloB F.sc x = true) (es : List Expr) (ks : List Keyword) (pos : Pos) : CE G F (.Call (.Name x p) es ks pos) := match es, ks with
  | a :: es, [] => match cAs s F f.io 0 (a :: es) with
    | none => none
    | some cs => match hi : iosOf f.io (cs.1 ++ csts (f.dfl.drop ((a :: es).length + f.dfl.length - f.ps.length))) with
      | none => none
      | some is =>
        if h : hos1B f.io is (slotsAt f.io 0 cs.1) = true ∧ (a :: es).length + f.dfl.length - f.ps.length ≤ f.dfl.length ∧ cs.1.length + (f.dfl.drop ((a :: es).length + f.dfl.length - f.ps.length)).length = f.ps.length ∧ f.io.length = is.length ∧ (f.io.all fun p => decide (p < cs.1.length)) = true then
          some ⟨.call f.i f.io (cs.1 ++ csts (f.dfl.drop ((a :: es).length + f.dfl.length - f.ps.length))), fun X A C W cf st => by
            obtain ⟨k, r, hfs⟩ := st.room
            have hp : (a :: es).all plain = true := cs.2.1
            have hp2 := hp
            simp only [List.all_cons, Bool.and_eq_true] at hp2
            have hlt : ∀ p ∈ f.io, p < 0 + cs.1.length := fun p hp => by
              have := List.all_eq_true.mp h.2.2.2.2 p hp
              simpa using this
            show PE X _ (tE A C W (callM cf f.i f.io (iosOf f.io (cs.1 ++ csts _)) (evAs cf f.io 0 (cs.1 ++ csts _))))
            rw [hi, evAs_app cf cs.1 0 hlt]
            exact pe_callE (hfs x f hf) st.hK st.hw st.tk r (gloB_ok st hg) (okName1 hn) (cs.2.2 X A C W cf st) (star_ok hp2.1 es X.env) (star_any hp2.2) (hos1B_ok h.1) (fun j o h1 h2 => hos2 h1 (by simpa using h2)) h.2.2.2.1 h.2.1 (by rw [slotsAt_len]; exact h.2.2.1)⟩
        else none
  | [], ks => match cKs s F f.io 0 ks, hk : kwNames ks with
    | some cs, some ns => (match hi : iosOf f.io cs.1 with
      | none => none
      | some is =>
        if h : strsEq ns f.ps = true ∧ f.dfl = [] ∧ hos1B f.io is (slotsAt f.io 0 cs.1) = true ∧ cs.1.length = f.ps.length ∧ f.io.length = is.length then
          some ⟨.call f.i f.io cs.1, fun X A C W cf st => by
            obtain ⟨k, r, hfs⟩ := st.room
            have hF := hfs x f hf
            rw [h.2.1] at hF
            obtain ⟨h1, h2, h3⟩ := kwNames_ok (pos := pos) (env := X.env) hk
            have hps := strsEq_ok h.1
            have key := pe_callKE (p := p) (pos := pos) hF st.hK st.hw st.tk r (gloB_ok st hg) (okName1 hn) (cs.2 X A C W cf st) h1 (h2.trans hps) (by rw [h3]; rfl) (hos1B_ok h.2.2.1) (fun j o h1 h2 => hos2 h1 (by simpa using h2)) h.2.2.2.2 (by rw [slotsAt_len]; exact h.2.2.2.1)
            show PE X _ (tE A C W (callM cf f.i f.io (iosOf f.io cs.1) (evAs cf f.io 0 cs.1)))
            rw [hi]
            simp only [List.append_nil] at key
            have e : (bnd (evAs cf f.io 0 cs.1) fun ds => ret ds) = evAs cf f.io 0 cs.1 := bnd_ret _
            rw [e] at key
            exact key⟩
        else none)
    | _, _ => none
  | _, _ => none
end
end Ev
/-! text EvZB -/
set_option Elab.async false
set_option linter.all false
set_option maxRecDepth 100000
/-! Ev: from the program's tree to the core: built-ins, methods, walks, targets, comprehensions, tests. -/
namespace Ev
open PySem PySem.Spec PyProof.Rows L2
section
variable {G : Gm} (s : Stg G) (F : Fm)
/-- a built-in name that may be called -/
structure BnOk (x : Str) : Prop where
  name : okName x = true
  glo : gloB F.sc x = true
  bis : x ∈ G.bis
def biB (x : Str) (p : Pos) (es : List Expr) (pos : Pos) (id : String) (b : Bi) (hb : BnOk (G := G) F x) (hv : bootBuiltins x = some (.builtin id)) (hc : ∀ X : Cx, X.calm = true → X.A.units + 100 < cLine → CallR X (.builtin id) (rDs X.K X.w (biF b))) : CE G F (.Call (.Name x p) es [] pos) := match es with
  | [] => none
  | a :: es => match cRs s F (a :: es) with
    | none => none
    | some cs => some ⟨.bi b cs.1, fun X A C W cf st => by
        have hp : (a :: es).all plain = true := cs.2.1
        simp only [List.all_cons, Bool.and_eq_true] at hp
        exact pe_biB (st.hK ▸ st.hw ▸ hc X st.calm st.units) (gloB_ok st hb.glo) (st.bis x hb.bis) hv (cs.2.2 X A C W cf st) (okName3 hb.name) (okName1 hb.name) (star_ok hp.1 es X.env) (star_any hp.2)⟩
def biT (x : Str) (p : Pos) (es : List Expr) (pos : Pos) (T : String) (b : Bi) (hb : BnOk (G := G) F x) (hv : bootBuiltins x = some (.type T)) (hc : ∀ X : Cx, X.calm = true → X.A.units + 100 < cLine → CallR X (.type T) (rDs X.K X.w (biF b))) : CE G F (.Call (.Name x p) es [] pos) := match es with
  | [] => none
  | a :: es => match cRs s F (a :: es) with
    | none => none
    | some cs => some ⟨.bi b cs.1, fun X A C W cf st => by
        have hp : (a :: es).all plain = true := cs.2.1
        simp only [List.all_cons, Bool.and_eq_true] at hp
        exact pe_biT (st.hK ▸ st.hw ▸ hc X st.calm st.units) (gloB_ok st hb.glo) (st.bis x hb.bis) hv (cs.2.2 X A C W cf st) (okName3 hb.name) (okName1 hb.name) (star_ok hp.1 es X.env) (star_any hp.2)⟩
/-! ### ranges -/
def RgOk (G : Gm) (F : Fm) (e : Expr) (ca cb : E) : Prop := plain e = true ∧ ∀ X A C W cf (f : D → D → Option R), Sit G F X A C W cf → PRg X e (tRg A C W (evE cf ca) (evE cf cb) f)
def isRange (x : Str) : Bool := sEq x "range"
def cRg (e : Expr) : Option {c : E × E // RgOk G F e c.1 c.2} := match e with
  | .Call (.Name x p) [a, b] [] pos => if h : isRange x = true ∧ okName x = true ∧ gloB F.sc x = true ∧ sMem x G.bis = true ∧ plain a = true ∧ plain b = true then (match s.cE F a, s.cE F b with
      | some ca, some cb => some ⟨(ca.1, cb.1), rfl, fun X A C W cf f st => by
          have hx : x = "range" := sEq_iff.mp h.1
          have hg := gloB_ok st h.2.2.1
          have hm := st.bis x (sMem_mem h.2.2.2.1)
          subst hx
          exact prg_2E hg hm (ca.2 X A C W cf st) (cb.2 X A C W cf st) (star_ok h.2.2.2.2.1 _ _) (star_ok h.2.2.2.2.2 _ _) (star_any (by simp [h.2.2.2.2.2]))⟩
      | _, _ => none) else none
  | .Call (.Name x p) [b] [] pos => if h : isRange x = true ∧ okName x = true ∧ gloB F.sc x = true ∧ sMem x G.bis = true ∧ plain b = true then (match s.cE F b with
      | some cb => some ⟨(.cst (.int 0), cb.1), rfl, fun X A C W cf f st => by
          have hx : x = "range" := sEq_iff.mp h.1
          have hg := gloB_ok st h.2.2.1
          have hm := st.bis x (sMem_mem h.2.2.2.1)
          subst hx
          exact prg_1E hg hm (cb.2 X A C W cf st) (star_ok h.2.2.2.2 _ _)⟩
      | _ => none) else none
  | _ => none
def cRgL (x : Str) (p : Pos) (e : Expr) (pos : Pos) (hb : BnOk (G := G) F x) : CE G F (.Call (.Name x p) [e] [] pos) :=
  if h : sEq x "list" = true then (match cRg s F e with
    | some c => some ⟨.rngL c.1.1 c.1.2, fun X A C W cf st => by
        have hx : x = "list" := sEq_iff.mp h
        have hg := gloB_ok st hb.glo
        have hm := st.bis x hb.bis
        subst hx
        exact pe_rngLE st.calm hg hm (c.2.2 X A C W cf _ st) (star_ok c.2.1 _ _)⟩
    | none => none)
  else if h : sEq x "tuple" = true then (match cRg s F e with
    | some c => some ⟨.rngT c.1.1 c.1.2, fun X A C W cf st => by
        have hx : x = "tuple" := sEq_iff.mp h
        have hg := gloB_ok st hb.glo
        have hm := st.bis x hb.bis
        subst hx
        exact pe_rngTE st.calm hg hm (c.2.2 X A C W cf _ st) (star_ok c.2.1 _ _)⟩
    | none => none)
  else none
/-! ### isinstance -/
def tyOf (x : Str) : Option Ty := if sEq x "int" then some .int else if sEq x "bool" then some .bool else if sEq x "str" then some .str else if sEq x "tuple" then some .tuple else if sEq x "list" then some .list else none
theorem tyOf_ok {x : Str} {t : Ty} (h : tyOf x = some t) : bootBuiltins x = some (.type (tyName t)) := by
  unfold tyOf at h
  split at h
  · rename_i q; cases h; rw [sEq_iff.mp q]; rfl
  · split at h
    · rename_i q; cases h; rw [sEq_iff.mp q]; rfl
    · split at h
      · rename_i q; cases h; rw [sEq_iff.mp q]; rfl
      · split at h
        · rename_i q; cases h; rw [sEq_iff.mp q]; rfl
        · split at h
          · rename_i q; cases h; rw [sEq_iff.mp q]; rfl
          · cases h
def cTy (e : Expr) : Option {t : Ty // plain e = true ∧ ∀ X A C W cf, Sit G F X A C W cf → PE X e (tC (.ty (tyName t)))} := match e with
  | .Name x p => if h : okName x = true ∧ gloB F.sc x = true ∧ sMem x G.bis = true then (match ht : tyOf x with
      | some t => some ⟨t, rfl, fun X A C W cf st => pe_bltn (gloB_ok st h.2.1) (st.bis x (sMem_mem h.2.2)) (tyOf_ok ht) rfl (okName3 h.1) (okName1 h.1)⟩
      | none => none) else none
  | _ => none
def cTys : (es : List Expr) → Option {ts : List Ty // es.all plain = true ∧ ∀ X A C W cf, Sit G F X A C W cf → PA X es (fun σ H Q => Q (ts.map fun t => V.ty (tyName t)) H)}
  | [] => some ⟨[], rfl, fun X A C W cf st => pa_nil⟩
  | e :: es => match cTy (G := G) F e, cTys es with
    | some t, some ts => some ⟨t.1 :: ts.1, by simp only [List.all_cons, t.2.1, ts.2.1]; rfl, fun X A C W cf st => PA.imp (pa_cons (t.2.2 X A C W cf st) (ts.2.2 X A C W cf st) (star_ok t.2.1 _ _)) fun σ H Q h => h⟩
    | _, _ => none
def cIsi (x : Str) (p : Pos) (a b : Expr) (pos : Pos) (hb : BnOk (G := G) F x) : CE G F (.Call (.Name x p) [a, b] [] pos) :=
  if h : sEq x "isinstance" = true ∧ plain a = true then match b with
    | .Tuple es k pt => (match s.cE F a, cTys (G := G) F es with
      | some ca, some ts => if hz : ts.1.length ≤ 1000 then some ⟨.isi ts.1 ca.1, fun X A C W cf st => by
          have hx : x = "isinstance" := sEq_iff.mp h.1
          have hg := gloB_ok st hb.glo
          have hm := st.bis x hb.bis
          subst hx
          exact pe_isLE st.hK st.hw hg hm (ca.2 X A C W cf st) (ts.2.2 X A C W cf st) (Nat.le_trans hz (by decide)) (star_ok h.2 _ _) (star_ok rfl _ _) (star_any rfl)⟩ else none
      | _, _ => none)
    | b => (match s.cE F a, cTy (G := G) F b with
      | some ca, some t => some ⟨.isi [t.1] ca.1, fun X A C W cf st => by
          have hx : x = "isinstance" := sEq_iff.mp h.1
          have hg := gloB_ok st hb.glo
          have hm := st.bis x hb.bis
          subst hx
          exact pe_is1E st.hK st.hw hg hm (ca.2 X A C W cf st) (t.2.2 X A C W cf st) (star_ok h.2 _ _) (star_ok t.2.1 _ _) (star_any (by simp [t.2.1]))⟩
      | _, _ => none)
  else none
/-- a built-in, called -/
def cBi (x : Str) (p : Pos) (es : List Expr) (pos : Pos) (hb : BnOk (G := G) F x) : CE G F (.Call (.Name x p) es [] pos) :=
  if h : sEq x "len" = true then biB s F x p es pos "len" .len hb (sEq_iff.mp h ▸ rfl) fun X _ _ => call_lenE
  else if h : sEq x "tuple" = true then (match biT s F x p es pos "tuple" .tuple hb (sEq_iff.mp h ▸ rfl) fun X _ _ => call_tupleE with
    | some c => some c
    | none => match es with
      | [e] => cRgL s F x p e pos hb
      | _ => none)
  else if h : sEq x "list" = true then (match biT s F x p es pos "list" .list hb (sEq_iff.mp h ▸ rfl) fun X hc _ => call_listE hc with
    | some c => some c
    | none => match es with
      | [e] => cRgL s F x p e pos hb
      | _ => none)
  else if h : sEq x "isinstance" = true then (match es with
    | [a, b] => cIsi s F x p a b pos hb
    | _ => none)
  else if h : sEq x "sorted" = true then biB s F x p es pos "sorted" .sorted hb (sEq_iff.mp h ▸ rfl) fun X hc hu => call_sortedE hc hu
  else if h : sEq x "sum" = true then biB s F x p es pos "sum" .sum hb (sEq_iff.mp h ▸ rfl) fun X hc hu => call_sumE hc
  else if h : sEq x "all" = true then biB s F x p es pos "all" .all hb (sEq_iff.mp h ▸ rfl) fun X hc hu => call_allE hc
  else if h : sEq x "any" = true then biB s F x p es pos "any" .any hb (sEq_iff.mp h ▸ rfl) fun X hc hu => call_anyE hc
  else if h : sEq x "abs" = true then biB s F x p es pos "abs" .abs hb (sEq_iff.mp h ▸ rfl) fun X hc hu => call_absE
  else if h : sEq x "int" = true then biT s F x p es pos "int" .int hb (sEq_iff.mp h ▸ rfl) fun X hc hu => call_intE
  else if h : sEq x "max" = true then (match es with
    | [a] => biB s F x p [a] pos "max" .max1 hb (sEq_iff.mp h ▸ rfl) fun X hc hu => call_max1E hc
    | es => biB s F x p es pos "max" .max2 hb (sEq_iff.mp h ▸ rfl) fun X hc hu => call_max2E hc)
  else if h : sEq x "min" = true then (match es with
    | [a] => biB s F x p [a] pos "min" .min1 hb (sEq_iff.mp h ▸ rfl) fun X hc hu => call_min1E hc
    | es => biB s F x p es pos "min" .min2 hb (sEq_iff.mp h ▸ rfl) fun X hc hu => call_min2E hc)
  else none
/-! ### methods -/
theorem few_ok {cpos : Pos} {env : Env} : ∀ {es : List Expr}, es.all plain = true → es.length < 30 → ((backTo cpos (starEach es env)).all (fun x => !x.1) && (backToKw cpos (keywordEach [] env)).all (fun x => x.1.isSome)
      && decide (es.length + ([] : List Keyword).length + (if ([] : List Keyword).isEmpty then 0 else 1) < 30)) = true := by
  intro es hp hl
  have h1 : ∀ {es : List Expr}, es.all plain = true → (backTo cpos (starEach es env)).all (fun x => !x.1) = true := by
    intro es
    induction es with
    | nil => intro _; rfl
    | cons e es ih =>
      intro h
      simp only [List.all_cons, Bool.and_eq_true] at h
      rw [star_ok h.1]
      show (true && (backTo cpos (starEach es env)).all (fun x => !x.1)) = true
      rw [ih h.2]; rfl
  rw [h1 hp]
  simp only [List.isEmpty_nil, if_true, List.length_nil, Nat.add_zero, Bool.true_and, Bool.and_eq_true, decide_eq_true_eq]
  exact ⟨rfl, hl⟩
def cMeth (o : Expr) (m : Str) (apos : Pos) (es : List Expr) (cpos : Pos) : CE G F (.Call (.Attribute o m apos) es [] cpos) := match o with
  | .Name y py => if hl : (apos.endLine == cpos.line) = true then
      if h : sEq m "append" = true then (match es with
        | [a] => if hp : plain a = true then (match cSlot (G := G) F (.Name y py), s.cE F a with
          | some i, some ca => some ⟨.app i.1 ca.1, fun X A C W cf st => by
              have hx : m = "append" := sEq_iff.mp h
              subst hx
              exact pe_appE st.hK (i.2 X A C W cf st) (pe_fz (ca.2 X A C W cf st)) rfl hl (star_ok hp _ _)⟩
          | _, _ => none) else none
        | _ => none)
      else if h : sEq m "extend" = true then (match es with
        | [a] => if hp : plain a = true then (match cSlot (G := G) F (.Name y py), s.cE F a with
          | some i, some ca => some ⟨.ext i.1 ca.1, fun X A C W cf st => by
              have hx : m = "extend" := sEq_iff.mp h
              subst hx
              exact pe_extE st.hK (i.2 X A C W cf st) (pe_fz (ca.2 X A C W cf st)) rfl hl (star_ok hp _ _)⟩
          | _, _ => none) else none
        | _ => none)
      else if h : sEq m "pop" = true then (match es with
        | [] => (match cSlot (G := G) F (.Name y py) with
          | some i => some ⟨.pop i.1, fun X A C W cf st => by
              have hx : m = "pop" := sEq_iff.mp h
              subst hx
              exact pe_popE st.hK (i.2 X A C W cf st) rfl hl⟩
          | _ => none)
        | [a] => if hp : plain a = true then (match cSlot (G := G) F (.Name y py), s.cE F a with
          | some i, some ca => some ⟨.popAt i.1 ca.1, fun X A C W cf st => by
              have hx : m = "pop" := sEq_iff.mp h
              subst hx
              exact pe_popAtE st.hK (i.2 X A C W cf st) (ca.2 X A C W cf st) rfl hl (star_ok hp _ _)⟩
          | _, _ => none) else none
        | _ => none)
      else if h : sEq m "index" = true then (match es with
        | a :: es => (match cName G F y py, cRs s F (a :: es) with
          | some co, some cs => if hn : (a :: es).length < 30 then some ⟨.mth .index co.1 cs.1, fun X A C W cf st => by
              have hx : m = "index" := sEq_iff.mp h
              subst hx
              have hp : (a :: es).all plain = true := cs.2.1
              have hp2 := hp
              simp only [List.all_cons, Bool.and_eq_true] at hp2
              exact pe_indexE st.hK st.hw st.units (co.2 X A C W cf st) (cs.2.2 X A C W cf st) rfl (few_ok hp hn) hl (star_ok hp2.1 _ _) (star_any hp2.2)⟩ else none
          | _, _ => none)
        | _ => none)
      else none
    else none
  | _ => none
def cCall (f : Expr) (es : List Expr) (ks : List Keyword) (pos : Pos) : CE G F (.Call f es ks pos) := match f, ks with
  | .Name x p, ks => if hn : okName x = true then if hg : gloB F.sc x = true then (match hf : lk x G.fns with
      | some fe => cDef s F x p fe hf hn hg es ks pos
      | none => match ks with
        | [] => if hb : sMem x G.bis = true then cBi s F x p es pos ⟨hn, hg, sMem_mem hb⟩ else none
        | _ => none) else none else none
  | .Attribute o m apos, [] => cMeth s F o m apos es pos
  | _, _ => none
end
end Ev
/-! text EvZC -/
set_option Elab.async false
set_option linter.all false
set_option maxRecDepth 100000
/-! Ev: from the program's tree to the core: walks, targets, comprehensions, tests. -/
namespace Ev
open PySem PySem.Spec PyProof.Rows L2
theorem asg_ok {e : Expr} (h : plain e = true) (es : List Expr) (env : Env) : assignEach (e :: es) env = (false, assign e env) :: assignEach es env := by
  cases e <;> first | rfl | cases h
theorem asg_len {env : Env} : ∀ {es : List Expr}, es.all plain = true → (assignEach es env).length = es.length ∧ (assignEach es env).findIdx? (·.1) = none
  | [], _ => ⟨rfl, rfl⟩
  | e :: es, h => by
    simp only [List.all_cons, Bool.and_eq_true] at h
    obtain ⟨h1, h2⟩ := asg_len (env := env) h.2
    rw [asg_ok h.1]
    refine ⟨by simp [h1], ?_⟩
    simp only [List.findIdx?_cons, h2]
    rfl
section
variable {G : Gm} (s : Stg G) (F : Fm)
/-! ### targets -/
def PgOk (G : Gm) (F : Fm) (b : Bool) (e : Expr) (t : Tg) : Prop := plain e = true ∧ ∀ X A C W cf, Sit G F X A C W cf → PG X e (gT A b t)
def storB (F : Fm) (x : Str) : Bool := match F.raw with
  | none => true
  | some r => (match lk x r.names with
    | some .cell => true
    | _ => false) || isLocB F.sc x
theorem storB_ok {F : Fm} {x : Str} (h : storB F x = true) {X : Cx} {A : Am} {C : Ecls} {W : WX} {cf : CallF} (st : Sit G F X A C W cf) : X.fn x = true ∨ X.env.scope.names.lookup x = some .local := by
  rw [st.fn, st.sc]
  unfold storB at h
  unfold Fm.fn
  cases q : F.raw with
  | none => exact .inl rfl
  | some r =>
    rw [q] at h
    simp only [Bool.or_eq_true] at h
    rcases h with h | h
    · rw [lk_eq] at h
      split at h
      · rename_i q2
        refine .inl ?_
        dsimp only
        rw [q2]; rfl
      · cases h
    · exact .inr (isLocB_ok h)
def cTgN (x : Str) (pos : Pos) : Option {i : Nat // PgOk G F false (.Name x pos) (.nm i)} :=
  if h : locB F.sc x = true ∧ storB F x = true then (match hi : ixOf x F.N with
    | some i => some ⟨i, rfl, fun X A C W cf st => pg_nameE st.nd (st.hN ▸ ixOf_get hi) (st.sc ▸ locB_ok h.1) (storB_ok h.2 st)⟩
    | none => none) else none
/-- targets within a tuple, up to two tuples deep -/
def PgsOk (G : Gm) (F : Fm) (es : List Expr) (ts : List Tg) : Prop := es.all plain = true ∧ ts.length = es.length ∧ ∀ X A C W cf, Sit G F X A C W cf → PGs X es (gTs A ts)
def cTgs (f : (e : Expr) → Option {t : Tg // PgOk G F false e t}) : (es : List Expr) → Option {ts : List Tg // PgsOk G F es ts}
  | [] => some ⟨[], rfl, rfl, fun X A C W cf st => pgs_nilE⟩
  | e :: es => match f e, cTgs f es with
    | some t, some ts => some ⟨t.1 :: ts.1, by simp only [List.all_cons, t.2.1, ts.2.1]; rfl, by simp [ts.2.2.1], fun X A C W cf st => pgs_consE (t.2.2 X A C W cf st) (ts.2.2.2 X A C W cf st) (by rw [asg_ok t.2.1]; rfl)⟩
    | _, _ => none
def cTgT (b : Bool) (f : (e : Expr) → Option {t : Tg // PgOk G F false e t}) (es : List Expr) (k : Nat) (pos : Pos) : Option {ts : List Tg // PgOk G F b (.Tuple es k pos) (.tp ts)} := match cTgs F f es with
  | some ts => some ⟨ts.1, rfl, fun X A C W cf st => pg_tpE st.hK st.calm (ts.2.2.2 X A C W cf st) ((asg_len ts.2.1).1.trans ts.2.2.1.symm) (asg_len ts.2.1).2⟩
  | none => none
def cTg0 (e : Expr) : Option {t : Tg // PgOk G F false e t} := match e with
  | .Name x pos => (cTgN (G := G) F x pos).map fun i => ⟨.nm i.1, i.2⟩
  | _ => none
def cTg1 (e : Expr) : Option {t : Tg // PgOk G F false e t} := match e with
  | .Name x pos => (cTgN (G := G) F x pos).map fun i => ⟨.nm i.1, i.2⟩
  | .Tuple es k pos => (cTgT (G := G) F false (cTg0 F) es k pos).map fun i => ⟨.tp i.1, i.2⟩
  | _ => none
def cTg (b : Bool) (e : Expr) : Option {t : Tg // PgOk G F b e t} := match b, e with
  | false, .Name x pos => (cTgN (G := G) F x pos).map fun i => ⟨.nm i.1, i.2⟩
  | b, .Tuple es k pos => (cTgT (G := G) F b (cTg1 F) es k pos).map fun i => ⟨.tp i.1, i.2⟩
  | _, _ => none
/-! ### walks -/
def IOk (G : Gm) (F : Fm) (tg e : Expr) (b : Bool) (c : It) : Prop := ∀ X A C W cf, Sit G F X A C W cf → PI X tg e (iE A C W b (evI cf c))
def isTupX : Expr → Bool
  | .Tuple .. => true
  | _ => false
abbrev CI (G : Gm) (F : Fm) (tg e : Expr) := Option {c : Bool × It // IOk G F tg e c.1 c.2}
def cSrc (tg e : Expr) : CI G F tg e := match s.cE F e with
  | some c => some ⟨(false, .src c.1), fun X A C W cf st => pi_srcE st.hK (pe_fz (c.2 X A C W cf st))⟩
  | none => none
def cI1 (tg : Expr) (x : Str) (p : Pos) (a : Expr) (pos : Pos) (hb : BnOk (G := G) F x) : CI G F tg (.Call (.Name x p) [a] [] pos) :=
  if hp : plain a = true then
    if h : sEq x "range" = true then (match s.cE F a with
      | some c => some ⟨(false, .rng1 c.1), fun X A C W cf st => by
          have hx : x = "range" := sEq_iff.mp h
          have hg := gloB_ok st hb.glo
          have hm := st.bis x hb.bis
          subst hx
          exact pi_rng1E hg hm (pa_consV (pe_fz (c.2 X A C W cf st)) pa_nilV (star_ok hp _ _)) (star_ok hp _ _)⟩
      | none => none)
    else if h : sEq x "enumerate" = true then (match tg with
      | .Tuple elts kk tpos => (match s.cE F a with
        | some c => some ⟨(true, .enum c.1), fun X A C W cf st => by
            have hx : x = "enumerate" := sEq_iff.mp h
            have hg := gloB_ok st hb.glo
            have hm := st.bis x hb.bis
            subst hx
            exact pi_enumE st.hK hg hm (pa_consV (pe_fz (c.2 X A C W cf st)) pa_nilV (star_ok hp _ _)) (star_ok hp _ _)⟩
        | none => none)
      | _ => none)
    else none
  else none
def cI2 (tg : Expr) (x : Str) (p : Pos) (a b : Expr) (pos : Pos) (hb : BnOk (G := G) F x) : CI G F tg (.Call (.Name x p) [a, b] [] pos) :=
  if hp : plain a = true ∧ plain b = true then
    if h : sEq x "range" = true then (match s.cE F a, s.cE F b with
      | some ca, some cb => some ⟨(false, .rng ca.1 cb.1), fun X A C W cf st => by
          have hx : x = "range" := sEq_iff.mp h
          have hg := gloB_ok st hb.glo
          have hm := st.bis x hb.bis
          subst hx
          have e2 : starEach [b] X.env = [(false, eval b X.env)] := star_ok hp.2 _ _
          exact pi_rng2E hg hm (pa_consV (pe_fz (ca.2 X A C W cf st)) (pa_consV (pe_fz (cb.2 X A C W cf st)) pa_nilV (star_ok hp.2 _ _)) (star_ok hp.1 _ _)) (by rw [star_ok hp.1, e2]) e2⟩
      | _, _ => none)
    else if h : sEq x "zip" = true then (match tg with
      | .Tuple elts kk tpos => (match s.cE F a, s.cE F b with
        | some ca, some cb => some ⟨(true, .zip2 ca.1 cb.1), fun X A C W cf st => by
            have hx : x = "zip" := sEq_iff.mp h
            have hg := gloB_ok st hb.glo
            have hm := st.bis x hb.bis
            subst hx
            exact pi_zip2E st.hK (RZ.pi_zipA hg hm (pa_consV (pe_fz (ca.2 X A C W cf st)) (pa_consV (pe_fz (cb.2 X A C W cf st)) pa_nilV (star_ok hp.2 _ _)) (star_ok hp.1 _ _)) (star_ok hp.1 _ _) (star_any (by simp [hp.2])))⟩
        | _, _ => none)
      | _ => none)
    else none
  else none
def cI (tg e : Expr) : CI G F tg e := match e with
  | .Call (.Name x p) [a] [] pos => if h : okName x = true ∧ gloB F.sc x = true ∧ sMem x G.bis = true ∧ (sEq x "range" || sEq x "enumerate") = true then cI1 s F tg x p a pos ⟨h.1, h.2.1, sMem_mem h.2.2.1⟩ else cSrc s F tg _
  | .Call (.Name x p) [a, b] [] pos => if h : okName x = true ∧ gloB F.sc x = true ∧ sMem x G.bis = true ∧ (sEq x "range" || sEq x "zip") = true then cI2 s F tg x p a b pos ⟨h.1, h.2.1, sMem_mem h.2.2.1⟩ else cSrc s F tg _
  | e => cSrc s F tg e
/-! ### comprehensions -/
def ownOf (N : List Str) : List (Str × NameKind) → List (Str × Nat)
  | [] => []
  | (n, .local) :: r => (match ixOf n N with
    | some i => (n, i) :: ownOf N r
    | none => ownOf N r)
  | (n, .cell) :: r => (match ixOf n N with
    | some i => (n, i) :: ownOf N r
    | none => ownOf N r)
  | _ :: r => ownOf N r
def CondOk (G : Gm) (F : Fm) (ifs : List Expr) (c : Option E) : Prop := ∀ X A C W cf, Sit G F X A C W cf → PTs X ifs (tT A C W (match c with
  | none => ret true
  | some q => bnd (evE cf q) truthM))
def cCond (ifs : List Expr) : Option {c : Option E // CondOk G F ifs c} := match ifs with
  | [] => some ⟨none, fun X A C W cf st => pts_noE⟩
  | [q] => (match s.cT F q with
    | some c => some ⟨some c.1, fun X A C W cf st => pts_one (c.2 X A C W cf st)⟩
    | none => none)
  | _ => none
/-- what a comprehension rests on -/
structure LcOk (G : Gm) (F : Fm) (elt tg iter : Expr) (ifs : List Expr) (scope : Scope) (ce : E) (t : Tg) (b : Bool) (it : It) (cond : Option E) (own : List (Str × Nat)) : Prop where
  hi : IOk G F tg iter b it
  ok : BlkOk F.N F.sc scope own
  hg : PgOk G (F.blk scope) b tg t
  ht : CondOk G (F.blk scope) ifs cond
  he : EOk G (F.blk scope) elt ce
  hs : notSet iter = true
  hw : ∀ i ∈ t.sl, i ∈ own.map (·.2)
structure LcC where
  ce : E
  t : Tg
  b : Bool
  it : It
  cond : Option E
  own : List (Str × Nat)
def cLcP (elt tg iter : Expr) (ifs : List Expr) (scope : Scope) : Option {c : LcC // LcOk G F elt tg iter ifs scope c.ce c.t c.b c.it c.cond c.own} := match cI s F tg iter with
  | none => none
  | some it => match cTg (F.blk scope) it.1.1 tg, cCond s (F.blk scope) ifs, s.cE (F.blk scope) elt with
    | some t, some cond, some ce => if h : blkC F.N F.sc scope (ownOf F.N scope.names) = true ∧ notSet iter = true ∧ (t.1.sl.all fun i => ((ownOf F.N scope.names).map (·.2)).contains i) = true then
        some ⟨⟨ce.1, t.1, it.1.1, it.1.2, cond.1, ownOf F.N scope.names⟩, it.2, blkOk_by h.1, t.2, cond.2, ce.2, h.2.1, fun i hi => by simpa using List.all_eq_true.mp h.2.2 i hi⟩
      else none
    | _, _, _ => none
def LcC.core (c : LcC) : E := .comp c.ce c.t c.it c.cond (c.own.map (·.2))
theorem LcOk.pe {G : Gm} {F : Fm} {elt tg iter : Expr} {ifs : List Expr} {scope : Scope} {pos : Pos} {c : LcC} (h : LcOk G F elt tg iter ifs scope c.ce c.t c.b c.it c.cond c.own) : EOk G F (.ListComp elt [⟨tg, iter, ifs, 0⟩] scope pos) c.core := fun X A C W cf st => by
  obtain ⟨ce, t, b, it, cond, own⟩ := c
  have key := pe_lcE (pos := pos) st.calm st.nd (h.hi X A C W cf st) (st.hN ▸ st.sc ▸ h.ok) (fun s0 H L cl fp => h.hg.2 _ A C WF cf (st.blk s0 H scope cl L fp)) (fun s0 H L cl fp => h.ht _ A C WF cf (st.blk s0 H scope cl L fp)) (fun s0 H L cl fp => pe_fz (h.he _ A C WF cf (st.blk s0 H scope cl L fp))) (fun x => set_ok h.hs _ _) h.hw
  cases cond <;> exact key
def cLc (elt : Expr) (gs : List Comprehension) (scope : Scope) (pos : Pos) : CE G F (.ListComp elt gs scope pos) := match gs with
  | [⟨tg, iter, ifs, 0⟩] => (match cLcP s F elt tg iter ifs scope with
    | some c => some ⟨c.1.core, c.2.pe⟩
    | none => none)
  | _ => none
/-! ### tests -/
def WOk (G : Gm) (F : Fm) (e : Expr) (c : E) : Prop := ∀ X A C W cf, Sit G F X A C W cf → PW X e (tT A C W (bnd (evE cf c) truthM))
def cAndW : (es : List Expr) → (pos : Pos) → Option {c : E // WOk G F (.BoolOp .And es pos) c}
  | [], _ => none
  | [a], pos => match s.cT F a with
    | some ca => some ⟨ca.1, fun X A C W cf st => pw_and1 (ca.2 X A C W cf st)⟩
    | none => none
  | a :: b :: rest, pos => match s.cT F a, cAndW (b :: rest) pos with
    | some ca, some cb => some ⟨.and ca.1 cb.1, fun X A C W cf st => pw_andE (ca.2 X A C W cf st) (cb.2 X A C W cf st)⟩
    | _, _ => none
def cOrW : (es : List Expr) → (pos : Pos) → Option {c : E // WOk G F (.BoolOp .Or es pos) c}
  | [], _ => none
  | [a], pos => match s.cT F a with
    | some ca => some ⟨ca.1, fun X A C W cf st => pw_or1 (ca.2 X A C W cf st)⟩
    | none => none
  | a :: b :: rest, pos => match s.cT F a, cOrW (b :: rest) pos with
    | some ca, some cb => some ⟨.or ca.1 cb.1, fun X A C W cf st => pw_orE (ca.2 X A C W cf st) (cb.2 X A C W cf st)⟩
    | _, _ => none
def cTest (e : Expr) : CT G F e := match e with
  | .UnaryOp .Not a pos => (match s.cT F a with
    | some c => some ⟨.not c.1, fun X A C W cf st => pt_notE (c.2 X A C W cf st)⟩
    | none => none)
  | .BoolOp .And es pos => (match cAndW s F es pos with
    | some c => some ⟨c.1, fun X A C W cf st => (c.2 X A C W cf st).pt⟩
    | none => none)
  | .BoolOp .Or es pos => (match cOrW s F es pos with
    | some c => some ⟨c.1, fun X A C W cf st => (c.2 X A C W cf st).pt⟩
    | none => none)
  | .Compare a ops cs pos => (match cCmp s F a ops cs pos with
    | some c => some ⟨c.1, c.2.2⟩
    | none => none)
  | e => if h : tstOk e = true then (match s.cE F e with
    | some c => some ⟨c.1, fun X A C W cf st => pt_ofE st.hK (c.2 X A C W cf st) fun whole => tst_ok h _ _⟩
    | none => none) else none
def cExpr (e : Expr) : CE G F e := match e with
  | .Name x pos => cName G F x pos
  | .Constant v k pos => cConst G F v k pos
  | .Tuple es k pos => cTup s F es k pos
  | .List es pos => cLst s F es pos
  | .Dict ks vs pos => cDic s F ks vs pos
  | .BinOp a op b pos => cBin s F a op b pos
  | .UnaryOp op a pos => cUn s F op a pos
  | .BoolOp op es pos => cBool s F op es pos
  | .IfExp q a b pos => cIf s F q a b pos
  | .Compare a ops cs pos => (match cCmp s F a ops cs pos with
    | some c => some ⟨c.1, c.2.1⟩
    | none => none)
  | .Subscript a b pos => cSub s F a b pos
  | .Call f es ks pos => cCall s F f es ks pos
  | .ListComp elt gs scope pos => cLc s F elt gs scope pos
  | _ => none
end
def step {G : Gm} (s : Stg G) : Stg G := ⟨fun F e => cExpr s F e, fun F e => cTest s F e⟩
def stg (G : Gm) : Nat → Stg G
  | 0 => ⟨fun _ _ => none, fun _ _ => none⟩
  | n + 1 => step (stg G n)
end Ev
/-! text EvZD -/
set_option Elab.async false
set_option linter.all false
set_option maxRecDepth 100000
/-! Ev: from the program's tree to the core: statements. -/
namespace Ev
open PySem PySem.Spec PyProof.Rows L2
/-- a body -/
structure SitS (G : Gm) (F : Fm) (X : Cx) (A : Am) (C : Ecls) (W : WX) (c : CallF) : Prop where
  st : Sit G F X A C W c
  own : PassesOwn (model X.prog X.w) X.A X.env X.xe
def SOk (G : Gm) (F : Fm) (t : Stmt) (c : S) : Prop := ∀ X A C W cf, SitS G F X A C W cf → PS X t (tS A C W (evS cf c))
def SsOk (G : Gm) (F : Fm) (t : List Stmt) (c : List S) : Prop := ∀ X A C W cf, SitS G F X A C W cf → PSs X t (tS A C W (evSs cf c))
abbrev CS (G : Gm) (F : Fm) (t : Stmt) := Option {c : S // SOk G F t c}
def fnKind (F : Fm) : Bool := match F.sc.kind with
  | .function => true
  | _ => false
theorem fnKind_ok {G : Gm} {F : Fm} {X : Cx} {A : Am} {C : Ecls} {W : WX} {cf : CallF} (st : Sit G F X A C W cf) (h : fnKind F = true) : X.env.blockKind = .function := by
  unfold Env.blockKind
  rw [st.sc]
  unfold fnKind at h
  split at h
  · rename_i q; rw [q]; rfl
  · cases h
/-! ### side conditions of assignments -/
def swB (sc : Scope) (t : Str) (tline vline : Nat) (scope : Scope) : Bool := isLocB sc t && Nat.beq tline vline && !(scope.names.any fun (n, k) => sEq n t && (k == .local || k == .cell))
theorem any_eq {t : Str} : ∀ {l : List (Str × NameKind)}, (l.any fun (n, k) => n == t && (k == .local || k == .cell)) = l.any fun (n, k) => sEq n t && (k == .local || k == .cell)
  | [] => rfl
  | (n, k) :: l => by
    have : (n == t) = sEq n t := by
      cases q : sEq n t with
      | true => rw [sEq_iff.mp q]; simp
      | false => simpa using sEq_ne q
    simp only [List.any_cons, this, any_eq (l := l)]
theorem swaps_lc {elt : Expr} {gs : List Comprehension} {scope : Scope} {pos tp : Pos} {t : Str} {line : Nat} {env : Env} (hk : env.blockKind = .function) : swapsWith (.ListComp elt gs scope pos) (some (.Name t tp)) line env = pure (swB env.scope t tp.line pos.line scope) := by
  show pure (env.blockKind == .function && env.kindOf t == some .local && tp.line == pos.line && !(scope.names.any fun (n, k) => n == t && (k == .local || k == .cell))) = _
  rw [any_eq, hk]
  congr 1
  unfold swB
  congr 1
  unfold isLocB
  rw [lk_eq]
  have h2 : (tp.line == pos.line) = Nat.beq tp.line pos.line := by
    cases q : Nat.beq tp.line pos.line with
    | true => rw [Nat.eq_of_beq_eq_true q]; simp
    | false => simpa using Nat.ne_of_beq_eq_false q
  rw [h2]
  unfold Env.kindOf
  cases env.scope.names.lookup t with
  | none => rfl
  | some k => cases k <;> rfl
theorem swapsSole_tup {es : List Expr} {k : Nat} {p : Pos} {e : Expr} {line : Nat} {env : Env} : swapsWithSole [.Tuple es k p] e line env = pure false := by
  cases e <;> rfl
theorem swapsSole_sub {a b : Expr} {p : Pos} {e : Expr} {line : Nat} {env : Env} : swapsWithSole [.Subscript a b p] e line env = pure false := by
  cases e <;> rfl
def notTup : Expr → Bool
  | .Tuple .. => false
  | _ => true
theorem swapped_val {es : List Expr} {k : Nat} {p : Pos} {e : Expr} {env : Env} (h : notTup e = true) : swappedStores [.Tuple es k p] e env = pure none := by
  cases e <;> first | rfl | cases h
theorem swapped_sub {a b : Expr} {p : Pos} {e : Expr} {env : Env} : swappedStores [.Subscript a b p] e env = pure none := by
  cases e <;> rfl
theorem sub_asg {o i : Expr} {pos : Pos} {env : Env} (h : plainIx i = true) : ∀ v, assign (.Subscript o i pos) env v = (do
      let ov ← holding [v] (eval o env)
      let iv ← holding [v, ov] (eval i env)
      standAt pos
      holding [v, ov, iv] (setItem ov iv v)
      release [v, ov, iv] []) := by
  intro v
  cases i <;> first | rfl | cases h
theorem sEq_ne' {a b : Str} (h : sEq a b = false) : (a == b) = false := by simpa using sEq_ne h
theorem swap2 {x y : Str} {a b : Expr} {px py pt pt2 : Pos} {kt k2 : Nat} {env : Env} (hk : env.blockKind = .function) (hx : env.scope.names.lookup x = some .local) (hy : env.scope.names.lookup y = some .local) (hl : Nat.beq py.line px.line = true) (hxy : sEq y x = false)
    (ha : plain a = true) (hb : plain b = true) (hf : [a, b].all (foldedForSure 8) = false) (hc : [a, b].all (constantsAlone 8) = false) :
    swappedStores [.Tuple [.Name x px, .Name y py] kt pt] (.Tuple [a, b] k2 pt2) env = pure (some [x, y]) := by
  have hl : py.line = px.line := Nat.eq_of_beq_eq_true hl
  have h1 : ∀ z : Expr, plain z = true → (match z with | .Starred .. => true | _ => false) = false := by
    intro z hz
    cases z <;> first | rfl | cases hz
  have hp : ([a, b].any fun | .Starred .. => true | _ => false) = false := by
    simp only [List.any_cons, h1 a ha, h1 b hb]; rfl
  unfold swappedStores
  dsimp only
  refine (if_neg (by simp [hk])).trans ?_
  refine (if_neg fun z => Bool.noConfusion (hp.symm.trans z)).trans ?_
  generalize hg : List.filterMap _ [Expr.Name x px, Expr.Name y py] = l
  have hl2 : l = [x, y] := by
    rw [← hg]
    simp [Env.kindOf, hx, hy, hl, Expr.pos]
  subst hl2
  have hd : [x, y].eraseDups = [x, y] := by
    simp [List.eraseDups_cons, sEq_ne' hxy]
  refine (if_neg (by rw [hd]; simp)).trans ?_
  refine (if_neg (by rw [hf]; simp)).trans ?_
  exact if_neg (by rw [hc]; simp)
theorem swap3 {x y z : Str} {a b c : Expr} {px py pz pt pt2 : Pos} {kt k2 : Nat} {env : Env} (hk : env.blockKind = .function) (hx : env.scope.names.lookup x = some .local) (hy : env.scope.names.lookup y = some .local) (hz : env.scope.names.lookup z = some .local) (hl : Nat.beq py.line px.line = true) (hl3 : Nat.beq pz.line px.line = true)
    (hxy : sEq y x = false) (hxz : sEq z x = false) (hyz : sEq z y = false) (ha : plain a = true) (hb : plain b = true) (hcp : plain c = true) (hf : [a, b, c].all (foldedForSure 8) = false) (hc : [a, b, c].all (constantsAlone 8) = false) :
    swappedStores [.Tuple [.Name x px, .Name y py, .Name z pz] kt pt] (.Tuple [a, b, c] k2 pt2) env = pure (some [x, y, z]) := by
  have hl : py.line = px.line := Nat.eq_of_beq_eq_true hl
  have hl3 : pz.line = px.line := Nat.eq_of_beq_eq_true hl3
  have h1 : ∀ z : Expr, plain z = true → (match z with | .Starred .. => true | _ => false) = false := by
    intro z hz
    cases z <;> first | rfl | cases hz
  have hp : ([a, b, c].any fun | .Starred .. => true | _ => false) = false := by
    simp only [List.any_cons, h1 a ha, h1 b hb, h1 c hcp]; rfl
  unfold swappedStores
  dsimp only
  refine (if_neg (by simp [hk])).trans ?_
  refine (if_neg fun z => Bool.noConfusion (hp.symm.trans z)).trans ?_
  generalize hg : List.filterMap _ [Expr.Name x px, Expr.Name y py, Expr.Name z pz] = l
  have hl2 : l = [x, y, z] := by
    rw [← hg]
    simp [Env.kindOf, hx, hy, hz, hl, hl3, Expr.pos]
  subst hl2
  have hd : [x, y, z].eraseDups = [x, y, z] := by
    simp [List.eraseDups_cons, sEq_ne' hxy, sEq_ne' hxz, sEq_ne' hyz]
  refine (if_neg (by rw [hd]; simp)).trans ?_
  refine (if_neg (by rw [hf]; simp)).trans ?_
  exact if_neg (by rw [hc]; simp)
/-- constants only: stored as a tuple -/
theorem swapF {ts vs : List Expr} {pt pt2 : Pos} {kt k2 : Nat} {env : Env} (hk : env.blockKind = .function) (hv : vs.all plain = true) (hf : vs.all (foldedForSure 8) = true) : swappedStores [.Tuple ts kt pt] (.Tuple vs k2 pt2) env = pure none := by
  have h1 : ∀ z : Expr, plain z = true → (match z with | .Starred .. => true | _ => false) = false := by
    intro z hz
    cases z <;> first | rfl | cases hz
  have hp : (vs.any fun | .Starred .. => true | _ => false) = false := by
    rw [List.any_eq_false]
    intro z hz
    rw [h1 z (List.all_eq_true.mp hv z hz)]
    simp
  unfold swappedStores
  dsimp only
  by_cases q : (!(ts.length == 2 || ts.length == 3) || vs.length != ts.length || env.blockKind != .function) = true
  · exact if_pos q
  · refine (if_neg q).trans ?_
    refine (if_neg fun z => Bool.noConfusion (hp.symm.trans z)).trans ?_
    generalize hg : List.filterMap _ ts = l
    by_cases q2 : (l.length != ts.length || l.eraseDups.length != l.length) = true
    · exact if_pos q2
    · refine (if_neg q2).trans ?_
      exact if_pos hf
/-- longer ones -/
theorem swapL {ts vs : List Expr} {pt pt2 : Pos} {kt k2 : Nat} {env : Env} (h : 3 < ts.length) : swappedStores [.Tuple ts kt pt] (.Tuple vs k2 pt2) env = pure none := by
  unfold swappedStores
  dsimp only
  refine if_pos ?_
  have h2 : (ts.length == 2) = false := by simp; omega
  have h3 : (ts.length == 3) = false := by simp; omega
  rw [h2, h3]; rfl
theorem fm_lt {α β : Type} {f : α → Option β} : ∀ {l : List α}, (∃ a, a ∈ l ∧ f a = none) → (l.filterMap f).length < l.length
  | [], ⟨a, h, _⟩ => by cases h
  | x :: l, ⟨a, h, ha⟩ => by
    rw [List.filterMap_cons]
    cases q : f x with
    | none =>
      have := List.length_filterMap_le f l
      simp only [List.length_cons]
      omega
    | some y =>
      simp only [List.length_cons]
      rcases List.mem_cons.mp h with e | h
      · subst e; rw [ha] at q; cases q
      · have := fm_lt ⟨a, h, ha⟩
        omega
/-- a name that is no plain local: stored as a tuple -/
theorem swapN {ts vs : List Expr} {pt pt2 : Pos} {kt k2 : Nat} {env : Env} {x : Str} {px : Pos} (hk : env.blockKind = .function) (hv : vs.all plain = true) (hm : Expr.Name x px ∈ ts) (hx : isLocB env.scope x = false) : swappedStores [.Tuple ts kt pt] (.Tuple vs k2 pt2) env = pure none := by
  have h1 : ∀ z : Expr, plain z = true → (match z with | .Starred .. => true | _ => false) = false := by
    intro z hz
    cases z <;> first | rfl | cases hz
  have hp : (vs.any fun | .Starred .. => true | _ => false) = false := by
    rw [List.any_eq_false]
    intro z hz
    rw [h1 z (List.all_eq_true.mp hv z hz)]
    simp
  have hkx : (env.kindOf x == some .local) = false := by
    unfold isLocB at hx
    rw [lk_eq] at hx
    unfold Env.kindOf
    cases q : env.scope.names.lookup x with
    | none => rfl
    | some k => rw [q] at hx; cases k <;> first | rfl | cases hx
  unfold swappedStores
  dsimp only
  by_cases q : (!(ts.length == 2 || ts.length == 3) || vs.length != ts.length || env.blockKind != .function) = true
  · exact if_pos q
  · refine (if_neg q).trans ?_
    refine (if_neg fun z => Bool.noConfusion (hp.symm.trans z)).trans ?_
    generalize hg : List.filterMap _ ts = l
    have hlt : l.length < ts.length := by
      rw [← hg]
      exact fm_lt ⟨_, hm, by simp [hkx]⟩
    refine if_pos ?_
    have : (l.length != ts.length) = true := by simp; omega
    rw [this]; rfl
end Ev
/-! text EvZE -/
set_option Elab.async false
set_option linter.all false
set_option maxRecDepth 100000
/-! Ev: from the program's tree to the core: statements. -/
namespace Ev
open PySem PySem.Spec PyProof.Rows L2
section
variable {G : Gm} (s : Stg G) (F : Fm)
/-- name = value -/
def cSetN (x : Str) (px : Pos) (e : Expr) (pos : Pos) : CS G F (.Assign [.Name x px] e pos) :=
  if h : locB F.sc x = true ∧ storB F x = true ∧ fnKind F = true then match hi : ixOf x F.N with
    | none => none
    | some i => match e with
      | .ListComp elt gs scope lp => if hsw : swB F.sc x px.line lp.line scope = true then (match gs with
          | [⟨tg, iter, ifs, 0⟩] => if hloc : isLocB F.sc x = true then (match cLcP s F elt tg iter ifs scope with
            | none => none
            | some c => some ⟨.asg (.nm i) c.1.core, fun X A C W cf st => by
                have hc := c.2
                obtain ⟨⟨ce, t, b, it, cond, own⟩, _⟩ := c
                have hsw' : swapsWith (.ListComp elt [⟨tg, iter, ifs, 0⟩] scope lp) (some (.Name x px)) pos.line X.env = pure true := by
                  rw [swaps_lc (fnKind_ok st.st h.2.2), st.st.sc, hsw]
                have key := ps_setLc (py := px) (spos := pos) (pos := lp) st.st.calm st.st.nd (st.st.hN ▸ ixOf_get hi) (st.st.sc ▸ isLocB_ok hloc) hsw' (hc.hi X A C W cf st.st) (st.st.hN ▸ st.st.sc ▸ hc.ok) (fun s0 H L cl fp => hc.hg.2 _ A C WF cf (st.st.blk s0 H scope cl L fp)) (fun s0 H L cl fp => hc.ht _ A C WF cf (st.st.blk s0 H scope cl L fp)) (fun s0 H L cl fp => pe_fz (hc.he _ A C WF cf (st.st.blk s0 H scope cl L fp))) (fun x => set_ok hc.hs _ _)
                cases cond <;> exact ps_setE (PS.imp key fun D σ H h => lc_imp hc.hw σ H _ h)⟩) else none
          | _ => none)
        else (match cLc s F elt gs scope lp with
          | none => none
          | some c => some ⟨.asg (.nm i) c.1, fun X A C W cf st => by
              have hsw' : swapsWith (.ListComp elt gs scope lp) (some (.Name x px)) pos.line X.env = pure false := by
                rw [swaps_lc (fnKind_ok st.st h.2.2), st.st.sc]
                cases q : swB F.sc x px.line lp.line scope with
                | true => exact absurd q hsw
                | false => rfl
              exact ps_setE (ps_set st.st.nd (st.st.hN ▸ ixOf_get hi) (st.st.sc ▸ locB_ok h.1) (c.2 X A C W cf st.st) hsw' (storB_ok h.2.1 st.st))⟩)
      | e => if hl : notLc e = true then (match s.cE F e with
          | none => none
          | some c => some ⟨.asg (.nm i) c.1, fun X A C W cf st => ps_setE (ps_set st.st.nd (st.st.hN ▸ ixOf_get hi) (st.st.sc ▸ locB_ok h.1) (c.2 X A C W cf st.st) (swap_ok hl _ _ _) (storB_ok h.2.1 st.st))⟩)
        else none
  else none

/-! ### parallel assignment -/
def nameIx (e : Expr) : Option {p : Str × Pos × Nat // e = .Name p.1 p.2.1 ∧ F.N[p.2.2]? = some p.1 ∧ L2.Loc F.sc p.1 ∧ storB F p.1 = true} := match e with
  | .Name x px => if h : locB F.sc x = true ∧ storB F x = true then (match hi : ixOf x F.N with
    | some i => some ⟨(x, px, i), rfl, ixOf_get hi, locB_ok h.1, h.2⟩
    | none => none) else none
  | _ => none
/-- plain names, all told -/
def PnOk (F : Fm) (es : List Expr) (ps : List (Str × Pos)) (is : List Nat) : Prop := es = ps.map (fun p => .Name p.1 p.2) ∧ ps.length = is.length ∧ ∀ (j : Nat) (x : Str × Pos) (i : Nat), ps[j]? = some x → is[j]? = some i → F.N[i]? = some x.1 ∧ L2.Loc F.sc x.1 ∧ storB F x.1 = true
def cPns : (es : List Expr) → Option {p : List (Str × Pos) × List Nat // PnOk F es p.1 p.2}
  | [] => some ⟨([], []), rfl, rfl, fun j x i h => by simp at h⟩
  | e :: es => match nameIx F e, cPns es with
    | some p, some ps => some ⟨((p.1.1, p.1.2.1) :: ps.1.1, p.1.2.2 :: ps.1.2), congr (congrArg List.cons p.2.1) ps.2.1, by simp [ps.2.2.1], fun j x i h1 h2 => by
        cases j with
        | zero => simp at h1 h2; subst h1; subst h2; exact p.2.2
        | succ j => exact ps.2.2.2 j x i (by simpa using h1) (by simpa using h2)⟩
    | _, _ => none
theorem plain_names : ∀ {ps : List (Str × Pos)}, (ps.map (fun p => Expr.Name p.1 p.2)).all plain = true
  | [] => rfl
  | p :: ps => by simp only [List.map_cons, List.all_cons, plain_names (ps := ps)]; rfl
/-- stored as a tuple -/
def cParT (ts : List Expr) (kt : Nat) (pt : Pos) (vs : List Expr) (k2 : Nat) (pt2 pos : Pos) (hw : ∀ env : Env, env.blockKind = .function → env.scope = F.sc → swappedStores [.Tuple ts kt pt] (.Tuple vs k2 pt2) env = pure none) : CS G F (.Assign [.Tuple ts kt pt] (.Tuple vs k2 pt2) pos) := match cPns F ts, cRs s F vs with
  | some ps, some cs => if h : fnKind F = true ∧ ps.1.2.length ≤ 1000 then some ⟨.pars ps.1.2 cs.1, fun X A C W cf st => by
      obtain ⟨⟨pn, is⟩, hts, hlen, hix⟩ := ps
      subst hts
      have hpl : (pn.map (fun p => Expr.Name p.1 p.2)).all plain = true := plain_names
      have hg : PGs X (pn.map (fun p => Expr.Name p.1 p.2)) (gNames is) := pgs_names st.st.nd hlen fun j x i h1 h2 => by
          obtain ⟨g1, g2, g3⟩ := hix j x i h1 h2
          exact ⟨st.st.hN ▸ g1, st.st.sc ▸ g2, storB_ok g3 st.st⟩
      have hl2 : (assignEach (pn.map (fun p => Expr.Name p.1 p.2)) X.env).length = is.length := by rw [(asg_len hpl).1, List.length_map, hlen]
      refine ps_parTE st.st.hK (ps_asg (pe_tupX (cs.2.2 X A C W cf st.st)) (pg_tup st.st.calm hg hl2 (asg_len hpl).2) swapsSole_tup (hw _ (fnKind_ok st.st h.1) st.st.sc) rfl) (Nat.le_trans h.2 (by decide))⟩ else none
  | _, _ => none
def cPar2 (x y : Str) (px py : Pos) (kt : Nat) (pt : Pos) (a b : Expr) (k2 : Nat) (pt2 pos : Pos) : CS G F (.Assign [.Tuple [.Name x px, .Name y py] kt pt] (.Tuple [a, b] k2 pt2) pos) :=
  if h : fnKind F = true ∧ isLocB F.sc x = true ∧ isLocB F.sc y = true ∧ Nat.beq py.line px.line = true ∧ sEq y x = false ∧ plain a = true ∧ plain b = true then
    if hf : [a, b].all (foldedForSure 8) = true then cParT s F _ kt pt _ k2 pt2 pos fun env hk _ => swapF hk (by simp [h.2.2.2.2.2.1, h.2.2.2.2.2.2]) hf
    else if hc : [a, b].all (constantsAlone 8) = false then match hi : ixOf x F.N, hj : ixOf y F.N, cRs s F [a, b] with
      | some i, some j, some cs => if hij : i ≠ j then some ⟨.pars [i, j] cs.1, fun X A C W cf st => by
          have lx : X.env.scope.names.lookup x = some .local := st.st.sc ▸ isLocB_ok h.2.1
          have ly : X.env.scope.names.lookup y = some .local := st.st.sc ▸ isLocB_ok h.2.2.1
          exact ps_par2E (ps_par st.st.calm st.st.nd (st.st.hN ▸ ixOf_get hi) (st.st.hN ▸ ixOf_get hj) hij lx ly (cs.2.2 X A C W cf st.st)
            (swap2 (fnKind_ok st.st h.1) lx ly h.2.2.2.1 h.2.2.2.2.1 h.2.2.2.2.2.1 h.2.2.2.2.2.2 (by simpa using hf) hc) swapsSole_tup)⟩ else none
      | _, _, _ => none
    else none
  else if h2 : plain a = true ∧ plain b = true ∧ isLocB F.sc x = false then cParT s F _ kt pt _ k2 pt2 pos fun env hk hsc => swapN (x := x) (px := px) hk (by simp [h2.1, h2.2.1]) (by simp) (hsc ▸ h2.2.2)
  else if h2 : plain a = true ∧ plain b = true ∧ isLocB F.sc y = false then cParT s F _ kt pt _ k2 pt2 pos fun env hk hsc => swapN (x := y) (px := py) hk (by simp [h2.1, h2.2.1]) (by simp) (hsc ▸ h2.2.2)
  else none
def cPar3 (x y z : Str) (px py pz : Pos) (kt : Nat) (pt : Pos) (a b c : Expr) (k2 : Nat) (pt2 pos : Pos) : CS G F (.Assign [.Tuple [.Name x px, .Name y py, .Name z pz] kt pt] (.Tuple [a, b, c] k2 pt2) pos) :=
  if h : fnKind F = true ∧ isLocB F.sc x = true ∧ isLocB F.sc y = true ∧ isLocB F.sc z = true ∧ (Nat.beq py.line px.line && Nat.beq pz.line px.line) = true ∧ (sEq y x || sEq z x || sEq z y) = false ∧ plain a = true ∧ plain b = true ∧ plain c = true then
    if hf : [a, b, c].all (foldedForSure 8) = true then cParT s F _ kt pt _ k2 pt2 pos fun env hk _ => swapF hk (by simp [h.2.2.2.2.2.2.1, h.2.2.2.2.2.2.2.1, h.2.2.2.2.2.2.2.2]) hf
    else if hc : [a, b, c].all (constantsAlone 8) = false then match hi : ixOf x F.N, hj : ixOf y F.N, hl : ixOf z F.N, cRs s F [a, b, c] with
      | some i, some j, some l, some cs => if hij : i ≠ j ∧ i ≠ l ∧ j ≠ l then some ⟨.pars [i, j, l] cs.1, fun X A C W cf st => by
          have lx : X.env.scope.names.lookup x = some .local := st.st.sc ▸ isLocB_ok h.2.1
          have ly : X.env.scope.names.lookup y = some .local := st.st.sc ▸ isLocB_ok h.2.2.1
          have lz : X.env.scope.names.lookup z = some .local := st.st.sc ▸ isLocB_ok h.2.2.2.1
          have hln := h.2.2.2.2.1
          have hne := h.2.2.2.2.2.1
          simp only [Bool.and_eq_true] at hln
          simp only [Bool.or_eq_false_iff] at hne
          exact ps_par3E (ps_par3 st.st.calm st.st.nd (st.st.hN ▸ ixOf_get hi) (st.st.hN ▸ ixOf_get hj) (st.st.hN ▸ ixOf_get hl) hij.1 hij.2.1 hij.2.2 lx ly lz (cs.2.2 X A C W cf st.st)
            (swap3 (fnKind_ok st.st h.1) lx ly lz hln.1 hln.2 hne.1.1 hne.1.2 hne.2 h.2.2.2.2.2.2.1 h.2.2.2.2.2.2.2.1 h.2.2.2.2.2.2.2.2 (by simpa using hf) hc) swapsSole_tup)⟩ else none
      | _, _, _, _ => none
    else none
  else if h2 : plain a = true ∧ plain b = true ∧ plain c = true ∧ isLocB F.sc x = false then cParT s F _ kt pt _ k2 pt2 pos fun env hk hsc => swapN (x := x) (px := px) hk (by simp [h2.1, h2.2.1, h2.2.2.1]) (by simp) (hsc ▸ h2.2.2.2)
  else if h2 : plain a = true ∧ plain b = true ∧ plain c = true ∧ isLocB F.sc y = false then cParT s F _ kt pt _ k2 pt2 pos fun env hk hsc => swapN (x := y) (px := py) hk (by simp [h2.1, h2.2.1, h2.2.2.1]) (by simp) (hsc ▸ h2.2.2.2)
  else if h2 : plain a = true ∧ plain b = true ∧ plain c = true ∧ isLocB F.sc z = false then cParT s F _ kt pt _ k2 pt2 pos fun env hk hsc => swapN (x := z) (px := pz) hk (by simp [h2.1, h2.2.1, h2.2.2.1]) (by simp) (hsc ▸ h2.2.2.2)
  else none
/-- (..) = value -/
def cSetT (es : List Expr) (kt : Nat) (pt : Pos) (e : Expr) (pos : Pos) : CS G F (.Assign [.Tuple es kt pt] e pos) :=
  if h : notTup e = true then match cTgs F (cTg1 (G := G) F) es, s.cE F e with
    | some ts, some c => some ⟨.asg (.tp ts.1) c.1, fun X A C W cf st => ps_tpE (ps_asg (c.2 X A C W cf st.st) (pg_tpW st.st.hK st.st.calm (ts.2.2.2 X A C W cf st.st) ((asg_len ts.2.1).1.trans ts.2.2.1.symm) (asg_len ts.2.1).2) swapsSole_tup (swapped_val h) rfl)⟩
    | _, _ => none
  else none
/-- o[k] = value -/
def cSetI (o k : Expr) (ps : Pos) (e : Expr) (pos : Pos) : CS G F (.Assign [.Subscript o k ps] e pos) :=
  if h : plainIx k = true then match cSlot (G := G) F o, s.cE F k, s.cE F e with
    | some i, some ck, some c => some ⟨.setI i.1 ck.1 c.1, fun X A C W cf st => ps_setIE (ps_asg (pe_fz (c.2 X A C W cf st.st)) (pg_sub (i.2 X A C W cf st.st) (pe_fz (ck.2 X A C W cf st.st)) (st.st.hK ▸ st.st.hw ▸ set_E st.st.units) (sub_asg h)) swapsSole_sub swapped_sub rfl)⟩
    | _, _, _ => none
  else none
def cAsg (ts : List Expr) (e : Expr) (pos : Pos) : CS G F (.Assign ts e pos) := match ts with
  | [.Name x px] => cSetN s F x px e pos
  | [.Tuple [.Name x px, .Name y py] kt pt] => (match e with
    | .Tuple [a, b] k2 pt2 => cPar2 s F x y px py kt pt a b k2 pt2 pos
    | e => cSetT s F _ kt pt e pos)
  | [.Tuple [.Name x px, .Name y py, .Name z pz] kt pt] => (match e with
    | .Tuple [a, b, c] k2 pt2 => cPar3 s F x y z px py pz kt pt a b c k2 pt2 pos
    | e => cSetT s F _ kt pt e pos)
  | [.Tuple ts kt pt] => (match e with
    | .Tuple vs k2 pt2 => if h : 3 < ts.length then cParT s F ts kt pt vs k2 pt2 pos fun env _ _ => swapL h else none
    | e => cSetT s F _ kt pt e pos)
  | [.Subscript o k ps] => cSetI s F o k ps e pos
  | _ => none
/-! ### the others -/
def never : S := .ex (.neg (.cst .none))
theorem never_bad {cf : CallF} {e : VEnv} : evS cf never e = .bad := rfl
def cNever (t : Stmt) : CS G F t := some ⟨never, fun X A C W cf st => PS.imp (t := tNever) ps_never fun D σ H ⟨S, e, R, h⟩ => by
  rw [never_bad] at h
  exact h⟩
structure SStg (G : Gm) where
  cS : (F : Fm) → (t : Stmt) → CS G F t
variable (r : SStg G)
def cSs : (ts : List Stmt) → Option {cs : List S // SsOk G F ts cs}
  | [] => some ⟨[], fun X A C W cf st => pss_nilE⟩
  | t :: ts => match r.cS F t, cSs ts with
    | some c, some cs => some ⟨c.1 :: cs.1, fun X A C W cf st => pss_consE (c.2 X A C W cf st) (cs.2 X A C W cf st)⟩
    | _, _ => none
def cStmt (t : Stmt) : CS G F t := match t with
  | .Assign ts e pos => cAsg s F ts e pos
  | .AugAssign (.Name x px) .Add e pos => if h : locB F.sc x = true ∧ storB F x = true then (match hi : ixOf x F.N, s.cE F e with
    | some i, some c => some ⟨.aug i c.1, fun X A C W cf st => ps_augE (ps_aug st.st.nd (st.st.hN ▸ ixOf_get hi) (st.st.sc ▸ locB_ok h.1) (c.2 X A C W cf st.st) ip_add (storB_ok h.2 st.st))⟩
    | _, _ => none) else none
  | .Expr (.Constant (.str x) k p) pos => some ⟨.pass, fun X A C W cf st => ps_docE (j := none) (k := k) (pos' := pos) ps_doc⟩
  | .Expr e pos => if h : notLc e = true then (match s.cE F e with
    | some c => some ⟨.ex c.1, fun X A C W cf st => ps_exE (c.2 X A C W cf st.st) (swap_ok h _ _ _)⟩
    | none => none) else none
  | .If q a b pos => (match s.cT F q, cSs F r a, cSs F r b with
    | some cq, some ca, some cb => some ⟨.ite cq.1 ca.1 cb.1, fun X A C W cf st => ps_ifE (cq.2 X A C W cf st.st) (ca.2 X A C W cf st) (cb.2 X A C W cf st)⟩
    | _, _, _ => none)
  | .For tg e b [] pos => if h : notSet e = true then (match cI s F tg e with
    | some it => (match cTg (G := G) F it.1.1 tg, cSs F r b with
      | some t, some cb => some ⟨.forr t.1 it.1.2 cb.1, fun X A C W cf st => ps_forE st.own st.st.calm (it.2 X A C W cf st.st) (t.2.2 X A C W cf st.st) (cb.2 X A C W cf st) (fun x => set_ok h _ _)⟩
      | _, _ => none)
    | none => none) else none
  | .While q b [] pos => (match s.cT F q, cSs F r b with
    | some cq, some cb => some ⟨.whl cq.1 cb.1, fun X A C W cf st => ps_whileE st.own (cq.2 X A C W cf st.st) (cb.2 X A C W cf st)⟩
    | _, _ => none)
  | .Return none pos => some ⟨.retN, fun X A C W cf st => ps_retNE⟩
  | .Return (some e) pos => (match s.cE F e with
    | some c => some ⟨.ret c.1, fun X A C W cf st => ps_retE (c.2 X A C W cf st.st)⟩
    | none => none)
  | .Pass pos => some ⟨.pass, fun X A C W cf st => ps_passE⟩
  | .Break pos => some ⟨.brk, fun X A C W cf st => ps_brkE⟩
  | .Continue pos => some ⟨.cont, fun X A C W cf st => ps_contE⟩
  | .Raise a b pos => cNever F _
  | _ => none
end
def sstg (G : Gm) : Nat → SStg G
  | 0 => ⟨fun _ _ => none⟩
  | n + 1 => ⟨fun F t => cStmt (stg G 30) F (sstg G n) t⟩
/-- a def's body -/
def cBody (G : Gm) (F : Fm) (b : List Stmt) : Option {cs : List S // SsOk G F b cs} := cSs F (sstg G 30) b
end Ev
/-! text EvZF -/
set_option Elab.async false
set_option linter.all false
set_option maxRecDepth 100000
/-! Ev: all defs of a law keep their promises, at every depth. -/
namespace Ev
open PySem PySem.Spec PyProof.Rows L2
/-- what the head tells of a def, and its core -/
structure FnFact (K : PySem.W.Frag) (mg : Str → Option Value) (G : Gm) (T : Nat → Option FnDef) (x : Str) (fe : Fe) : Prop where
  ex : ∃ (qual : Str) (params : Arguments) (body : List Stmt) (scope : Scope) (dvs : List V) (kws : List (Str × V)) (f : Addr) (fd : FuncData) (N : List Str) (d : FnDef), FunD K x qual params body scope dvs kws f fd ∧ mg x = some (.ref f) ∧ FnScope N fe.ps scope ∧
    T fe.i = some d ∧ d.np = fe.ps.length ∧ d.n = N.length ∧ d.io = fe.io ∧ SsOk G ⟨N, scope, none⟩ body d.body ∧
    (fe.dfl = [] → Binds K fd fe.ps []) ∧ (fe.dfl = [] → ∀ (s : Shared) (ws : List Value), ws.length = fe.ps.length → BindsTo s fd ⟨[], fe.ps.zip ws⟩ (fe.ps.zip ws)) ∧
    (∀ j, 0 < fe.dfl.length → j ≤ fe.dfl.length → ∃ ds, Vals ((fe.dfl.drop j).map V.int) ds ∧ Binds K fd fe.ps ds)
section
variable {P : Program} {w : World} {K : PySem.W.Frag} {mg : Str → Option Value} {base : Heap} {G : Gm} {T : Nat → Option FnDef} {C : Ecls}
theorem fn_step (hall : ∀ x fe, lk x G.fns = some fe → FnFact K mg G T x fe) (hc : ∀ x n, lk x G.cons = some n → ∃ u, mg x = some u ∧ RelV (.int n) u) (hb : ∀ x, x ∈ G.bis → mg x = none) :
    ∀ (k : Nat) (x : Str) (fe : Fe), lk x G.fns = some fe → CallOk P w K mg base C k (run T k) x fe.i fe.ps fe.io fe.dfl
  | 0, x, fe, h => by
    obtain ⟨qual, params, body, scope, dvs, kws, f, fd, N, d, F, hm, Sc, hT, hnp, hn, hio, hs, b1, b2, b3⟩ := (hall x fe h).ex
    exact ⟨f, fd, fn_ok0, hm, F.kp, b1, b2, b3⟩
  | k + 1, x, fe, h => by
    obtain ⟨qual, params, body, scope, dvs, kws, f, fd, N, d, F, hm, Sc, hT, hnp, hn, hio, hs, b1, b2, b3⟩ := (hall x fe h).ex
    have ok := fn_okE (P := P) (w := w) (mg := mg) (base := base) (C := C) (T := T) (k := k) F Sc hT hnp hn fun cdv A0 outer s H E A hr hK hw => by
      refine hs _ A C _ (run T k) ⟨⟨⟨k, hr, fun x f hf => fn_step hall hc hb k x f hf⟩, rfl, Sc.nd, hK.symm, hw.symm, rfl, rfl, rfl, ?_, hc, hb⟩, ?_⟩
      · exact takes_of rfl rfl rfl rfl
      · exact passes_of rfl
    rw [hnp, hio] at ok
    exact ⟨f, fd, ok, hm, F.kp, b1, b2, b3⟩
end
theorem ssOk_of {G : Gm} {F : Fm} {b : List Stmt} {c : List S} (h : (cBody G F b).map (·.1) = some c) : SsOk G F b c := by
  cases q : cBody G F b with
  | none => rw [q] at h; cases h
  | some r => rw [q] at h; cases h; exact r.2
end Ev
namespace L2
open PySem PySem.Spec PyProof.Rows
theorem walk_ofEB {l : PySem.W.OpenLaw} {n k : Nat} {q : Program} {loose : List Str} {XP : (Str → Option Value) → Heap → Prop} {YP : World → Heap → Prop} {d : DefRec} {CX : World → CXT} {x : Str}
    (hn : l.most = some n) (hn2 : n ≤ sizeLine) (hdf : d.params.defaults = []) (hr : Room k callerA)
    (F : ∀ (w : World) (mg : Str → Option Value) (fa : Addr) (h : Heap), YP w h → h.Ns mainGlobals mg → mg d.name = some (.ref fa) →
      ∃ (K : PySem.W.Frag) (fd : FuncData) (sp : Sp), K.In h ∧ (∀ (s : Shared) (u : Value), BindsTo s fd ⟨[u], []⟩ [(x, u)]) ∧
        (∀ (H : Hp) (a : Addr) (ns : List Int), ns.length ≤ n → (∀ z ∈ ns, Builtin.Int.intBits z ≤ 1048576) → Only H → Ev.RdL K H a (ns.map V.int) → sp [.ref a] H (fun v _ => v = .bl true) fun _ _ _ => False) ∧
        ∀ base : Heap, K.In base → base.Ns mainGlobals mg → FnOk l.prog w K mg base (CX w) k fa fd [x] sp)
    (hCX : ∀ (w : World) (H : Hp) (s : Shared) (e : Value) (s' : Shared), CX w [] H s (fun _ _ _ => False) e s' → False) :
    PySem.W.WalkO q loose XP YP l.row.toRowW d [] (fun f vs => PySem.call f vs) := by
  refine Att.attach_callB hn hdf fun w s₀ s₁ mg mb fa o pm cd doc a vs ns G Y ho hd hcd hmg hobj hints hlen hbits hg => ?_
  obtain ⟨K, fd, sp, KX, hb, hsp, hF⟩ := F w mg fa _ Y G.T.g hmg
  refine law_call KX G.T.g G.T.b G.T.builtins G.T.nolimit hg hobj hints (Nat.le_trans hlen hn2) hr hF hb (fun H hO hS => hsp H a ns hlen hbits hO (hS.elim .inl fun ⟨o, its, m, h1, h2, h3, h4, h5, h6⟩ => .inr ?_)) fun H e s' => hCX w H s₁ e s'
  have e := (KX a o h1).symm.trans hobj
  cases e
  exact ⟨vs, _, h1, by have := hints.length; have := hlen; omega, vals_ints hints⟩
end L2
namespace Ev
open PySem PySem.Spec PyProof.Rows L2
theorem cx_no {P : Program} {w : World} {H : Hp} {s : Shared} {e : Value} {s' : Shared} (h : L2.CX P w [] H s (fun _ _ _ => False) e s') : False := by
  obtain ⟨a, B, H', cls, d, _, _, _, _, _, _, _, h⟩ := h
  exact h
theorem kwA {K : PySem.W.Frag} {x qual : Str} {params : Arguments} {body : List Stmt} {scope : Scope} {kws : List (Str × V)} {f : Addr} {fd : FuncData} {ps : List Str} (F : FunD K x qual params body scope [] kws f fd)
    (h : ∀ (kV doc pm : Value) (an : Option Addr) (cdv ct : Value) (ws : List Value), ws.length = ps.length → bindArgs (PySem.W.fnOf x qual params body scope .none kV doc pm an cdv ct) ⟨[], ps.zip ws⟩ = pure (ps.zip ws)) (s : Shared) (ws : List Value) (hl : ws.length = ps.length) : BindsTo s fd ⟨[], ps.zip ws⟩ (ps.zip ws) := by
  obtain ⟨oc, od, dV, kV, doc, pm, an, cdv, ct, osl, rfl, lk, hcd, hD, hK⟩ := F.ex
  rcases hD with ⟨_, rfl⟩ | ⟨e, _⟩
  · exact .of_eq (h kV doc pm an cdv ct ws hl)
  · exact absurd rfl e
/-- the defs, one behind another -/
def AllF (K : PySem.W.Frag) (mg : Str → Option Value) (G : Gm) (T : Nat → Option FnDef) : List (Str × Fe) → Prop
  | [] => True
  | p :: r => FnFact K mg G T p.1 p.2 ∧ AllF K mg G T r
theorem AllF.all {K : PySem.W.Frag} {mg : Str → Option Value} {G : Gm} {T : Nat → Option FnDef} {x : Str} {fe : Fe} : ∀ {l : List (Str × Fe)}, AllF K mg G T l → lk x l = some fe → FnFact K mg G T x fe
  | [], _, h => by cases h
  | p :: r, ⟨h1, h2⟩, h => by
    unfold lk at h
    cases q : sEq x p.1 with
    | true => rw [q] at h; cases h; rw [sEq_iff.mp q]; exact h1
    | false => rw [q] at h; exact h2.all h
def AllN (mg : Str → Option Value) : List (Str × Int) → Prop
  | [] => True
  | p :: r => (∃ u, mg p.1 = some u ∧ RelV (.int p.2) u) ∧ AllN mg r
theorem AllN.all {mg : Str → Option Value} {x : Str} {n : Int} : ∀ {l : List (Str × Int)}, AllN mg l → lk x l = some n → ∃ u, mg x = some u ∧ RelV (.int n) u
  | [], _, h => by cases h
  | p :: r, ⟨h1, h2⟩, h => by
    unfold lk at h
    cases q : sEq x p.1 with
    | true => rw [q] at h; cases h; rw [sEq_iff.mp q]; exact h1
    | false => rw [q] at h; exact h2.all h
def AllB (mg : Str → Option Value) : List Str → Prop
  | [] => True
  | x :: r => mg x = none ∧ AllB mg r
theorem AllB.all {mg : Str → Option Value} {x : Str} : ∀ {l : List Str}, AllB mg l → x ∈ l → mg x = none
  | [], _, h => by cases h
  | y :: r, ⟨h1, h2⟩, h => by
    rcases List.mem_cons.mp h with e | h
    · subst e; exact h1
    · exact h2.all h
/-- the law's promise, from the evaluator's answer -/
theorem law_sp {K : PySem.W.Frag} {w : World} {C : Ecls} {c : CallF} {i : Nat} {H : Hp} {a : Addr} {ns : List Int} (hz : ns.length ≤ sizeLine) (hS : RdL K H a (ns.map V.int)) (h : c i [] [.list (ns.map PyData.int)] = .ok (.bool true) false []) :
    spF K w C c i [] 1 [.ref a] H (fun v _ => v = .bl true) fun _ _ _ => False := by
  refine ⟨rfl, fun b => b = a ∧ H a ≠ none, [.list (ns.map PyData.int)], [], ⟨rfl, rfl, List.nodup_nil, fun j d hj _ => ?_, fun n j hn => by simp at hn, fun b hb => ?_⟩, ?_⟩
  · cases j with
    | zero =>
      simp at hj; subst hj
      refine ⟨.ref a, rfl, .lst (hS.imp (fun r => ⟨⟨rfl, ?_⟩, r⟩) id) hS (by simpa using hz) (rvs_int ns)⟩
      rcases r with r | ⟨o, r⟩ <;> (rw [r]; simp)
    | succ j => simp at hj
  · obtain ⟨rfl, hb⟩ := hb
    exact hb
  · rw [h]
    intro v S' H' _ hv
    have hv : Rv K w S' H' v (.bool true) := by simpa using hv
    cases hv
    rfl
end Ev
namespace Ev
open PySem PySem.Spec PyProof.Rows L2
section
variable {P : Program} {w : World} {K : PySem.W.Frag} {mg : Str → Option Value} {G : Gm} {T : Nat → Option FnDef} {C : Ecls}
/-- the law's def, at every heap below -/
theorem law_ok {qual : Str} {params : Arguments} {body : List Stmt} {scope : Scope} {dvs : List V} {kws : List (Str × V)} {f : Addr} {fd : FuncData} {N : List Str} {d : FnDef} {i k : Nat} {y x : Str} (F : FunD K x qual params body scope dvs kws f fd) (Sc : FnScope N [y] scope)
    (hT : T i = some d) (hnp : d.np = 1) (hn : d.n = N.length) (hio : d.io = []) (hs : SsOk G ⟨N, scope, none⟩ body d.body)
    (hall : AllF K mg G T G.fns) (hc : AllN mg G.cons) (hb : AllB mg G.bis) (base : Heap) : FnOk P w K mg base (L2.CX P w) (k + 1) f fd [y] (spF K w C (run T (k + 1)) i [] 1) := by
  have ok := fn_okE (P := P) (w := w) (mg := mg) (base := base) (C := C) (T := T) (k := k) F Sc hT hnp hn fun cdv A0 outer s H E A hr hK hw => by
    refine hs _ A C _ (run T k) ⟨⟨⟨k, hr, fun x f hf => fn_step (fun x fe h => hall.all h) (fun x n h => hc.all h) (fun x h => hb.all h) k x f hf⟩, rfl, Sc.nd, hK.symm, hw.symm, rfl, rfl, rfl, ?_, (fun x n h => hc.all h), (fun x h => hb.all h)⟩, ?_⟩
    · exact takes_of rfl rfl rfl rfl
    · exact passes_of rfl
  rw [hnp, hio] at ok
  exact ok
end
end Ev
/-! text Head_k28 -/
set_option Elab.async false
set_option linter.all false
set_option maxRecDepth 100000
set_option maxHeartbeats 0
namespace HeadL
open PySem PySem.Spec PyProof.Rows L2
def top (i : Nat) : Stmt := PySem.Challenge.pw_lettermovers_k28_across_rows_and_words_m.main.body.getD i (.Pass ⟨0, 0, 0, 0⟩)
def dd (n : Str) (i : Nat) (df : List He.Dv) : He.DefD := ⟨(n, none), n, n, defArgs (top i), defBody (top i), defScope (top i), df, []⟩
def fn : List He.DefD := [
  dd "is_number" 5 [],
  dd "is_within" 6 [],
  dd "is_long" 7 [],
  dd "are_numbers" 8 [],
  dd "tupled" 9 [],
  dd "sure_within" 10 [],
  dd "is_shuffle_of" 11 [],
  dd "undone" 12 [],
  dd "is_state_of" 19 [],
  dd "is_machine_in" 20 [],
  dd "sure_machine" 21 [],
  dd "is_word_of" 22 [],
  dd "sure_word" 23 [],
  dd "is_row_of" 24 [],
  dd "sure_row" 25 [],
  dd "short_in" 26 [],
  dd "step_in" 27 [],
  dd "led_in" 28 [],
  dd "letters_led" 29 [],
  dd "row_led" 30 [],
  dd "part_at" 31 [],
  dd "back_of" 33 [],
  dd "machine_back" 34 [],
  dd "mirror_of" 35 [],
  dd "can_mirror" 36 [],
  dd "is_turnable" 37 [],
  dd "is_both_ways" 38 [],
  dd "machine_mirrored" 39 [],
  dd "how_many_rows" 43 [],
  dd "sure_height" 44 [],
  dd "sure_few" 45 [],
  dd "rows_in" 46 [],
  dd "number_in" 47 [],
  dd "shuffle_in" 48 [],
  dd "lots_in" 49 [],
  dd "all_shuffles" 50 [],
  dd "sure_at" 51 [],
  dd "sure_word_at" 52 [],
  dd "level_shuffle" 53 [],
  dd "lots_at" 54 [],
  dd "level_lots" 55 [],
  dd "is_one_lot" 56 [],
  dd "closing_in" 59 [],
  dd "is_nothing_in" 60 [],
  dd "is_nothing" 61 [],
  dd "_law_box" 63 [],
  dd "_law_take" 64 [],
  dd "_law_cells" 65 [],
  dd "_law_pick" 66 [],
  dd "_law_lists" 67 [],
  dd "_law_same" 68 [],
  dd "_law_flat" 69 [],
  dd "_law_one" 70 [],
  dd "_law_step" 71 [],
  dd "_law_part" 72 [],
  dd "_law_rows" 73 [],
  dd "_law_shuffle" 74 [],
  dd "_law_row" 75 [],
  dd "_law_turned" 76 [],
  dd "law" 77 []]
def fa : List He.Fa := [
  .glo "is_number",
  .glo "is_within",
  .glo "is_long",
  .glo "are_numbers",
  .glo "tupled",
  .glo "sure_within",
  .glo "is_shuffle_of",
  .glo "undone",
  .glo "is_state_of",
  .glo "is_machine_in",
  .glo "sure_machine",
  .glo "is_word_of",
  .glo "sure_word",
  .glo "is_row_of",
  .glo "sure_row",
  .glo "short_in",
  .glo "step_in",
  .glo "led_in",
  .glo "letters_led",
  .glo "row_led",
  .glo "part_at",
  .glo "back_of",
  .glo "machine_back",
  .glo "mirror_of",
  .glo "can_mirror",
  .glo "is_turnable",
  .glo "is_both_ways",
  .glo "machine_mirrored",
  .glo "how_many_rows",
  .glo "sure_height",
  .glo "sure_few",
  .glo "rows_in",
  .glo "number_in",
  .glo "shuffle_in",
  .glo "lots_in",
  .glo "all_shuffles",
  .glo "sure_at",
  .glo "sure_word_at",
  .glo "level_shuffle",
  .glo "lots_at",
  .glo "level_lots",
  .glo "is_one_lot",
  .glo "closing_in",
  .glo "is_nothing_in",
  .glo "is_nothing",
  .glo "_law_box",
  .glo "_law_take",
  .glo "_law_cells",
  .glo "_law_pick",
  .glo "_law_lists",
  .glo "_law_same",
  .glo "_law_flat",
  .glo "_law_one",
  .glo "_law_step",
  .glo "_law_part",
  .glo "_law_rows",
  .glo "_law_shuffle",
  .glo "_law_row",
  .glo "_law_turned",
  .glo "law",
  .free "abs",
  .free "all",
  .free "bool",
  .free "enumerate",
  .free "int",
  .free "isinstance",
  .free "len",
  .free "list",
  .free "min",
  .free "range",
  .free "sorted",
  .free "str",
  .free "tuple",
  .free "zip",
  .int "LEAST_WIDE" (2),
  .int "MOST_WIDE" (5),
  .int "MOST_STATES" (12),
  .int "MOST_WORD" (40),
  .int "MOST_ROW" (40),
  .int "MOST_LEVEL" (10),
  .int "MOST_ROWS" (1024),
  .int "MOST_WORDS" (5000),
  .exc "CanNot",
  .exc "TooMany",
  .exc "Unfit",
  .exm "CanNot" "CanNot" true,
  .exm "CanNot" "TooMany" false,
  .exm "CanNot" "Unfit" false,
  .exm "TooMany" "CanNot" false,
  .exm "TooMany" "TooMany" true,
  .exm "TooMany" "Unfit" false,
  .exm "Unfit" "CanNot" false,
  .exm "Unfit" "TooMany" false,
  .exm "Unfit" "Unfit" true]
def loose : List Str := (["CanNot", "TooMany", "Unfit", "is_number", "is_within", "is_long", "are_numbers", "tupled", "sure_within", "is_shuffle_of", "undone", "LEAST_WIDE", "MOST_WIDE", "MOST_STATES", "MOST_WORD", "MOST_ROW", "is_state_of", "is_machine_in", "sure_machine", "is_word_of", "sure_word", "is_row_of", "sure_row", "short_in", "step_in", "led_in", "letters_led", "row_led", "part_at", "back_of"] : List Str) ++ (["machine_back", "mirror_of", "can_mirror", "is_turnable", "is_both_ways", "machine_mirrored", "MOST_LEVEL", "MOST_ROWS", "how_many_rows", "sure_height", "sure_few", "rows_in", "number_in", "shuffle_in", "lots_in", "all_shuffles", "sure_at", "sure_word_at", "level_shuffle", "lots_at", "level_lots", "is_one_lot", "MOST_WORDS", "closing_in", "is_nothing_in", "is_nothing", "_law_box", "_law_take", "_law_cells", "_law_pick"] : List Str) ++ (["_law_lists", "_law_same", "_law_flat", "_law_one", "_law_step", "_law_part", "_law_rows", "_law_shuffle", "_law_row", "_law_turned"] : List Str)
def iLaw : Nat := 77
abbrev R : PySem.W.OpenRow := PySem.W.OpenLaw.row PySem.Challenge.rw_lettermovers_k28_across_rows_and_words_m
abbrev hk : PySem.W.Hook := He.hookD 4 fa fn
def ob (s : PySem.W.SharedT) : He.AlD := He.obsDG 4 fa fn (HandSHeadRun.getT s)
theorem ob_eq (s : PySem.W.SharedT) : ob s = hk.obs s.abs := He.obsDG_eq (HandSHeadRun.getT_eq s)
theorem run (w : World) : HandSHeadRun.RunEq R (PySem.W.view R.prog [77]) hk ob 3120 loose w := by
  intro os
  kernel_rfl
end HeadL
/-! text Sx -/
set_option Elab.async false
set_option linter.all false
/-! Sx: symbolic runs of the evaluator by simp. -/
namespace Ev
open PySem
/-! ### outcomes -/
def bndO {α β : Type} (o : O α) (f : α → VEnv → O β) : O β := match o with
  | .ok a e => f a e
  | .exc c e => .exc c e
  | .bad => .bad
@[simp] theorem bndO_ok {α β : Type} (a : α) (e : VEnv) (f : α → VEnv → O β) : bndO (.ok a e) f = f a e := (rfl)
@[simp] theorem bndO_exc {α β : Type} (c : Nat) (e : VEnv) (f : α → VEnv → O β) : bndO (.exc c e) f = .exc c e := (rfl)
@[simp] theorem bndO_assoc {α β γ : Type} (o : O α) (f : α → VEnv → O β) (g : β → VEnv → O γ) : bndO (bndO o f) g = bndO o fun a e => bndO (f a e) g := by cases o <;> rfl
theorem bnd_ap {α β : Type} (x : M α) (f : α → M β) (e : VEnv) : bnd x f e = bndO (x e) f := by unfold bnd bndO; cases x e <;> rfl
theorem bnd_fn {α β : Type} (x : M α) (f : α → M β) : bnd x f = fun e => bndO (x e) f := funext fun e => bnd_ap x f e
@[simp] theorem bndO_ite {α β : Type} (p : Prop) [Decidable p] (x y : O α) (f : α → VEnv → O β) : bndO (if p then x else y) f = if p then bndO x f else bndO y f := by split <;> rfl
/-! ### slots -/
def optO {α : Type} (o : Option α) (e : VEnv) : O α := match o with
  | some a => .ok a e
  | none => .bad
@[simp] theorem optO_some {α : Type} (a : α) (e : VEnv) : optO (some a) e = .ok a e := (rfl)
@[simp] theorem opt_ap {α : Type} (o : Option α) (e : VEnv) : opt o e = optO o e := by cases o <;> rfl
theorem opt_fn {α : Type} (o : Option α) : opt o = fun e => optO o e := funext fun e => opt_ap o e
theorem ret_fn {α : Type} (a : α) : (ret a : M α) = fun e => .ok a e := (rfl)
@[simp] theorem ret_ap {α : Type} (a : α) (e : VEnv) : (ret a : M α) e = .ok a e := (rfl)
/-- reading a slot -/
def gs (e : VEnv) (i : Nat) : Slot := e.getD i .no
def varO (s : Slot) (i : Nat) (e : VEnv) : O R := match s with
  | .no => .bad
  | _ => .ok (.slot i) e
@[simp] theorem varO_im (d : D) (i : Nat) (e : VEnv) : varO (.im d) i e = .ok (.slot i) e := (rfl)
@[simp] theorem varO_ow (d : D) (i : Nat) (e : VEnv) : varO (.ow d) i e = .ok (.slot i) e := (rfl)
@[simp] theorem varO_io (d : D) (i : Nat) (e : VEnv) : varO (.io d) i e = .ok (.slot i) e := (rfl)
@[simp] theorem varM_ap (i : Nat) (e : VEnv) : varM i e = varO (gs e i) i e := by
  show (match e.getD i .no with | .no => O.bad | _ => .ok (.slot i) e) = varO (e.getD i .no) i e
  cases e.getD i .no <;> rfl
@[simp] theorem rdM_val (d : D) (e : VEnv) : rdM (.val d) e = .ok d e := (rfl)
@[simp] theorem rdM_fresh (d : D) (e : VEnv) : rdM (.fresh d) e = .ok d e := (rfl)
def rdO (s : Slot) (e : VEnv) : O D := optO s.data e
@[simp] theorem rdO_im (d : D) (e : VEnv) : rdO (.im d) e = .ok d e := (rfl)
@[simp] theorem rdO_ow (d : D) (e : VEnv) : rdO (.ow d) e = .ok d e := (rfl)
@[simp] theorem rdO_io (d : D) (e : VEnv) : rdO (.io d) e = .ok d e := (rfl)
@[simp] theorem rdM_slot (i : Nat) (e : VEnv) : rdM (.slot i) e = rdO (gs e i) e := by
  show (match (gs e i).data with | some d => O.ok d e | none => .bad) = rdO (gs e i) e
  unfold rdO; cases (gs e i).data <;> rfl
@[simp] theorem fz_val (d : D) (e : VEnv) : fz (.val d) e = .ok d e := (rfl)
@[simp] theorem fz_fresh (d : D) (e : VEnv) : fz (.fresh d) e = .ok d e := (rfl)
def fzO (s : Slot) (i : Nat) (e : VEnv) : O D := match s with
  | .im d => .ok d e
  | .ow d => .ok d (e.set i (.im d))
  | _ => .bad
@[simp] theorem fzO_im (d : D) (i : Nat) (e : VEnv) : fzO (.im d) i e = .ok d e := (rfl)
@[simp] theorem fzO_ow (d : D) (i : Nat) (e : VEnv) : fzO (.ow d) i e = .ok d (e.set i (.im d)) := (rfl)
@[simp] theorem fz_slot (i : Nat) (e : VEnv) : fz (.slot i) e = fzO (gs e i) i e := by
  show (match e.getD i .no with | .im d => O.ok d e | .ow d => .ok d (e.set i (.im d)) | _ => .bad) = fzO (e.getD i .no) i e
  cases e.getD i .no <;> rfl
@[simp] theorem fzM_ap (x : M R) (e : VEnv) : fzM x e = bndO (x e) fz := bnd_ap x fz e
/-- a slot that a name may take again: nothing, or something held -/
def J : Option D → Slot
  | none => .no
  | some d => .im d
def bindO (s s' : Slot) (i : Nat) (e : VEnv) : O Unit := match s with
  | .io _ => .bad
  | _ => if i < e.length then .ok () (e.set i s') else .bad
@[simp] theorem bindO_no (s' : Slot) (i : Nat) (e : VEnv) : bindO .no s' i e = if i < e.length then .ok () (e.set i s') else .bad := (rfl)
@[simp] theorem bindO_im (d : D) (s' : Slot) (i : Nat) (e : VEnv) : bindO (.im d) s' i e = if i < e.length then .ok () (e.set i s') else .bad := (rfl)
@[simp] theorem bindO_ow (d : D) (s' : Slot) (i : Nat) (e : VEnv) : bindO (.ow d) s' i e = if i < e.length then .ok () (e.set i s') else .bad := (rfl)
@[simp] theorem bindO_J (o : Option D) (s' : Slot) (i : Nat) (e : VEnv) : bindO (J o) s' i e = if i < e.length then .ok () (e.set i s') else .bad := by cases o <;> rfl
@[simp] theorem bind1_ap (i : Nat) (s : Slot) (e : VEnv) : bind1 i s e = bindO (gs e i) s i e := by
  show (match e.getD i .no with | .io _ => O.bad | _ => if i < e.length then .ok () (e.set i s) else .bad) = bindO (e.getD i .no) s i e
  cases e.getD i .no <;> rfl
@[simp] theorem bindR_val (i : Nat) (d : D) (e : VEnv) : bindR i (.val d) e = bind1 i (.im d) e := (rfl)
@[simp] theorem bindR_fresh (i : Nat) (d : D) (e : VEnv) : bindR i (.fresh d) e = bind1 i (.ow d) e := (rfl)
@[simp] theorem bindR_slot (i j : Nat) (e : VEnv) : bindR i (.slot j) e = bndO (fz (.slot j) e) fun d e => bind1 i (.im d) e := bnd_ap _ _ e
@[simp] theorem bindTR_nm (i : Nat) (r : R) (e : VEnv) : bindTR (.nm i) r e = bindR i r e := (rfl)
@[simp] theorem bindTR_tp (ts : List Tg) (r : R) (e : VEnv) : bindTR (.tp ts) r e = bndO (rdM r e) fun d e => bindT (.tp ts) d e := bnd_ap _ _ e
@[simp] theorem bindT_nm (i : Nat) (d : D) (e : VEnv) : bindT (.nm i) d e = bind1 i (.im d) e := by simp [bindT]
@[simp] theorem bindT_tpl (ts : List Tg) (ds : List D) (e : VEnv) : bindT (.tp ts) (.list ds) e = bindTs ts ds e := by simp [bindT, seq?]
@[simp] theorem bindT_tpt (ts : List Tg) (ds : List D) (e : VEnv) : bindT (.tp ts) (.tuple ds) e = bindTs ts ds e := by simp [bindT, seq?]
@[simp] theorem bindTs_nil (e : VEnv) : bindTs [] [] e = .ok () e := by simp [bindTs]
@[simp] theorem bindTs_cons (t : Tg) (ts : List Tg) (d : D) (ds : List D) (e : VEnv) : bindTs (t :: ts) (d :: ds) e = bndO (bindT t d e) fun _ e => bindTs ts ds e := by simp [bindTs, bnd_ap]
/-! ### expressions -/
section
variable (c : CallF) (e : VEnv)
@[simp] theorem evE_var (i : Nat) : evE c (.var i) e = varM i e := by simp [evE]
@[simp] theorem evE_cst (d : D) : evE c (.cst d) e = .ok (.val d) e := by simp [evE]
@[simp] theorem evVs_nil : evVs c [] e = .ok [] e := by simp [evVs]
@[simp] theorem evVs_cons (a : E) (r : List E) : evVs c (a :: r) e = bndO (fzM (evE c a) e) fun d e => bndO (evVs c r e) fun ds e => .ok (d :: ds) e := by
  simp only [evVs, consV, bnd_fn]; rfl
@[simp] theorem evRs_nil : evRs c [] e = .ok [] e := by simp [evRs]
@[simp] theorem evRs_cons (a : E) (r : List E) : evRs c (a :: r) e = bndO (evE c a e) fun d e => bndO (evRs c r e) fun ds e => .ok (d :: ds) e := by
  simp only [evRs, consR, bnd_fn]; rfl
@[simp] theorem evE_tup (es : List E) : evE c (.tup es) e = bndO (evVs c es e) fun ds e => if ds.length ≤ sz then .ok (.val (.tuple ds)) e else .bad := by
  simp only [evE, tupM, bnd_fn]; congr 1; funext ds e; split <;> rfl
@[simp] theorem evE_lst (es : List E) : evE c (.lst es) e = bndO (evVs c es e) fun ds e => if ds.length ≤ sz then .ok (.fresh (.list ds)) e else .bad := by
  simp only [evE, lstM, bnd_fn]; congr 1; funext ds e; split <;> rfl
@[simp] theorem evE_dic0 : evE c .dic0 e = .ok (.fresh (.dict [])) e := by simp [evE]
@[simp] theorem evE_dic1 (k v : E) : evE c (.dic1 k v) e = bndO (fzM (evE c k) e) fun dk e => bndO (fzM (evE c v) e) fun dv e => if kOk dk [] then .ok (.fresh (.dict [(dk, dv)])) e else .bad := by
  simp only [evE, dic1M, bnd_fn]; congr 1; funext ds e; congr 1; funext ds e; split <;> rfl
theorem bin2_ap (xa xb : M R) (f : D → D → Option R) : bin2 xa xb f e = bndO (xa e) fun ra e => bndO (xb e) fun rb e => bndO (rdM ra e) fun da e => bndO (rdM rb e) fun db e => optO (f da db) e := by
  simp only [bin2, bnd_fn, opt_fn]
@[simp] theorem evE_bin (o : Op2) (a b : E) : evE c (.bin o a b) e = bndO (evE c a e) fun ra e => bndO (evE c b e) fun rb e => bndO (rdM ra e) fun da e => bndO (rdM rb e) fun db e => optO (op2 o da db) e := by
  simp only [evE, bin2_ap]
@[simp] theorem evE_cmp (o : Cm) (a b : E) : evE c (.cmp o a b) e = bndO (evE c a e) fun ra e => bndO (evE c b e) fun rb e => bndO (rdM ra e) fun da e => bndO (rdM rb e) fun db e => optO (cmpD o da db) e := by
  simp only [evE, bin2_ap]
@[simp] theorem evE_idx (a b : E) : evE c (.idx a b) e = bndO (evE c a e) fun ra e => bndO (evE c b e) fun rb e => bndO (rdM ra e) fun da e => bndO (rdM rb e) fun db e => optO (idxD da db) e := by
  simp only [evE, bin2_ap]
theorem un1_ap (xa : M R) (f : D → Option R) : un1 xa f e = bndO (xa e) fun ra e => bndO (rdM ra e) fun da e => optO (f da) e := by
  simp only [un1, bnd_fn, opt_fn]
@[simp] theorem evE_neg (a : E) : evE c (.neg a) e = bndO (evE c a e) fun ra e => bndO (rdM ra e) fun da e => optO (negD da) e := by simp only [evE, un1_ap]
@[simp] theorem evE_isN (a : E) : evE c (.isN a) e = bndO (evE c a e) fun ra e => bndO (rdM ra e) fun da e => .ok (.val (.bool (isNB da))) e := by simp only [evE, un1_ap]; rfl
@[simp] theorem evE_notN (a : E) : evE c (.notN a) e = bndO (evE c a e) fun ra e => bndO (rdM ra e) fun da e => .ok (.val (.bool (!isNB da))) e := by simp only [evE, un1_ap]; rfl
@[simp] theorem evE_rev (a : E) : evE c (.rev a) e = bndO (evE c a e) fun ra e => bndO (rdM ra e) fun da e => optO (rev1 da) e := by simp only [evE, un1_ap]
@[simp] theorem evE_isi (ts : List Ty) (a : E) : evE c (.isi ts a) e = bndO (evE c a e) fun ra e => bndO (rdM ra e) fun da e => .ok (.val (.bool (ts.any fun t => isTy t da))) e := by simp only [evE, un1_ap]; rfl
@[simp] theorem evE_chain (c1 c2 : Cm) (x y z : E) : evE c (.chain c1 c2 x y z) e = bndO (evE c x e) fun rx e => bndO (evE c y e) fun ry e => bndO (rdM rx e) fun dx e => bndO (rdM ry e) fun dy e => bndO (optO (cmp2 c1 dx dy) e) fun k e =>
    if k then bndO (evE c z e) fun rz e => bndO (rdM ry e) fun dy e => bndO (rdM rz e) fun dz e => optO ((cmp2 c2 dy dz).map fun k => R.val (.bool k)) e else .ok (.val (.bool false)) e := by
  simp only [evE, chainM, bnd_fn, opt_fn]
  congr 1; funext rx e; congr 1; funext ry e; congr 1; funext dx e; congr 1; funext dy e; congr 1; funext k e
  cases k
  · rfl
  · simp only [if_true, bnd_fn, opt_fn]
theorem truthM_fn (r : R) : truthM r = fun e => bndO (rdM r e) fun d e => optO (truth? d) e := by simp only [truthM, bnd_fn, opt_fn]
@[simp] theorem evE_not (a : E) : evE c (.not a) e = bndO (evE c a e) fun ra e => bndO (rdM ra e) fun d e => bndO (optO (truth? d) e) fun k e => .ok (.val (.bool (!k))) e := by
  simp only [evE, notM, bnd_fn, truthM_fn, bndO_assoc, ret_fn]
@[simp] theorem evE_and (a b : E) : evE c (.and a b) e = bndO (evE c a e) fun ra e => bndO (rdM ra e) fun d e => bndO (optO (truth? d) e) fun k e => if k then evE c b e else .ok ra e := by
  simp only [evE, andM, bnd_fn, truthM_fn, bndO_assoc]
  congr 1; funext rx e; congr 1; funext ry e; congr 1; funext k e; cases k <;> rfl
@[simp] theorem evE_or (a b : E) : evE c (.or a b) e = bndO (evE c a e) fun ra e => bndO (rdM ra e) fun d e => bndO (optO (truth? d) e) fun k e => if k then .ok ra e else evE c b e := by
  simp only [evE, orM, bnd_fn, truthM_fn, bndO_assoc]
  congr 1; funext rx e; congr 1; funext ry e; congr 1; funext k e; cases k <;> rfl
@[simp] theorem evE_ite (q a b : E) : evE c (.ite q a b) e = bndO (evE c q e) fun ra e => bndO (rdM ra e) fun d e => bndO (optO (truth? d) e) fun k e => if k then evE c a e else evE c b e := by
  simp only [evE, iteM, bnd_fn, truthM_fn, bndO_assoc]
  congr 1; funext rx e; congr 1; funext ry e; congr 1; funext k e; cases k <;> rfl
def intO (d : D) (e : VEnv) : O (Option Int) := match d with
  | .int i => .ok (some i) e
  | _ => .bad
@[simp] theorem intO_int (i : Int) : intO (.int i) e = .ok (some i) e := (rfl)
@[simp] theorem evO_none : evO c none e = .ok none e := by simp [evO]
@[simp] theorem evO_some (a : E) : evO c (some a) e = bndO (evE c a e) fun ra e => bndO (rdM ra e) fun d e => intO d e := by
  simp only [evO, optIM, bnd_fn]
  congr 1; funext rx e; congr 1; funext d e; cases d <;> rfl
@[simp] theorem evE_sl (a : E) (lo hi : Option E) : evE c (.sl a lo hi) e = bndO (evE c a e) fun ra e => bndO (evO c lo e) fun l e => bndO (evO c hi e) fun h e => bndO (rdM ra e) fun d e => optO (cut2 l h d) e := by
  simp only [evE, slM, bnd_fn, opt_fn]
/-- values of what comes -/
def rdsO : List R → VEnv → O (List D)
  | [], e => .ok [] e
  | r :: rs, e => bndO (rdM r e) fun d e => bndO (rdsO rs e) fun ds e => .ok (d :: ds) e
@[simp] theorem rdsO_nil : rdsO [] e = .ok [] e := (rfl)
@[simp] theorem rdsO_cons (r : R) (rs : List R) : rdsO (r :: rs) e = bndO (rdM r e) fun d e => bndO (rdsO rs e) fun ds e => .ok (d :: ds) e := (rfl)
theorem rdM_eq (r : R) : rdM r e = match rd e r with | some d => .ok d e | none => .bad := (rfl)
theorem rdsO_eq : ∀ (rs : List R) (e : VEnv), rdsO rs e = match rs.mapM (rd e) with | some ds => .ok ds e | none => .bad
  | [], e => by simp
  | r :: rs, e => by
    simp only [rdsO, rdM_eq, List.mapM_cons]
    cases rd e r with
    | none => rfl
    | some d =>
      simp only [bndO_ok, rdsO_eq rs e]
      cases rs.mapM (rd e) <;> rfl
@[simp] theorem evE_bi (b : Bi) (args : List E) : evE c (.bi b args) e = bndO (evRs c args e) fun rs e => bndO (rdsO rs e) fun ds e => optO (biF b ds) e := by
  simp only [evE, biM, bnd_fn]
  congr 1; funext rs e
  rw [rdsO_eq]
  cases rs.mapM (rd e) <;> simp [bndO]
@[simp] theorem evE_mth (m : Mt) (o : E) (args : List E) : evE c (.mth m o args) e = bndO (evE c o e) fun ro e => bndO (rdM ro e) fun d0 e => bndO (optO (kdM m d0) e) fun k e => bndO (evRs c args e) fun rs e => bndO (rdsO (ro :: rs) e) fun ds e => optO (mthK m k ds) e := by
  simp only [evE, mthM, bnd_fn, opt_fn]
  congr 1; funext ro e; congr 1; funext d0 e; congr 1; funext k e; congr 1; funext rs e
  rw [rdsO_eq]
  cases (ro :: rs).mapM (rd e) <;> simp [bndO]
@[simp] theorem evE_rngL (a b : E) : evE c (.rngL a b) e = bndO (evE c a e) fun ra e => bndO (evE c b e) fun rb e => bndO (rdM ra e) fun da e => bndO (rdM rb e) fun db e => optO (rngLD da db) e := by
  simp only [evE, bin2_ap]
@[simp] theorem evE_rngT (a b : E) : evE c (.rngT a b) e = bndO (evE c a e) fun ra e => bndO (evE c b e) fun rb e => bndO (rdM ra e) fun da e => bndO (rdM rb e) fun db e => optO (rngTD da db) e := by
  simp only [evE, bin2_ap]
end

/-! ### own objects -/
section
variable (c : CallF) (e : VEnv)
def ownLO (s : Slot) (i : Nat) (f : List D → Option (R × List D)) (e : VEnv) : O R := match s with
  | .ow (.list ds) => (match f ds with
    | some (r, ds') => .ok r (e.set i (.ow (.list ds')))
    | none => .bad)
  | .io (.list ds) => (match f ds with
    | some (r, ds') => .ok r (e.set i (.io (.list ds')))
    | none => .bad)
  | _ => .bad
@[simp] theorem ownL_ap (i : Nat) (f : List D → Option (R × List D)) : ownL i f e = ownLO (gs e i) i f e := (rfl)
def owS (i : Nat) (o : Option (R × List D)) (e : VEnv) : O R := match o with
  | some (r, ds') => .ok r (e.set i (.ow (.list ds')))
  | none => .bad
def ioS (i : Nat) (o : Option (R × List D)) (e : VEnv) : O R := match o with
  | some (r, ds') => .ok r (e.set i (.io (.list ds')))
  | none => .bad
@[simp] theorem owS_some (i : Nat) (r : R) (ds : List D) : owS i (some (r, ds)) e = .ok r (e.set i (.ow (.list ds))) := (rfl)
@[simp] theorem ioS_some (i : Nat) (r : R) (ds : List D) : ioS i (some (r, ds)) e = .ok r (e.set i (.io (.list ds))) := (rfl)
@[simp] theorem ownLO_ow (i : Nat) (f : List D → Option (R × List D)) (ds : List D) : ownLO (.ow (.list ds)) i f e = owS i (f ds) e := (rfl)
@[simp] theorem ownLO_io (i : Nat) (f : List D → Option (R × List D)) (ds : List D) : ownLO (.io (.list ds)) i f e = ioS i (f ds) e := (rfl)
def ownDO (s : Slot) (i : Nat) (f : D → Option (R × D)) (e : VEnv) : O R := match s with
  | .ow d => (match f d with
    | some (r, d') => .ok r (e.set i (.ow d'))
    | none => .bad)
  | .io d => (match f d with
    | some (r, d') => .ok r (e.set i (.io d'))
    | none => .bad)
  | _ => .bad
@[simp] theorem ownD_ap (i : Nat) (f : D → Option (R × D)) : ownD i f e = ownDO (gs e i) i f e := (rfl)
def owDS (i : Nat) (o : Option (R × D)) (e : VEnv) : O R := match o with
  | some (r, d') => .ok r (e.set i (.ow d'))
  | none => .bad
def ioDS (i : Nat) (o : Option (R × D)) (e : VEnv) : O R := match o with
  | some (r, d') => .ok r (e.set i (.io d'))
  | none => .bad
@[simp] theorem owDS_some (i : Nat) (r : R) (d : D) : owDS i (some (r, d)) e = .ok r (e.set i (.ow d)) := (rfl)
@[simp] theorem ioDS_some (i : Nat) (r : R) (d : D) : ioDS i (some (r, d)) e = .ok r (e.set i (.io d)) := (rfl)
@[simp] theorem ownDO_ow (i : Nat) (f : D → Option (R × D)) (d : D) : ownDO (.ow d) i f e = owDS i (f d) e := (rfl)
@[simp] theorem ownDO_io (i : Nat) (f : D → Option (R × D)) (d : D) : ownDO (.io d) i f e = ioDS i (f d) e := (rfl)
def chkLO (s : Slot) (e : VEnv) : O Unit := match s with
  | .ow (.list _) => .ok () e
  | .io (.list _) => .ok () e
  | _ => .bad
@[simp] theorem chkLO_ow (ds : List D) : chkLO (.ow (.list ds)) e = .ok () e := (rfl)
@[simp] theorem chkLO_io (ds : List D) : chkLO (.io (.list ds)) e = .ok () e := (rfl)
@[simp] theorem chkL_ap (i : Nat) : chkL i e = chkLO (gs e i) e := (rfl)
def chkDO (s : Slot) (e : VEnv) : O Unit := match s with
  | .ow (.dict _) => .ok () e
  | .io (.dict _) => .ok () e
  | _ => .bad
@[simp] theorem chkDO_ow (ds : List (D × D)) : chkDO (.ow (.dict ds)) e = .ok () e := (rfl)
@[simp] theorem chkDO_io (ds : List (D × D)) : chkDO (.io (.dict ds)) e = .ok () e := (rfl)
@[simp] theorem chkD_ap (i : Nat) : chkD i e = chkDO (gs e i) e := (rfl)
@[simp] theorem evE_app (i : Nat) (a : E) : evE c (.app i a) e = bndO (chkLO (gs e i) e) fun _ e => bndO (fzM (evE c a) e) fun d e => ownLO (gs e i) i (fun ds => if ds.length < sz then some (.val .none, ds ++ [d]) else none) e := by
  simp only [evE, appM, bnd_fn]; rfl
def extF (d : D) (i : Nat) (e : VEnv) : O R := match seq? d with
  | some xs => ownLO (gs e i) i (fun ds => if ds.length + xs.length ≤ sz then some (.val .none, ds ++ xs) else none) e
  | none => .bad
@[simp] theorem extF_list (xs : List D) (i : Nat) : extF (.list xs) i e = ownLO (gs e i) i (fun ds => if ds.length + xs.length ≤ sz then some (.val .none, ds ++ xs) else none) e := (rfl)
@[simp] theorem extF_tuple (xs : List D) (i : Nat) : extF (.tuple xs) i e = ownLO (gs e i) i (fun ds => if ds.length + xs.length ≤ sz then some (.val .none, ds ++ xs) else none) e := (rfl)
@[simp] theorem evE_ext (i : Nat) (a : E) : evE c (.ext i a) e = bndO (chkLO (gs e i) e) fun _ e => bndO (fzM (evE c a) e) fun d e => extF d i e := by
  simp only [evE, extM, bnd_fn]
  congr 1; funext _ e; congr 1; funext d e; unfold extF; cases seq? d <;> rfl
def popF (ds : List D) : Option (R × List D) := match ds.getLast? with
  | some d => some (.val d, ds.dropLast)
  | none => none
@[simp] theorem evE_pop (i : Nat) : evE c (.pop i) e = ownLO (gs e i) i popF e := by simp only [evE, popM]; rfl
@[simp] theorem popF_snoc (ds : List D) (d : D) : popF (ds ++ [d]) = some (.val d, ds) := by simp [popF]
def popAtF (d : D) (i : Nat) (e : VEnv) : O R := match d with
  | .int k => ownLO (gs e i) i (fun ds => (ixN ds.length k).bind fun j => ds[j]?.map fun d => (.val d, ds.eraseIdx j)) e
  | _ => .bad
@[simp] theorem popAtF_int (k : Int) (i : Nat) : popAtF (.int k) i e = ownLO (gs e i) i (fun ds => (ixN ds.length k).bind fun j => ds[j]?.map fun d => (.val d, ds.eraseIdx j)) e := (rfl)
@[simp] theorem evE_popAt (i : Nat) (a : E) : evE c (.popAt i a) e = bndO (chkLO (gs e i) e) fun _ e => bndO (evE c a e) fun r e => bndO (rdM r e) fun d e => popAtF d i e := by
  simp only [evE, popAtM, bnd_fn]
  congr 1; funext _ e; congr 1; funext r e; congr 1; funext d e; unfold popAtF; cases d <;> rfl
/-! ### calls -/
def crO (r : CR) (e : VEnv) : O R := match r with
  | .ok d fr [] => .ok (if fr then .fresh d else .val d) e
  | .exc x [] => .exc x e
  | _ => .bad
@[simp] theorem crO_t (d : D) : crO (.ok d true []) e = .ok (.fresh d) e := (rfl)
@[simp] theorem crO_f (d : D) : crO (.ok d false []) e = .ok (.val d) e := (rfl)
@[simp] theorem crO_exc (x : Nat) : crO (.exc x []) e = .exc x e := (rfl)
theorem evAs_nil : ∀ (n : Nat) (args : List E), evAs c [] n args = evVs c args
  | n, [] => by simp only [evAs, evVs]
  | n, a :: r => by
    simp only [evAs, evVs]
    rw [evAs_nil (n + 1) r]
    rfl
@[simp] theorem fillA_nil (os : List D) (ds : List D) : fillA [] os ds = ds := by
  simp [fillA, List.lookup]
@[simp] theorem evE_call0 (f : Nat) (args : List E) : evE c (.call f [] args) e = bndO (evVs c args e) fun ds e => crO (c f [] ds) e := by
  simp only [evE, callM, bnd_fn, evAs_nil]
  congr 1; funext ds e
  simp [iosOf, doCall]
  cases c f [] ds with
  | ok d fr outs => cases outs <;> simp [crO, putOuts, ret_fn, bad]
  | exc d outs => cases outs <;> simp [crO, putOuts, ret_fn, bad]
  | bad => rfl
def putS (s : Slot) (i : Nat) (d : D) (e : VEnv) : O Unit := match s with
  | .ow _ => .ok () (e.set i (.ow d))
  | .io _ => .ok () (e.set i (.io d))
  | _ => .bad
@[simp] theorem putS_ow (i : Nat) (d d' : D) : putS (.ow d') i d e = .ok () (e.set i (.ow d)) := (rfl)
@[simp] theorem putS_io (i : Nat) (d d' : D) : putS (.io d') i d e = .ok () (e.set i (.io d)) := (rfl)
/-- a call that changes what one slot holds -/
def crO1 (r : CR) (i : Nat) (e : VEnv) : O R := match r with
  | .ok d fr [o] => bndO (putS (gs e i) i o e) fun _ e => .ok (if fr then .fresh d else .val d) e
  | .exc x [o] => bndO (putS (gs e i) i o e) fun _ e => .exc x e
  | _ => .bad
@[simp] theorem crO1_t (d o : D) (i : Nat) : crO1 (.ok d true [o]) i e = bndO (putS (gs e i) i o e) fun _ e => .ok (.fresh d) e := (rfl)
@[simp] theorem crO1_f (d o : D) (i : Nat) : crO1 (.ok d false [o]) i e = bndO (putS (gs e i) i o e) fun _ e => .ok (.val d) e := (rfl)
@[simp] theorem crO1_exc (x : Nat) (o : D) (i : Nat) : crO1 (.exc x [o]) i e = bndO (putS (gs e i) i o e) fun _ e => .exc x e := (rfl)
def ownO (s : Slot) (e : VEnv) : O D := match s with
  | .ow d => .ok d e
  | .io d => .ok d e
  | _ => .bad
@[simp] theorem ownO_ow (d : D) : ownO (.ow d) e = .ok d e := (rfl)
@[simp] theorem ownO_io (d : D) : ownO (.io d) e = .ok d e := (rfl)
theorem putOuts1 (i : Nat) (o : D) : putOuts [i] [o] e = putS (gs e i) i o e := by
  show (match e.getD i .no with | .ow _ => putOuts [] [] (e.set i (.ow o)) | .io _ => putOuts [] [] (e.set i (.io o)) | _ => .bad) = putS (e.getD i .no) i o e
  cases e.getD i .no <;> rfl
theorem putOuts2 (i : Nat) (o o2 : D) (r : List D) : putOuts [i] (o :: o2 :: r) e = .bad := by
  show (match e.getD i .no with | .ow _ => putOuts [] (o2 :: r) (e.set i (.ow o)) | .io _ => putOuts [] (o2 :: r) (e.set i (.io o)) | _ => .bad) = _
  cases e.getD i .no <;> rfl
theorem ownAt_eq (i : Nat) : ownAt e i = match gs e i with | .ow d => some d | .io d => some d | _ => none := (rfl)
theorem evAs_later : ∀ (n : Nat) (args : List E), 0 < n → evAs c [0] n args = evVs c args
  | n, [], _ => by simp only [evAs, evVs]
  | n + 1, a :: r, _ => by
    simp only [evAs, evVs]
    rw [evAs_later (n + 2) r (by omega)]
    rfl
theorem fillA_0 (o d : D) (ds : List D) : fillA [0] [o] (d :: ds) = o :: ds := by
  have h : ∀ (ds : List D) (n : Nat), (ds.zipIdx (n + 1)).map (fun p => (([0].zip [o]).lookup p.2).getD p.1) = ds := by
    intro ds
    induction ds with
    | nil => intro n; rfl
    | cons d ds ih =>
      intro n
      simp only [List.zipIdx_cons, List.map_cons, ih]
      rfl
  simp only [fillA, List.zipIdx_cons, List.map_cons]
  have := h ds 0
  simp only [Nat.zero_add] at this ⊢
  rw [this]
  rfl
/-- a call of a def that changes its first argument, a name -/
@[simp] theorem evE_call1 (f : Nat) (i : Nat) (args : List E) : evE c (.call f [0] (.var i :: args)) e = bndO (ownO (gs e i) e) fun _ e => bndO (evVs c args e) fun ds e => bndO (ownO (gs e i) e) fun o e => crO1 (c f [0] (o :: ds)) i e := by
  have hA : evAs c [0] 0 (.var i :: args) = consV (chkO (some i)) (evVs c args) := by
    rw [evAs, evAs_later c 1 args (by omega)]
    simp [slotOf]
  have hi : iosOf [0] (.var i :: args) = some [i] := by simp [iosOf, slotOf]
  simp only [evE, callM, bnd_fn, hA, hi, consV, ret_fn, bndO_assoc]
  have hc : chkO (some i) e = bndO (ownO (gs e i) e) fun _ e => .ok .none e := by
    simp only [chkO, ownAt_eq]
    cases gs e i <;> rfl
  rw [hc, bndO_assoc]
  congr 1; funext _ e
  simp only [bndO_ok]
  congr 1; funext ds e
  simp only [List.length_cons, List.nodup_cons, List.not_mem_nil, not_false_eq_true, List.nodup_nil, and_self, decide_true, List.all_cons, List.all_nil, Bool.and_true, Bool.true_and, Nat.zero_lt_succ, if_true, List.mapM_cons, List.mapM_nil, ownAt_eq, doCall]
  cases q : gs e i with
  | no => rfl
  | im d => rfl
  | ow d =>
    simp only [ownO_ow, bndO_ok, fillA_0, Option.bind_eq_bind, Option.bind_some, Option.pure_def]
    cases c f [0] (d :: ds) with
    | ok x fr outs =>
      match outs with
      | [] => rfl
      | [o] => simp only [putOuts1, crO1, q]; rfl
      | o :: o2 :: r => simp only [putOuts2, crO1]
    | exc x outs =>
      match outs with
      | [] => rfl
      | [o] => simp only [putOuts1, crO1, q]; rfl
      | o :: o2 :: r => simp only [putOuts2, crO1]
    | bad => rfl
  | io d =>
    simp only [ownO_io, bndO_ok, fillA_0, Option.bind_eq_bind, Option.bind_some, Option.pure_def]
    cases c f [0] (d :: ds) with
    | ok x fr outs =>
      match outs with
      | [] => rfl
      | [o] => simp only [putOuts1, crO1, q]; rfl
      | o :: o2 :: r => simp only [putOuts2, crO1]
    | exc x outs =>
      match outs with
      | [] => rfl
      | [o] => simp only [putOuts1, crO1, q]; rfl
      | o :: o2 :: r => simp only [putOuts2, crO1]
    | bad => rfl
end

/-! ### iteration -/
section
variable (c : CallF) (e : VEnv)
@[simp] theorem evI_src (a : E) : evI c (.src a) e = bndO (fzM (evE c a) e) fun d e => optO (items? d) e := by simp only [evI, bnd_fn, opt_fn]
@[simp] theorem evI_rng (a b : E) : evI c (.rng a b) e = bndO (fzM (evE c a) e) fun da e => bndO (fzM (evE c b) e) fun db e => optO (rng2D [da, db]) e := by
  simp only [evI, bnd_fn, opt_fn, consV, ret_fn, bndO_assoc, bndO_ok]
@[simp] theorem evI_rng1 (b : E) : evI c (.rng1 b) e = bndO (fzM (evE c b) e) fun db e => optO (rng2D [.int 0, db]) e := by
  simp only [evI, bnd_fn, opt_fn, consV, ret_fn, bndO_assoc, bndO_ok]
@[simp] theorem evI_enum (b : E) : evI c (.enum b) e = bndO (fzM (evE c b) e) fun db e => optO (enum1D [db]) e := by
  simp only [evI, bnd_fn, opt_fn, consV, ret_fn, bndO_assoc, bndO_ok]
@[simp] theorem evI_zip2 (a b : E) : evI c (.zip2 a b) e = bndO (fzM (evE c a) e) fun da e => bndO (fzM (evE c b) e) fun db e => optO (zip2D [da, db]) e := by
  simp only [evI, bnd_fn, opt_fn, consV, ret_fn, bndO_assoc, bndO_ok]
@[simp] theorem evI_zip3 (a b d : E) : evI c (.zip3 a b d) e = bndO (fzM (evE c a) e) fun da e => bndO (fzM (evE c b) e) fun db e => bndO (fzM (evE c d) e) fun dc e => optO (zip3D [da, db, dc]) e := by
  simp only [evI, bnd_fn, opt_fn, consV, ret_fn, bndO_assoc, bndO_ok]
/-! ### statements -/
def flO (c : CallF) (ss : List S) (f : Fl) (e : VEnv) : O Fl := match f with
  | .nx => evSs c ss e
  | f => .ok f e
@[simp] theorem flO_nx (ss : List S) : flO c ss .nx e = evSs c ss e := (rfl)
@[simp] theorem flO_brk (ss : List S) : flO c ss .brk e = .ok .brk e := (rfl)
@[simp] theorem flO_cont (ss : List S) : flO c ss .cont e = .ok .cont e := (rfl)
@[simp] theorem flO_ret (ss : List S) (d : D) (fr : Bool) : flO c ss (.ret d fr) e = .ok (.ret d fr) e := (rfl)
@[simp] theorem evSs_nil : evSs c [] e = .ok .nx e := by simp [evSs]
@[simp] theorem evSs_cons (s : S) (ss : List S) : evSs c (s :: ss) e = bndO (evS c s e) (flO c ss) := by
  simp only [evSs, bnd_fn, ret_fn]
  congr 1; funext f e; cases f <;> rfl
@[simp] theorem evS_asg (tg : Tg) (a : E) : evS c (.asg tg a) e = bndO (evE c a e) fun r e => bndO (bindTR tg r e) fun _ e => .ok .nx e := by simp only [evS, bnd_fn, ret_fn]
@[simp] theorem evS_ex (a : E) : evS c (.ex a) e = bndO (evE c a e) fun r e => .ok .nx e := by simp only [evS, bnd_fn, ret_fn]
@[simp] theorem evS_ite (q : E) (a b : List S) : evS c (.ite q a b) e = bndO (evE c q e) fun ra e => bndO (rdM ra e) fun d e => bndO (optO (truth? d) e) fun k e => if k then evSs c a e else evSs c b e := by
  simp only [evS, bnd_fn, truthM_fn, bndO_assoc]
  congr 1; funext rx e; congr 1; funext ry e; congr 1; funext k e; cases k <;> rfl
@[simp] theorem evS_forr (tg : Tg) (it : It) (b : List S) : evS c (.forr tg it b) e = bndO (evI c it e) fun ds e => forL tg (evSs c b) ds e := by simp only [evS, bnd_fn]
@[simp] theorem evS_whl (q : E) (b : List S) : evS c (.whl q b) e = whlL (bnd (evE c q) truthM) (evSs c b) fuelW e := by simp only [evS]
def retO (s : Slot) (e : VEnv) : O Fl := match s with
  | .im d => .ok (.ret d false) e
  | .ow d => .ok (.ret d true) e
  | _ => .bad
@[simp] theorem retO_im (d : D) : retO (.im d) e = .ok (.ret d false) e := (rfl)
@[simp] theorem retO_ow (d : D) : retO (.ow d) e = .ok (.ret d true) e := (rfl)
@[simp] theorem retR_val (d : D) : retR (.val d) e = .ok (.ret d false) e := (rfl)
@[simp] theorem retR_fresh (d : D) : retR (.fresh d) e = .ok (.ret d true) e := (rfl)
@[simp] theorem retR_slot (i : Nat) : retR (.slot i) e = retO (gs e i) e := (rfl)
@[simp] theorem evS_ret (a : E) : evS c (.ret a) e = bndO (evE c a e) retR := by simp only [evS, bnd_fn]
@[simp] theorem evS_retN : evS c .retN e = .ok (.ret .none false) e := by simp only [evS, ret_fn]
@[simp] theorem evS_brk : evS c .brk e = .ok .brk e := by simp only [evS, ret_fn]
@[simp] theorem evS_cont : evS c .cont e = .ok .cont e := by simp only [evS, ret_fn]
@[simp] theorem evS_pass : evS c .pass e = .ok .nx e := by simp only [evS, ret_fn]
@[simp] theorem evS_rais (x : Nat) : evS c (.rais x) e = .exc x e := by simp only [evS]
@[simp] theorem evS_aug (i : Nat) (a : E) : evS c (.aug i a) e = bndO (rdM (.slot i) e) fun d0 e => bndO (evE c a e) fun r e => bndO (rdM r e) fun da e => bndO (optO (augD d0 da) e) fun d e => bndO (bind1 i (.im d) e) fun _ e => .ok .nx e := by
  simp only [evS, augM, bnd_fn, opt_fn, ret_fn]
@[simp] theorem evS_setI (i : Nat) (k v : E) : evS c (.setI i k v) e = bndO (fzM (evE c v) e) fun dv e => bndO (rdM (.slot i) e) fun _ e => bndO (fzM (evE c k) e) fun dk e => bndO (ownDO (gs e i) i (setD dk dv) e) fun _ e => .ok .nx e := by
  simp only [evS, setM, bnd_fn, opt_fn, ret_fn]; rfl
def resO : List R → VEnv → O (List R)
  | [], e => .ok [] e
  | .slot i :: rs, e => bndO (fz (.slot i) e) fun d e => bndO (resO rs e) fun rs e => .ok (.val d :: rs) e
  | .val d :: rs, e => bndO (resO rs e) fun rs e => .ok (.val d :: rs) e
  | .fresh d :: rs, e => bndO (resO rs e) fun rs e => .ok (.fresh d :: rs) e
@[simp] theorem resO_nil : resO [] e = .ok [] e := (rfl)
@[simp] theorem resO_slot (i : Nat) (rs : List R) : resO (.slot i :: rs) e = bndO (fz (.slot i) e) fun d e => bndO (resO rs e) fun rs e => .ok (.val d :: rs) e := (rfl)
@[simp] theorem resO_val (d : D) (rs : List R) : resO (.val d :: rs) e = bndO (resO rs e) fun rs e => .ok (.val d :: rs) e := (rfl)
@[simp] theorem resO_fresh (d : D) (rs : List R) : resO (.fresh d :: rs) e = bndO (resO rs e) fun rs e => .ok (.fresh d :: rs) e := (rfl)
theorem resolve_eq : ∀ (rs : List R) (e : VEnv), resolve rs e = resO rs e
  | [], e => rfl
  | .slot i :: rs, e => by
    simp only [resolve, resO, bnd_fn, ret_fn, bndO_assoc]
    congr 1; funext d e; simp only [bndO_ok]; rw [resolve_eq rs e]
  | .val d :: rs, e => by
    simp only [resolve, resO, bnd_fn, ret_fn, bndO_assoc, bndO_ok]
    rw [resolve_eq rs e]
  | .fresh d :: rs, e => by
    simp only [resolve, resO, bnd_fn, ret_fn, bndO_assoc, bndO_ok]
    rw [resolve_eq rs e]
@[simp] theorem bindRs_nil : bindRs [] [] e = .ok () e := (rfl)
@[simp] theorem bindRs_cons (i : Nat) (is : List Nat) (r : R) (rs : List R) : bindRs (i :: is) (r :: rs) e = bndO (bindR i r e) fun _ e => bindRs is rs e := by simp only [bindRs, bnd_fn]
@[simp] theorem evS_pars (is : List Nat) (es : List E) : evS c (.pars is es) e = bndO (evRs c es e) fun rs e => bndO (resO rs e) fun rs e => bndO (bindRs is rs e) fun _ e => .ok .nx e := by
  simp only [evS, parM, bnd_fn, ret_fn]
  congr 1; funext rs e; rw [resolve_eq]
def excO (c : CallF) (hs : List (List Nat × List S)) (o : O Fl) : O Fl := match o with
  | .exc x e => evH c x hs e
  | r => r
@[simp] theorem excO_ok (hs : List (List Nat × List S)) (f : Fl) : excO c hs (.ok f e) = .ok f e := (rfl)
@[simp] theorem excO_exc (hs : List (List Nat × List S)) (x : Nat) : excO c hs (.exc x e) = evH c x hs e := (rfl)
@[simp] theorem evS_tryy (b : List S) (hs : List (List Nat × List S)) : evS c (.tryy b hs) e = excO c hs (evSs c b e) := by
  simp only [evS]; cases evSs c b e <;> rfl
@[simp] theorem evH_nil (x : Nat) : evH c x [] e = .exc x e := by simp only [evH]
@[simp] theorem evH_cons (x : Nat) (h : List Nat × List S) (hs : List (List Nat × List S)) : evH c x (h :: hs) e = if h.1.contains x then evSs c h.2 e else evH c x hs e := by
  rw [evH]; split <;> rfl
end
/-! ### what holds of an outcome -/
def Wp {α : Type} (o : O α) (P : α → VEnv → Prop) : Prop := match o with
  | .ok a e => P a e
  | _ => False
@[simp] theorem Wp_ok {α : Type} (a : α) (e : VEnv) (P : α → VEnv → Prop) : Wp (.ok a e) P = P a e := (rfl)
theorem Wp_bnd {α β : Type} (o : O α) (f : α → VEnv → O β) (P : β → VEnv → Prop) : Wp (bndO o f) P ↔ Wp o fun a e => Wp (f a e) P := by cases o <;> exact Iff.rfl
theorem Wp.imp {α : Type} {o : O α} {P Q : α → VEnv → Prop} (h : Wp o P) (i : ∀ a e, P a e → Q a e) : Wp o Q := by
  cases o with
  | ok a e => exact i a e h
  | exc c e => exact h
  | bad => exact h
theorem Wp.ex {α : Type} {o : O α} {P : α → VEnv → Prop} (h : Wp o P) : ∃ a e, o = .ok a e ∧ P a e := by
  cases o with
  | ok a e => exact ⟨a, e, rfl, h⟩
  | exc c e => exact h.elim
  | bad => exact h.elim
/-! ### loops -/
def forO (tg : Tg) (body : M Fl) (ds : List D) (f : Fl) (e : VEnv) : O Fl := match f with
  | .nx => forL tg body ds e
  | .cont => forL tg body ds e
  | .brk => .ok .nx e
  | .ret d fr => .ok (.ret d fr) e
@[simp] theorem forO_nx (tg : Tg) (body : M Fl) (ds : List D) (e : VEnv) : forO tg body ds .nx e = forL tg body ds e := (rfl)
@[simp] theorem forO_cont (tg : Tg) (body : M Fl) (ds : List D) (e : VEnv) : forO tg body ds .cont e = forL tg body ds e := (rfl)
@[simp] theorem forO_brk (tg : Tg) (body : M Fl) (ds : List D) (e : VEnv) : forO tg body ds .brk e = .ok .nx e := (rfl)
@[simp] theorem forO_ret (tg : Tg) (body : M Fl) (ds : List D) (e : VEnv) (d : D) (fr : Bool) : forO tg body ds (.ret d fr) e = .ok (.ret d fr) e := (rfl)
theorem forL_nil (tg : Tg) (body : M Fl) (e : VEnv) : forL tg body [] e = .ok .nx e := (rfl)
theorem forL_cons (tg : Tg) (body : M Fl) (d : D) (ds : List D) (e : VEnv) : forL tg body (d :: ds) e = bndO (bindT tg d e) fun _ e => bndO (body e) (forO tg body ds) := by
  simp only [forL, bnd_fn, ret_fn]
  congr 1; funext _ e; congr 1; funext f e; cases f <;> rfl
/-- a loop without a way out: by what holds behind each -/
theorem forL_inv {α : Type} (en : α → D) (l : List α) (I : List α → VEnv → Prop) {tg : Tg} {body : M Fl} {e : VEnv} (h0 : I [] e)
    (hs : ∀ pre a post, l = pre ++ a :: post → ∀ e, I pre e → ∃ f e1 e', bindT tg (en a) e = .ok () e1 ∧ body e1 = .ok f e' ∧ (f = .nx ∨ f = .cont) ∧ I (pre ++ [a]) e') : ∃ e', forL tg body (l.map en) e = .ok .nx e' ∧ I l e' := by
  suffices h : ∀ (post pre : List α), l = pre ++ post → ∀ e, I pre e → ∃ e', forL tg body (post.map en) e = .ok .nx e' ∧ I l e' from h l [] rfl e h0
  intro post
  induction post with
  | nil => intro pre hl e hI; exact ⟨e, rfl, by rw [hl, List.append_nil]; exact hI⟩
  | cons a post ih =>
    intro pre hl e hI
    obtain ⟨f, e1, e', h1, h2, h3, h4⟩ := hs pre a post hl e hI
    obtain ⟨e2, h5, h6⟩ := ih (pre ++ [a]) (by rw [hl]; simp) e' h4
    refine ⟨e2, ?_, h6⟩
    rw [List.map_cons, forL_cons, h1, bndO_ok, h2, bndO_ok]
    rcases h3 with rfl | rfl <;> exact h5
/-- a loop that may end early: each step goes on, breaks off, hands back -/
theorem forL_inv2 {α : Type} (en : α → D) (l : List α) (I : List α → VEnv → Prop) (Q : Fl → VEnv → Prop) {tg : Tg} {body : M Fl} {e : VEnv} (h0 : I [] e)
    (hs : ∀ pre a post, l = pre ++ a :: post → ∀ e, I pre e → ∃ f e1 e', bindT tg (en a) e = .ok () e1 ∧ body e1 = .ok f e' ∧
      (((f = .nx ∨ f = .cont) ∧ I (pre ++ [a]) e') ∨ (f = .brk ∧ Q .nx e') ∨ (∃ d fr, f = .ret d fr ∧ Q f e'))) (hend : ∀ e, I l e → Q .nx e) : ∃ f e', forL tg body (l.map en) e = .ok f e' ∧ Q f e' := by
  suffices h : ∀ (post pre : List α), l = pre ++ post → ∀ e, I pre e → ∃ f e', forL tg body (post.map en) e = .ok f e' ∧ Q f e' from h l [] rfl e h0
  intro post
  induction post with
  | nil => intro pre hl e hI; exact ⟨.nx, e, rfl, hend e (by rw [hl, List.append_nil]; exact hI)⟩
  | cons a post ih =>
    intro pre hl e hI
    obtain ⟨f, e1, e', h1, h2, h3⟩ := hs pre a post hl e hI
    rw [List.map_cons, forL_cons, h1, bndO_ok, h2, bndO_ok]
    rcases h3 with ⟨h3, h4⟩ | ⟨rfl, h4⟩ | ⟨d, fr, rfl, h4⟩
    · obtain ⟨f2, e2, h5, h6⟩ := ih (pre ++ [a]) (by rw [hl]; simp) e' h4
      refine ⟨f2, e2, ?_, h6⟩
      rcases h3 with rfl | rfl <;> exact h5
    · exact ⟨_, e', rfl, h4⟩
    · exact ⟨_, e', rfl, h4⟩
def whlO (cond : M Bool) (body : M Fl) (n : Nat) (f : Fl) (e : VEnv) : O Fl := match f with
  | .nx => whlL cond body n e
  | .cont => whlL cond body n e
  | .brk => .ok .nx e
  | .ret d fr => .ok (.ret d fr) e
theorem whlL_succ (cond : M Bool) (body : M Fl) (n : Nat) (e : VEnv) : whlL cond body (n + 1) e = bndO (cond e) fun b e => if b then bndO (body e) (whlO cond body n) else .ok .nx e := by
  simp only [whlL, bnd_fn, ret_fn]
  congr 1; funext b e; cases b
  · rfl
  · simp only [if_true]
    congr 1; funext f e; cases f <;> rfl
/-- a while by a measure -/
theorem whlL_inv (I : Nat → VEnv → Prop) (Q : Fl → VEnv → Prop) {cond : M Bool} {body : M Fl}
    (hs : ∀ n e, I n e → ∃ b e1, cond e = .ok b e1 ∧ ((b = false ∧ Q .nx e1) ∨ (b = true ∧ ∃ f e', body e1 = .ok f e' ∧
      (((f = .nx ∨ f = .cont) ∧ ∃ m, m < n ∧ I m e') ∨ (f = .brk ∧ Q .nx e') ∨ (∃ d fr, f = .ret d fr ∧ Q f e'))))) : ∀ (n k : Nat) (e : VEnv), n < k → I n e → ∃ f e', whlL cond body k e = .ok f e' ∧ Q f e' := by
  intro n
  induction n using Nat.strongRecOn with
  | ind n ih =>
    intro k e hk hI
    obtain ⟨k, rfl⟩ : ∃ j, k = j + 1 := ⟨k - 1, by omega⟩
    obtain ⟨b, e1, hc, h⟩ := hs n e hI
    rw [whlL_succ, hc, bndO_ok]
    rcases h with ⟨rfl, hq⟩ | ⟨rfl, f, e', hb, h⟩
    · exact ⟨_, e1, rfl, hq⟩
    · simp only [if_true, hb, bndO_ok]
      rcases h with ⟨h3, m, hm, h4⟩ | ⟨rfl, h4⟩ | ⟨d, fr, rfl, h4⟩
      · obtain ⟨f2, e2, h5, h6⟩ := ih m hm k e' (by omega) h4
        refine ⟨f2, e2, ?_, h6⟩
        rcases h3 with rfl | rfl <;> exact h5
      · exact ⟨_, e', rfl, h4⟩
      · exact ⟨_, e', rfl, h4⟩
/-! ### comprehensions -/
theorem compL_cons (ws : List Nat) (tg : Tg) (cond : M Bool) (elt : M D) (d : D) (ds acc : List D) (e : VEnv) : compL ws tg cond elt (d :: ds) acc e = bndO (bindT tg d e) fun _ e => bndO (cond e) fun b e =>
    if b then bndO (elt e) fun x e => compL ws tg cond elt ds (acc ++ [x]) (wipeE ws e) else compL ws tg cond elt ds acc (wipeE ws e) := by
  simp only [compL, bnd_fn]
  congr 1; funext _ e; congr 1; funext b e; cases b <;> rfl
/-- one element of a comprehension: its value, or none -/
def stepO (tg : Tg) (cond : M Bool) (elt : M D) (d : D) (e : VEnv) : O (Option D) := bndO (bindT tg d e) fun _ e => bndO (cond e) fun b e => if b then bndO (elt e) fun x e => .ok (some x) e else .ok none e
theorem compL_step (ws : List Nat) (tg : Tg) (cond : M Bool) (elt : M D) (d : D) (ds acc : List D) (e : VEnv) : compL ws tg cond elt (d :: ds) acc e = bndO (stepO tg cond elt d e) fun x e => compL ws tg cond elt ds (match x with | some x => acc ++ [x] | none => acc) (wipeE ws e) := by
  rw [compL_cons]
  simp only [stepO, bndO_assoc]
  congr 1; funext _ e; congr 1; funext b e; cases b
  · rfl
  · simp only [if_true, bndO_assoc, bndO_ok]
/-- a comprehension whose parts change nothing but their own names -/
theorem compM_pure {α : Type} (en : α → D) (l : List α) (g : α → Option D) {ws : List Nat} {tg : Tg} {cond : M Bool} {elt : M D} {e e0 : VEnv} (hf : fzAll ws e = some e0) (hl : l.length ≤ sz)
    (h : ∀ a ∈ l, ∃ e', stepO tg cond elt (en a) (wipeE ws e0) = .ok (g a) e' ∧ wipeE ws e' = wipeE ws e0) : compM ws tg cond elt (l.map en) e = .ok (.fresh (.list (l.filterMap g))) (back ws e0 (wipeE ws e0)) := by
  have key : ∀ (l : List α) (acc : List D), (∀ a ∈ l, ∃ e', stepO tg cond elt (en a) (wipeE ws e0) = .ok (g a) e' ∧ wipeE ws e' = wipeE ws e0) → compL ws tg cond elt (l.map en) acc (wipeE ws e0) = .ok (acc ++ l.filterMap g) (wipeE ws e0) := by
    intro l
    induction l with
    | nil => intro acc _; simp [compL, ret]
    | cons a l ih =>
      intro acc h
      obtain ⟨e', h1, h2⟩ := h a List.mem_cons_self
      rw [List.map_cons, compL_step, h1, bndO_ok, h2, ih _ fun b hb => h b (List.mem_cons_of_mem _ hb)]
      cases q : g a <;> simp [List.filterMap_cons, q]
  unfold compM
  have : ¬ sz < (l.map en).length := by simp; exact hl
  rw [if_neg this, hf]
  simp only [key l [] h, List.nil_append]
/-- .. by what holds behind each -/
theorem compM_inv {α : Type} (en : α → D) (l : List α) (I : List α → List D → VEnv → Prop) {ws : List Nat} {tg : Tg} {cond : M Bool} {elt : M D} {e e0 : VEnv} (hf : fzAll ws e = some e0) (hl : l.length ≤ sz) (h0 : I [] [] (wipeE ws e0))
    (hs : ∀ pre a post, l = pre ++ a :: post → ∀ acc e, I pre acc e → ∃ x e', stepO tg cond elt (en a) e = .ok x e' ∧ I (pre ++ [a]) (match x with | some x => acc ++ [x] | none => acc) (wipeE ws e')) :
    ∃ acc e', compM ws tg cond elt (l.map en) e = .ok (.fresh (.list acc)) (back ws e0 e') ∧ I l acc e' := by
  have key : ∀ (post pre : List α), l = pre ++ post → ∀ acc e, I pre acc e → ∃ acc' e', compL ws tg cond elt (post.map en) acc e = .ok acc' e' ∧ I l acc' e' := by
    intro post
    induction post with
    | nil => intro pre hl acc e hI; exact ⟨acc, e, by simp [compL, ret], by rw [hl, List.append_nil]; exact hI⟩
    | cons a post ih =>
      intro pre hl acc e hI
      obtain ⟨x, e', h1, h2⟩ := hs pre a post hl acc e hI
      obtain ⟨acc', e2, h3, h4⟩ := ih (pre ++ [a]) (by rw [hl]; simp) _ _ h2
      exact ⟨acc', e2, by rw [List.map_cons, compL_step, h1, bndO_ok, h3], h4⟩
  obtain ⟨acc, e', h1, h2⟩ := key l [] rfl [] _ h0
  refine ⟨acc, e', ?_, h2⟩
  unfold compM
  have : ¬ sz < (l.map en).length := by simp; exact hl
  rw [if_neg this, hf]
  simp only [h1]
section
variable (c : CallF) (e : VEnv)
def condM (c : CallF) (q : Option E) : M Bool := match q with
  | none => ret true
  | some q => bnd (evE c q) truthM
@[simp] theorem condM_none : condM c none e = .ok true e := (rfl)
@[simp] theorem condM_some (q : E) : condM c (some q) e = bndO (evE c q e) fun r e => bndO (rdM r e) fun d e => optO (truth? d) e := by
  simp only [condM, bnd_fn]
  congr 1; funext r e; rw [truthM_fn]
@[simp] theorem evE_comp (elt : E) (tg : Tg) (it : It) (q : Option E) (ws : List Nat) : evE c (.comp elt tg it q ws) e = bndO (evI c it e) fun ds e => compM ws tg (condM c q) (fzM (evE c elt)) ds e := by
  cases q with
  | none => rw [evE.eq_def]; exact bnd_ap _ _ e
  | some q => rw [evE.eq_def]; exact bnd_ap _ _ e
end
/-! ### defs -/
@[simp] theorem fin_ret0 (n np : Nat) (b : List S) (d : D) (fr : Bool) (e : VEnv) : fin ⟨n, np, [], b⟩ (.ok (.ret d fr) e) = .ok d fr [] := (rfl)
@[simp] theorem fin_nx0 (n np : Nat) (b : List S) (e : VEnv) : fin ⟨n, np, [], b⟩ (.ok .nx e) = .ok .none false [] := (rfl)
@[simp] theorem fin_exc0 (n np : Nat) (b : List S) (x : Nat) (e : VEnv) : fin ⟨n, np, [], b⟩ (.exc x e) = .exc x [] := (rfl)
@[simp] theorem fin_ret1 (n np : Nat) (b : List S) (d o : D) (fr : Bool) (e : VEnv) : fin ⟨n, np, [0], b⟩ (.ok (.ret d fr) (.io o :: e)) = .ok d fr [o] := (rfl)
@[simp] theorem fin_nx1 (n np : Nat) (b : List S) (o : D) (e : VEnv) : fin ⟨n, np, [0], b⟩ (.ok .nx (.io o :: e)) = .ok .none false [o] := (rfl)
@[simp] theorem fin_exc1 (n np : Nat) (b : List S) (x : Nat) (o : D) (e : VEnv) : fin ⟨n, np, [0], b⟩ (.exc x (.io o :: e)) = .exc x [o] := (rfl)
/-! ### concrete states -/
@[simp] theorem gs_zero (s : Slot) (e : VEnv) : gs (s :: e) 0 = s := (rfl)
@[simp] theorem gs_succ (s : Slot) (e : VEnv) (i : Nat) : gs (s :: e) (i + 1) = gs e i := (rfl)
end Ev
/-! text Tab -/
set_option Elab.async false
set_option linter.all false
set_option maxRecDepth 100000
namespace Ev
open PySem
abbrev F_is_number : Nat := 0
abbrev F_is_within : Nat := 1
abbrev F_is_long : Nat := 2
abbrev F_are_numbers : Nat := 3
abbrev F_tupled : Nat := 4
abbrev F_sure_within : Nat := 5
abbrev F_common : Nat := 6
abbrev F_is_shuffle_of : Nat := 7
abbrev F_is_state_of : Nat := 8
abbrev F_is_machine_in : Nat := 9
abbrev F_sure_machine : Nat := 10
abbrev F_is_word_of : Nat := 11
abbrev F_sure_word : Nat := 12
abbrev F_short_in : Nat := 13
abbrev F_step_in : Nat := 14
abbrev F_led_in : Nat := 15
abbrev F_letters_led : Nat := 16
abbrev F_parts_in : Nat := 17
abbrev F_lots_of : Nat := 18
abbrev F_parts_closed : Nat := 19
abbrev F_led_rows : Nat := 20
abbrev F_key_in : Nat := 21
abbrev F_closing_in : Nat := 22
abbrev F_is_nothing_in : Nat := 23
abbrev F_is_nothing : Nat := 24
abbrev F_lots_of_letters : Nat := 25
abbrev F_often_part : Nat := 26
abbrev F_branches : Nat := 27
abbrev F_grown : Nat := 28
abbrev F_growing_round : Nat := 29
abbrev F_round_of : Nat := 30
abbrev F_way_from : Nat := 31
abbrev F_both_times : Nat := 32
abbrev F_orders_of : Nat := 33
abbrev F_order_in : Nat := 34
abbrev F_order : Nat := 35
abbrev F_rows_of_level : Nat := 36
abbrev F_level_rounds : Nat := 37
abbrev F_is_great : Nat := 38
abbrev F_how_many_rows : Nat := 39
abbrev F_sure_height : Nat := 40
abbrev F_sure_few : Nat := 41
abbrev F_rows_in : Nat := 42
abbrev F_number_in : Nat := 43
abbrev F_shuffle_in : Nat := 44
abbrev F_rounds_in : Nat := 45
abbrev F_shuffle_order : Nat := 46
abbrev F_sure_word_at : Nat := 47
abbrev F_level_shuffle : Nat := 48
abbrev F_rounds_of_rows : Nat := 49
abbrev F_level_order : Nat := 50
abbrev F_law_box : Nat := 51
abbrev F_law_take : Nat := 52
abbrev F_law_cells : Nat := 53
abbrev F_law_of : Nat := 54
abbrev F_law_lists : Nat := 55
abbrev F_law_same : Nat := 56
abbrev F_law_common : Nat := 57
abbrev F_law_flat : Nat := 58
abbrev F_law_short : Nat := 59
abbrev F_law_one : Nat := 60
abbrev F_law_step : Nat := 61
abbrev F_law_led : Nat := 62
abbrev F_law_rows : Nat := 63
abbrev F_law_closing : Nat := 64
abbrev F_law_nothing : Nat := 65
abbrev F_law_add : Nat := 66
abbrev F_law_sorts : Nat := 67
abbrev F_law_word : Nat := 68
abbrev F_law_rounds : Nat := 69
abbrev F_law_little : Nat := 70
abbrev F_law_shuffle_of : Nat := 71
abbrev F_law_lap_of : Nat := 72
abbrev F_law_right : Nat := 73
abbrev F_law_lap : Nat := 74
abbrev F_law_k22 : Nat := 75
abbrev F_undone : Nat := 76
abbrev F_is_row_of : Nat := 77
abbrev F_sure_row : Nat := 78
abbrev F_sure_letter : Nat := 79
abbrev F_lots_in : Nat := 80
abbrev F_all_shuffles : Nat := 81
abbrev F_sure_at : Nat := 82
abbrev F_level_rows : Nat := 83
abbrev F_row_number : Nat := 84
abbrev F_lots_at : Nat := 85
abbrev F_level_lots : Nat := 86
abbrev F_is_one_lot : Nat := 87
abbrev F_level_web : Nat := 88
abbrev F_signs_of : Nat := 89
abbrev F_sure_like : Nat := 90
abbrev F_goal_in : Nat := 91
abbrev F_letter_ways : Nat := 92
abbrev F_letter_lot : Nat := 93
abbrev F_machines_beside : Nat := 94
abbrev F_back_of : Nat := 95
abbrev F_machine_back : Nat := 96
abbrev F_machine_relettered : Nat := 97
abbrev F_law_pick : Nat := 98
abbrev F_law_shuffle : Nat := 99
abbrev F_law_any : Nat := 100
abbrev F_law_row : Nat := 101
abbrev F_law_lots : Nat := 102
abbrev F_law_k23 : Nat := 103
abbrev F_then : Nat := 104
abbrev F_still_of : Nat := 105
abbrev F_first_moved : Nat := 106
abbrev F_ladder_of : Nat := 107
abbrev F_size_at : Nat := 108
abbrev F_sure_low : Nat := 109
abbrev F_level_size : Nat := 110
abbrev F_level_sizes : Nat := 111
abbrev F_is_made_at : Nat := 112
abbrev F_whole_in : Nat := 113
abbrev F_whole_size : Nat := 114
abbrev F_below_size : Nat := 115
abbrev F_state_lots : Nat := 116
abbrev F_least_in : Nat := 117
abbrev F_least_machine : Nat := 118
abbrev F_block_state : Nat := 119
abbrev F_machine_blocks : Nat := 120
abbrev F_law_group : Nat := 121
abbrev F_law_k24 : Nat := 122
abbrev F_back_in : Nat := 123
abbrev F_steps_to : Nat := 124
abbrev F_are_same_in : Nat := 125
abbrev F_sure_two : Nat := 126
abbrev F_are_same : Nat := 127
abbrev F_parting_row : Nat := 128
abbrev F_numbers_of : Nat := 129
abbrev F_spheres_in : Nat := 130
abbrev F_ball_sizes : Nat := 131
abbrev F_ball_words : Nat := 132
abbrev F_fewest_word : Nat := 133
abbrev F_fewest_numbers : Nat := 134
abbrev F_law_words : Nat := 135
abbrev F_law_k25 : Nat := 136
abbrev F_ways_from : Nat := 137
abbrev F_sure_two_rows : Nat := 138
abbrev F_farthest_row : Nat := 139
abbrev F_turns_in : Nat := 140
abbrev F_sure_turns : Nat := 141
abbrev F_next_sums : Nat := 142
abbrev F_all_sums : Nat := 143
abbrev F_word_sum : Nat := 144
abbrev F_word_sums : Nat := 145
abbrev F_bad_level : Nat := 146
abbrev F_is_one_round : Nat := 147
abbrev F_adding_machine : Nat := 148
abbrev F_basilica_machine : Nat := 149
abbrev F_lamps_machine : Nat := 150
abbrev F_cube_machine : Nat := 151
abbrev F_free_machine : Nat := 152
abbrev F_sorts_machine : Nat := 153
abbrev F_pairs_of_pegs : Nat := 154
abbrev F_towers_machine : Nat := 155
abbrev F_law_k26 : Nat := 156
abbrev F_word_back : Nat := 157
abbrev F_row_led : Nat := 158
abbrev F_row_way : Nat := 159
abbrev F_moved_tower : Nat := 160
abbrev F_tower_word : Nat := 161
abbrev F_law_far : Nat := 162
abbrev F_law_k27 : Nat := 163
abbrev F_part_at : Nat := 164
abbrev F_mirror_of : Nat := 165
abbrev F_can_mirror : Nat := 166
abbrev F_is_turnable : Nat := 167
abbrev F_is_both_ways : Nat := 168
abbrev F_machine_mirrored : Nat := 169
abbrev F_law_part : Nat := 170
abbrev F_law_turned : Nat := 171
abbrev F_law_k28 : Nat := 172
abbrev F_idle_in : Nat := 173
abbrev F_working : Nat := 174
abbrev F_led_to : Nat := 175
abbrev F_working_parts : Nat := 176
abbrev F_counts_at : Nat := 177
abbrev F_on_round : Nat := 178
abbrev F_ways_back : Nat := 179
abbrev F_chain_from : Nat := 180
abbrev F_degree_from : Nat := 181
abbrev F_kind_of : Nat := 182
abbrev F_greatest : Nat := 183
abbrev F_sure_level : Nat := 184
abbrev F_activity : Nat := 185
abbrev F_activities : Nat := 186
abbrev F_working_states : Nat := 187
abbrev F_state_kind : Nat := 188
abbrev F_machine_kind : Nat := 189
abbrev F_depth_of : Nat := 190
abbrev F_law_works : Nat := 191
abbrev F_law_active : Nat := 192
abbrev F_law_k29 : Nat := 193
abbrev F_beside_in : Nat := 194
abbrev F_matched_in : Nat := 195
abbrev F_same_states : Nat := 196
abbrev F_is_least : Nat := 197
abbrev F_idle_states : Nat := 198
abbrev F_state_matches : Nat := 199
abbrev F_do_alike : Nat := 200
abbrev F_machine_of : Nat := 201
abbrev F_states_renamed : Nat := 202
abbrev F_is_bounded : Nat := 203
abbrev F_law_classes : Nat := 204
abbrev F_law_doubled : Nat := 205
abbrev F_law_order : Nat := 206
abbrev F_law_k35 : Nat := 207
abbrev F_letters_shuffled : Nat := 208
abbrev F_keeper_at : Nat := 209
abbrev F_keepers_in : Nat := 210
abbrev F_keeps_letter : Nat := 211
abbrev F_keepers : Nat := 212
abbrev F_keeper_parts : Nat := 213
abbrev F_row_of_keepers : Nat := 214
abbrev F_keeper_row : Nat := 215
abbrev F_is_keeper_row : Nat := 216
abbrev F_law_k48 : Nat := 217
abbrev F_short_words : Nat := 218
abbrev F_keeps_letters : Nat := 219
abbrev F_is_lift_of : Nat := 220
abbrev F_sure_lift : Nat := 221
abbrev F_lifted_in : Nat := 222
abbrev F_is_lift : Nat := 223
abbrev F_lifted : Nat := 224
abbrev F_lifted_often : Nat := 225
abbrev F_parts_of_images : Nat := 226
abbrev F_lift_at : Nat := 227
abbrev F_is_risen : Nat := 228
abbrev F_image_of : Nat := 229
abbrev F_first_lift : Nat := 230
abbrev F_risen_rules : Nat := 231
abbrev F_law_back : Nat := 232
abbrev F_law_k49 : Nat := 233
abbrev F_shortened : Nat := 234
abbrev F_word_often : Nat := 235
abbrev F_joined : Nat := 236
abbrev F_turned : Nat := 237
abbrev F_do_commute : Nat := 238
abbrev F_law_bounded : Nat := 239
abbrev F_law_k59 : Nat := 240
abbrev F_ascends : Nat := 241
abbrev F_parts_of : Nat := 242
abbrev F_is_lot_of : Nat := 243
abbrev F_closed_lot : Nat := 244
abbrev F_is_closed_lot : Nat := 245
abbrev F_moved_row : Nat := 246
abbrev F_is_parting : Nat := 247
abbrev F_words_seen : Nat := 248
abbrev F_parts_machine : Nat := 249
abbrev F_part_words : Nat := 250
abbrev F_law_moved : Nat := 251
abbrev F_law_call : Nat := 252
abbrev F_law_k60 : Nat := 253
abbrev F_same_as : Nat := 254
abbrev F_states_and_backs : Nat := 255
abbrev F_sure_short : Nat := 256
abbrev F_key_of : Nat := 257
abbrev F_makers_of : Nat := 258
abbrev F_known_parts : Nat := 259
abbrev F_lasting : Nat := 260
abbrev F_nucleus_in : Nat := 261
abbrev F_less_long : Nat := 262
abbrev F_next_parts : Nat := 263
abbrev F_depth_for : Nat := 264
abbrev F_depth_in : Nat := 265
abbrev F_pairs_of : Nat := 266
abbrev F_all_keyed : Nat := 267
abbrev F_is_contraction_of : Nat := 268
abbrev F_nucleus : Nat := 269
abbrev F_nucleus_size : Nat := 270
abbrev F_contraction : Nat := 271
abbrev F_is_contraction : Nat := 272
abbrev F_known_machine : Nat := 273
abbrev F_law_k67 : Nat := 274
abbrev F_is_end_of : Nat := 275
abbrev F_sure_end : Nat := 276
abbrev F_least_round : Nat := 277
abbrev F_least_in_end : Nat := 278
abbrev F_long_end : Nat := 279
abbrev F_both_long : Nat := 280
abbrev F_cyclic_words : Nat := 281
abbrev F_end_paper_in : Nat := 282
abbrev F_last_part : Nat := 283
abbrev F_is_end_paper_of : Nat := 284
abbrev F_is_end : Nat := 285
abbrev F_end_letters : Nat := 286
abbrev F_least_end : Nat := 287
abbrev F_sure_ends : Nat := 288
abbrev F_are_one_point : Nat := 289
abbrev F_ends_alike : Nat := 290
abbrev F_law_end : Nat := 291
abbrev F_law_named : Nat := 292
abbrev F_law_k68 : Nat := 293
abbrev F_law_k69 : Nat := 294
abbrev F_is_turning : Nat := 295
abbrev F_state_turns : Nat := 296
abbrev F_level_sum : Nat := 297
abbrev F_sums_round : Nat := 298
abbrev F_is_adding : Nat := 299
abbrev F_first_unadding : Nat := 300
abbrev F_pair_state : Nat := 301
abbrev F_machines_behind : Nat := 302
abbrev F_law_turning : Nat := 303
abbrev F_law_sum : Nat := 304
abbrev F_law_k74 : Nat := 305
abbrev F_steps_of : Nat := 306
abbrev F_never_in : Nat := 307
abbrev F_times_round : Nat := 308
abbrev F_gone_on : Nat := 309
abbrev F_are_steps_of : Nat := 310
abbrev F_is_never_of : Nat := 311
abbrev F_never_paper : Nat := 312
abbrev F_is_never_paper : Nat := 313
abbrev F_law_k75 : Nat := 314
abbrev F_way_to : Nat := 315
abbrev F_fast_paper : Nat := 316
abbrev F_is_fast_paper : Nat := 317
abbrev F_part_state : Nat := 318
abbrev F_is_bar_of : Nat := 319
abbrev F_words_up_to : Nat := 320
abbrev F_rows_up_to : Nat := 321
abbrev F_bar_in : Nat := 322
abbrev F_contraction_bar : Nat := 323
abbrev F_is_claim_of : Nat := 324
abbrev F_sure_claim : Nat := 325
abbrev F_asked_of : Nat := 326
abbrev F_often_said : Nat := 327
abbrev F_unmatched : Nat := 328
abbrev F_ranks_of : Nat := 329
abbrev F_are_ranks_of : Nat := 330
abbrev F_holds_in : Nat := 331
abbrev F_reason_in : Nat := 332
abbrev F_paper_in : Nat := 333
abbrev F_are_matches : Nat := 334
abbrev F_is_reason_of : Nat := 335
abbrev F_is_paper_of : Nat := 336
abbrev F_is_claim : Nat := 337
abbrev F_claim_holds : Nat := 338
abbrev F_claim_reason : Nat := 339
abbrev F_claim_paper : Nat := 340
abbrev F_is_claim_reason : Nat := 341
abbrev F_is_claim_paper : Nat := 342
abbrev F_first_to_fall : Nat := 343
abbrev F_law_case : Nat := 344
abbrev F_law_of_word : Nat := 345
abbrev F_law_k76 : Nat := 346
abbrev F_letter_branches : Nat := 347
abbrev F_law_branches : Nat := 348
abbrev F_law_k77 : Nat := 349
abbrev F_run_from : Nat := 350
abbrev F_line_words : Nat := 351
abbrev F_words : Nat := 352
abbrev F_word_of : Nat := 353
abbrev F_is_name : Nat := 354
abbrev F_are_small : Nat := 355
abbrev F_is_thing_of : Nat := 356
abbrev F_is_book_of : Nat := 357
abbrev F_sure_book : Nat := 358
abbrev F_rows_of : Nat := 359
abbrev F_numbered : Nat := 360
abbrev F_rows_of_value : Nat := 361
abbrev F_book_text : Nat := 362
abbrev F_is_line : Nat := 363
abbrev F_sure_kinds : Nat := 364
abbrev F_made_of : Nat := 365
abbrev F_yes_or_no : Nat := 366
abbrev F_told_of : Nat := 367
abbrev F_laid : Nat := 368
abbrev F_shown : Nat := 369
abbrev F_things_at : Nat := 370
abbrev F_done : Nat := 371
abbrev F_answered : Nat := 372
abbrev F_law_said : Nat := 373
abbrev F_law_k78 : Nat := 374
abbrev F_is_figures : Nat := 375
abbrev F_number_of : Nat := 376
abbrev F_is_row_fit : Nat := 377
abbrev F_value_of : Nat := 378
abbrev F_heads_and_rows : Nat := 379
abbrev F_read_book_in : Nat := 380
abbrev F_is_thing : Nat := 381
abbrev F_is_book : Nat := 382
abbrev F_read_book : Nat := 383
abbrev F_names_of_kind : Nat := 384
abbrev F_thing_named : Nat := 385
abbrev F_law_rows_v2 : Nat := 386
abbrev F_law_k79 : Nat := 387
abbrev F_round_states : Nat := 388
abbrev F_law_led_to : Nat := 389
abbrev F_law_kinds : Nat := 390
abbrev F_law_long : Nat := 391
abbrev F_law_k81 : Nat := 392
abbrev F_times_between : Nat := 393
abbrev F_law_number : Nat := 394
abbrev F_law_digits : Nat := 395
abbrev F_law_told : Nat := 396
abbrev F_law_sum_v2 : Nat := 397
abbrev F_law_k82 : Nat := 398
abbrev F_law_made : Nat := 399
abbrev F_law_told_v2 : Nat := 400
abbrev F_law_k83 : Nat := 401
abbrev F_law_is_contraction : Nat := 402
abbrev F_law_k89 : Nat := 403
/-- is_number: 0:thing -/
def b_is_number : List S := [.ret (.and (.isi [.int] (.var 0)) (.not (.isi [.bool] (.var 0))))]
/-- is_within: 0:thing 1:least 2:most -/
def b_is_within : List S := [.ret (.and (.call F_is_number [] [(.var 0)]) (.chain .le .le (.var 1) (.var 0) (.var 2)))]
/-- is_long: 0:thing 1:length -/
def b_is_long : List S := [.ret (.and (.isi [.tuple] (.var 0)) (.cmp .eq (.bi .len [(.var 0)]) (.var 1)))]
/-- are_numbers: 0:thing 1:own -/
def b_are_numbers : List S := [.ret (.and (.isi [.tuple] (.var 0)) (.bi .all [(.comp (.call F_is_number [] [(.var 1)]) (.nm 1) (.src (.var 0)) none [1])]))]
/-- tupled: 0:value 1:own -/
def b_tupled : List S := [.ret (.ite (.isi [.list, .tuple] (.var 0)) (.bi .tuple [(.comp (.call F_tupled [] [(.var 1)]) (.nm 1) (.src (.var 0)) none [1])]) (.var 0))]
/-- sure_within: 0:thing 1:least 2:most -/
def b_sure_within : List S := [.ite (.not (.call F_is_within [] [(.var 0), (.var 1), (.var 2)])) [.ex (.neg (.cst .none))] [], .ret (.var 0)]
/-- is_shuffle_of: 0:many 1:thing -/
def b_is_shuffle_of : List S := [.ret (.and (.call F_is_long [] [(.var 1), (.var 0)]) (.and (.call F_are_numbers [] [(.var 1)]) (.cmp .eq (.bi .sorted [(.var 1)]) (.rngL (.cst (.int 0)) (.var 0)))))]
/-- is_state_of: 0:wide 1:many 2:thing 3:own -/
def b_is_state_of : List S := [.ite (.or (.not (.call F_is_long [] [(.var 2), (.cst (.int 2))])) (.or (.not (.call F_is_shuffle_of [] [(.var 0), (.idx (.var 2) (.cst (.int 0)))])) (.not (.call F_is_long [] [(.idx (.var 2) (.cst (.int 1))), (.var 0)])))) [.ret (.cst (.bool false))] [], .ret (.bi .all [(.comp (.call F_is_within [] [(.var 3), (.cst (.int 0)), (.bin .sub (.var 1) (.cst (.int 1)))]) (.nm 3) (.src (.idx (.var 2) (.cst (.int 1)))) none [3])])]
/-- is_machine_in: 0:thing 1:many 2:own -/
def b_is_machine_in : List S := [.ite (.or (.not (.call F_is_long [] [(.var 0), (.cst (.int 2))])) (.or (.not (.call F_is_within [] [(.idx (.var 0) (.cst (.int 0))), (.cst (.int 2)), (.cst (.int 5))])) (.not (.isi [.tuple] (.idx (.var 0) (.cst (.int 1))))))) [.ret (.cst (.bool false))] [], .asg (.nm 1) (.bi .len [(.idx (.var 0) (.cst (.int 1)))]), .ret (.and (.chain .le .le (.cst (.int 1)) (.var 1) (.cst (.int 12))) (.bi .all [(.comp (.call F_is_state_of [] [(.idx (.var 0) (.cst (.int 0))), (.var 1), (.var 2)]) (.nm 2) (.src (.idx (.var 0) (.cst (.int 1)))) none [2])]))]
/-- sure_machine: 0:value 1:own -/
def b_sure_machine : List S := [.asg (.nm 1) (.call F_tupled [] [(.var 0)]), .ite (.not (.call F_is_machine_in [] [(.var 1)])) [.ex (.neg (.cst .none))] [], .ret (.var 1)]
/-- is_word_of: 0:machine 1:thing 2:many 3:own -/
def b_is_word_of : List S := [.asg (.nm 2) (.bi .len [(.idx (.var 0) (.cst (.int 1)))]), .ret (.and (.call F_are_numbers [] [(.var 1)]) (.bi .all [(.comp (.and (.cmp .ne (.var 3) (.cst (.int 0))) (.cmp .le (.bi .abs [(.var 3)]) (.var 2))) (.nm 3) (.src (.var 1)) none [3])]))]
/-- sure_word: 0:machine 1:value 2:own -/
def b_sure_word : List S := [.asg (.nm 2) (.call F_tupled [] [(.var 1)]), .ite (.or (.not (.call F_is_word_of [] [(.var 0), (.var 2)])) (.cmp .gt (.bi .len [(.var 2)]) (.cst (.int 40)))) [.ex (.neg (.cst .none))] [], .ret (.var 2)]
/-- short_in: 0:word 1:found 2:own -/
def b_short_in : List S := [.asg (.nm 1) (.lst []), .forr (.nm 2) (.src (.var 0)) [.ite (.and (.cmp .ne (.var 1) (.lst [])) (.cmp .eq (.idx (.var 1) (.neg (.cst (.int 1)))) (.neg (.var 2)))) [.ex (.pop 1)] [.ex (.app 1 (.var 2))]], .ret (.bi .tuple [(.var 1)])]
/-- step_in: 0:machine 1:word 2:letter 3:found 4:own 5:outs 6:nexts -/
def b_step_in : List S := [.asg (.nm 3) (.lst []), .forr (.nm 4) (.src (.var 1)) [.asg (.tp [(.nm 5), (.nm 6)]) (.idx (.idx (.var 0) (.cst (.int 1))) (.bin .sub (.bi .abs [(.var 4)]) (.cst (.int 1)))), .ite (.cmp .gt (.var 4) (.cst (.int 0))) [.ex (.app 3 (.bin .add (.idx (.var 6) (.var 2)) (.cst (.int 1)))), .asg (.nm 2) (.idx (.var 5) (.var 2))] [.asg (.nm 2) (.mth .index (.var 5) [(.var 2)]), .ex (.app 3 (.bin .sub (.neg (.idx (.var 6) (.var 2))) (.cst (.int 1))))]], .ret (.tup [(.var 2), (.call F_short_in [] [(.var 3)])])]
/-- led_in: 0:machine 1:word 2:row 3:letter 4:found 5:here 6:goal -/
def b_led_in : List S := [.pars [4, 5] [(.lst []), (.call F_short_in [] [(.var 1)])], .forr (.nm 3) (.src (.var 2)) [.asg (.tp [(.nm 6), (.nm 5)]) (.call F_step_in [] [(.var 0), (.var 5), (.var 3)]), .ex (.app 4 (.var 6))], .ret (.tup [(.bi .tuple [(.var 4)]), (.var 5)])]
/-- letters_led: 0:machine 1:word 2:letter -/
def b_letters_led : List S := [.ret (.bi .tuple [(.comp (.idx (.call F_step_in [] [(.var 0), (.var 1), (.var 2)]) (.cst (.int 0))) (.nm 2) (.rng1 (.idx (.var 0) (.cst (.int 0)))) none [2])])]
/-- closing_in: 0:machine 1:word 2:still 3:first 4:rows 5:known 6:place 7:led 8:letter 9:own 10:row 11:part 12:its -/
def b_closing_in : List S := [.asg (.nm 2) (.rngT (.cst (.int 0)) (.idx (.var 0) (.cst (.int 0)))), .asg (.nm 3) (.call F_short_in [] [(.var 1)]), .pars [4, 5, 6] [(.lst [(.tup [(.var 3), (.tup [])])]), (.dic1 (.var 3) (.cst (.bool true))), (.cst (.int 0))], .whl (.cmp .lt (.var 6) (.bi .len [(.var 4)])) [.asg (.tp [(.nm 9), (.nm 10)]) (.idx (.var 4) (.var 6)), .aug 6 (.cst (.int 1)), .asg (.nm 7) (.call F_letters_led [] [(.var 0), (.var 9)]), .ite (.cmp .ne (.var 7) (.var 2)) [.asg (.nm 8) (.idx (.comp (.var 12) (.nm 12) (.src (.var 2)) (some (.cmp .ne (.idx (.var 7) (.var 12)) (.var 12))) [12]) (.cst (.int 0))), .ret (.tup [(.cst (.str "row")), (.bin .add (.var 10) (.tup [(.var 8)]))])] [], .forr (.nm 8) (.src (.var 2)) [.asg (.nm 11) (.idx (.call F_step_in [] [(.var 0), (.var 9), (.var 8)]) (.cst (.int 1))), .ite (.cmp .notIn (.var 11) (.var 5)) [.ite (.cmp .eq (.bi .len [(.var 5)]) (.cst (.int 5000))) [.ex (.neg (.cst .none))] [], .setI 5 (.var 11) (.cst (.bool true)), .ex (.app 4 (.tup [(.var 11), (.bin .add (.var 10) (.tup [(.var 8)]))]))] []]], .ret (.tup [(.cst (.str "lot")), (.bi .tuple [(.bi .sorted [(.var 5)])])])]
/-- is_nothing_in: 0:machine 1:word -/
def b_is_nothing_in : List S := [.ret (.cmp .eq (.idx (.call F_closing_in [] [(.var 0), (.var 1)]) (.cst (.int 0))) (.cst (.str "lot")))]
/-- is_nothing: 0:machine 1:word 2:own -/
def b_is_nothing : List S := [.asg (.nm 2) (.call F_sure_machine [] [(.var 0)]), .ret (.call F_is_nothing_in [] [(.var 2), (.call F_sure_word [] [(.var 2), (.var 1)])])]
/-- how_many_rows: 0:wide 1:level 2:found 3:lap -/
def b_how_many_rows : List S := [.asg (.nm 2) (.cst (.int 1)), .forr (.nm 3) (.rng1 (.var 1)) [.asg (.nm 2) (.bin .mul (.var 2) (.var 0))], .ret (.var 2)]
/-- sure_height: 0:value -/
def b_sure_height : List S := [.ret (.call F_sure_within [] [(.var 0), (.cst (.int 0)), (.cst (.int 10))])]
/-- sure_few: 0:machine 1:level 2:most -/
def b_sure_few : List S := [.ite (.cmp .gt (.call F_how_many_rows [] [(.idx (.var 0) (.cst (.int 0))), (.var 1)]) (.var 2)) [.ex (.neg (.cst .none))] [], .ret (.var 1)]
/-- rows_in: 0:wide 1:level 2:found 3:lap 4:later 5:own 6:letter -/
def b_rows_in : List S := [.asg (.nm 2) (.lst [(.tup [])]), .forr (.nm 3) (.rng1 (.var 1)) [.asg (.nm 4) (.lst []), .forr (.nm 5) (.src (.var 2)) [.ex (.ext 4 (.comp (.bin .add (.var 5) (.tup [(.var 6)])) (.nm 6) (.rng1 (.var 0)) none [6]))], .asg (.nm 2) (.var 4)], .ret (.var 2)]
/-- number_in: 0:wide 1:row 2:found 3:letter -/
def b_number_in : List S := [.asg (.nm 2) (.cst (.int 0)), .forr (.nm 3) (.src (.var 1)) [.asg (.nm 2) (.bin .add (.bin .mul (.var 2) (.var 0)) (.var 3))], .ret (.var 2)]
/-- shuffle_in: 0:machine 1:word 2:level 3:row -/
def b_shuffle_in : List S := [.ret (.bi .tuple [(.comp (.call F_number_in [] [(.idx (.var 0) (.cst (.int 0))), (.idx (.call F_led_in [] [(.var 0), (.var 1), (.var 3)]) (.cst (.int 0)))]) (.nm 3) (.src (.call F_rows_in [] [(.idx (.var 0) (.cst (.int 0))), (.var 2)])) none [3])])]
/-- sure_word_at: 0:machine 1:word 2:level 3:own 4:told 5:many -/
def b_sure_word_at : List S := [.asg (.nm 3) (.call F_sure_machine [] [(.var 0)]), .asg (.nm 4) (.call F_sure_word [] [(.var 3), (.var 1)]), .asg (.nm 5) (.call F_sure_height [] [(.var 2)]), .ret (.tup [(.var 3), (.var 4), (.call F_sure_few [] [(.var 3), (.var 5), (.cst (.int 1024))])])]
/-- level_shuffle: 0:machine 1:word 2:level 3:own 4:told 5:many -/
def b_level_shuffle : List S := [.asg (.tp [(.nm 3), (.nm 4), (.nm 5)]) (.call F_sure_word_at [] [(.var 0), (.var 1), (.var 2)]), .ret (.call F_shuffle_in [] [(.var 3), (.var 4), (.var 5)])]
/-- law_box: 0:script 1:k 2:bit_so -/
def b_law_box : List S := [.asg (.nm 2) (.ite (.cmp .lt (.var 1) (.bi .len [(.var 0)])) (.idx (.var 0) (.var 1)) (.cst (.int 0))), .ret (.lst [(.bin .mul (.bi .abs [(.var 2)]) (.bi .int [(.cmp .ge (.bi .abs [(.var 2)]) (.bin .pow (.cst (.int 10)) (.cst (.int 18))))])), (.bin .add (.bin .add (.bin .mod (.bi .int [(.var 2)]) (.cst (.int 2305843009213693951))) (.bin .mul (.cst (.int 39373)) (.var 1))) (.cst (.int 251510))), (.cst (.int 0))])]
/-- law_take: 0:tin 1:below_so 2:once_so 3:wide_so 4:twice_so 5:drawn_so -/
def b_law_take : List S := [.ite (.cmp .gt (.idx (.var 0) (.cst (.int 0))) (.cst (.int 0))) [.asg (.nm 5) (.bin .mod (.bi .int [(.idx (.var 0) (.cst (.int 0)))]) (.var 1)), .setI 0 (.cst (.int 0)) (.bin .fdiv (.idx (.var 0) (.cst (.int 0))) (.var 1)), .ret (.var 5)] [], .setI 0 (.cst (.int 2)) (.bin .add (.idx (.var 0) (.cst (.int 2))) (.cst (.int 1))), .asg (.nm 2) (.bin .mod (.bi .int [(.bin .mul (.bin .add (.idx (.var 0) (.cst (.int 1))) (.bin .mul (.cst (.int 48271)) (.idx (.var 0) (.cst (.int 2))))) (.bin .add (.cst (.int 39373)) (.idx (.var 0) (.cst (.int 2)))))]) (.cst (.int 2147483647))), .asg (.nm 3) (.bin .add (.bin .mod (.bi .int [(.var 2)]) (.cst (.int 40009))) (.cst (.int 7))), .asg (.nm 4) (.bin .mod (.bi .int [(.bin .mul (.bin .add (.bin .add (.var 2) (.idx (.var 0) (.cst (.int 2)))) (.bin .fdiv (.idx (.var 0) (.cst (.int 1))) (.cst (.int 1000003)))) (.var 3))]) (.cst (.int 2147483629))), .ret (.bin .mod (.bi .int [(.bin .fdiv (.bin .mod (.bi .int [(.bin .add (.bin .mul (.var 4) (.cst (.int 48271))) (.var 2))]) (.cst (.int 2147483587))) (.cst (.int 64)))]) (.var 1))]
/-- law_cells: 0:script 1:most_so 2:cells_so 3:k 4:bit_so 5:at_so -/
def b_law_cells : List S := [.asg (.nm 2) (.or (.bi .list [(.sl (.var 0) none (some (.var 1)))]) (.lst [(.cst (.int 0))])), .forr (.tp [(.nm 3), (.nm 4)]) (.enum (.sl (.var 0) (some (.var 1)) (some (.cst (.int 63))))) [.asg (.nm 5) (.bin .mod (.bi .int [(.var 3)]) (.var 1)), .setI 2 (.var 5) (.bin .add (.idx (.var 2) (.var 5)) (.bin .mul (.var 4) (.bin .add (.var 3) (.cst (.int 2)))))], .ret (.var 2)]
/-- law_lists: 0:matter 1:bit -/
def b_law_lists : List S := [.ret (.ite (.isi [.list, .tuple] (.var 0)) (.comp (.call F_law_lists [] [(.var 1)]) (.nm 1) (.src (.var 0)) none [1]) (.var 0))]
/-- law_same: 0:got 1:due 2:mine 3:its -/
def b_law_same : List S := [.ite (.isi [.list, .tuple] (.var 1)) [.ite (.or (.cmp .ne (.isi [.list] (.var 0)) (.isi [.list] (.var 1))) (.cmp .ne (.isi [.tuple] (.var 0)) (.isi [.tuple] (.var 1)))) [.ret (.cst (.bool false))] [], .ret (.and (.cmp .eq (.bi .len [(.var 0)]) (.bi .len [(.var 1)])) (.bi .all [(.comp (.call F_law_same [] [(.var 2), (.var 3)]) (.tp [(.nm 2), (.nm 3)]) (.zip2 (.var 0) (.var 1)) none [2, 3])]))] [], .ite (.isN (.var 1)) [.ret (.isN (.var 0))] [], .ite (.isi [.bool, .str] (.var 1)) [.ret (.and (.cmp .eq (.isi [.bool] (.var 0)) (.isi [.bool] (.var 1))) (.and (.cmp .eq (.isi [.str] (.var 0)) (.isi [.str] (.var 1))) (.cmp .eq (.var 0) (.var 1))))] [], .ret (.and (.isi [.int] (.var 0)) (.and (.not (.isi [.bool] (.var 0))) (.cmp .eq (.var 0) (.var 1))))]
/-- law_flat: 0:rows_so 1:found 2:own -/
def b_law_flat : List S := [.asg (.nm 1) (.lst []), .forr (.nm 2) (.src (.var 0)) [.ex (.ext 1 (.var 2))], .ret (.var 1)]
/-- law_one: 0:machine_so 1:k 2:x 3:y 4:outs_so 5:nexts_so -/
def b_law_one : List S := [.asg (.tp [(.nm 4), (.nm 5)]) (.idx (.idx (.var 0) (.cst (.int 1))) (.bin .sub (.bi .abs [(.var 1)]) (.cst (.int 1)))), .ite (.cmp .gt (.var 1) (.cst (.int 0))) [.ret (.tup [(.idx (.var 4) (.var 2)), (.bin .add (.idx (.var 5) (.var 2)) (.cst (.int 1)))])] [], .forr (.nm 3) (.rng1 (.idx (.var 0) (.cst (.int 0)))) [.ite (.cmp .eq (.idx (.var 4) (.var 3)) (.var 2)) [.ret (.tup [(.var 3), (.bin .sub (.bin .sub (.cst (.int 0)) (.idx (.var 5) (.var 3))) (.cst (.int 1)))])] []], .ret (.cst .none)]
/-- law_step: 0:machine_so 1:word_so 2:x 3:found 4:own 5:k -/
def b_law_step : List S := [.asg (.nm 3) (.lst []), .forr (.nm 4) (.src (.var 1)) [.asg (.tp [(.nm 2), (.nm 5)]) (.call F_law_one [] [(.var 0), (.var 4), (.var 2)]), .ex (.app 3 (.var 5))], .ret (.tup [(.var 2), (.bi .tuple [(.var 3)])])]
/-- law_rows: 0:wide_so 1:long_so 2:found 3:lap 4:own 5:x -/
def b_law_rows : List S := [.asg (.nm 2) (.lst [(.tup [])]), .forr (.nm 3) (.rng1 (.var 1)) [.asg (.nm 2) (.call F_law_flat [] [(.comp (.comp (.bin .add (.var 4) (.tup [(.var 5)])) (.nm 5) (.rng1 (.var 0)) none [5]) (.nm 4) (.src (.var 2)) none [4])])], .ret (.var 2)]
/-- undone: 0:shuffle 1:found 2:place 3:own -/
def b_undone : List S := [.asg (.nm 1) (.bin .mul (.lst [(.cst (.int 0))]) (.bi .len [(.var 0)])), .forr (.tp [(.nm 2), (.nm 3)]) (.enum (.var 0)) [.setI 1 (.var 3) (.var 2)], .ret (.bi .tuple [(.var 1)])]
/-- is_row_of: 0:wide 1:thing 2:own -/
def b_is_row_of : List S := [.ret (.and (.isi [.tuple] (.var 1)) (.bi .all [(.comp (.call F_is_within [] [(.var 2), (.cst (.int 0)), (.bin .sub (.var 0) (.cst (.int 1)))]) (.nm 2) (.src (.var 1)) none [2])]))]
/-- sure_row: 0:machine 1:value 2:own -/
def b_sure_row : List S := [.asg (.nm 2) (.call F_tupled [] [(.var 1)]), .ite (.or (.not (.call F_is_row_of [] [(.idx (.var 0) (.cst (.int 0))), (.var 2)])) (.cmp .gt (.bi .len [(.var 2)]) (.cst (.int 40)))) [.ex (.neg (.cst .none))] [], .ret (.var 2)]
/-- lots_in: 0:shuffles 1:many 2:place 3:found 4:seen 5:own 6:line 7:here 8:shuffle 9:goal -/
def b_lots_in : List S := [.pars [3, 4] [(.lst []), (.bin .mul (.lst [(.cst (.bool false))]) (.var 1))], .forr (.nm 2) (.rng1 (.var 1)) [.ite (.not (.idx (.var 4) (.var 2))) [.pars [5, 6] [(.lst []), (.lst [(.var 2)])], .setI 4 (.var 2) (.cst (.bool true)), .whl (.cmp .ne (.var 6) (.lst [])) [.asg (.nm 7) (.pop 6), .ex (.app 5 (.var 7)), .forr (.nm 8) (.src (.var 0)) [.asg (.nm 9) (.idx (.var 8) (.var 7)), .ite (.not (.idx (.var 4) (.var 9))) [.setI 4 (.var 9) (.cst (.bool true)), .ex (.app 6 (.var 9))] []]], .ex (.app 3 (.bi .tuple [(.bi .sorted [(.var 5)])]))] []], .ret (.var 3)]
/-- all_shuffles: 0:machine 1:level 2:number -/
def b_all_shuffles : List S := [.ret (.comp (.call F_shuffle_in [] [(.var 0), (.tup [(.bin .add (.var 2) (.cst (.int 1)))]), (.var 1)]) (.nm 2) (.rng1 (.bi .len [(.idx (.var 0) (.cst (.int 1)))])) none [2])]
/-- sure_at: 0:machine 1:level 2:own 3:many -/
def b_sure_at : List S := [.asg (.nm 2) (.call F_sure_machine [] [(.var 0)]), .asg (.nm 3) (.call F_sure_height [] [(.var 1)]), .ret (.tup [(.var 2), (.call F_sure_few [] [(.var 2), (.var 3), (.cst (.int 1024))])])]
/-- lots_at: 0:machine 1:level 2:rows 3:lot 4:place -/
def b_lots_at : List S := [.asg (.nm 2) (.call F_rows_in [] [(.idx (.var 0) (.cst (.int 0))), (.var 1)]), .ret (.comp (.bi .tuple [(.comp (.idx (.var 2) (.var 4)) (.nm 4) (.src (.var 3)) none [4])]) (.nm 3) (.src (.call F_lots_in [] [(.call F_all_shuffles [] [(.var 0), (.var 1)]), (.bi .len [(.var 2)])])) none [3])]
/-- level_lots: 0:machine 1:level 2:own 3:many -/
def b_level_lots : List S := [.asg (.tp [(.nm 2), (.nm 3)]) (.call F_sure_at [] [(.var 0), (.var 1)]), .ret (.call F_lots_at [] [(.var 2), (.var 3)])]
/-- is_one_lot: 0:machine 1:level 2:own 3:many -/
def b_is_one_lot : List S := [.asg (.tp [(.nm 2), (.nm 3)]) (.call F_sure_at [] [(.var 0), (.var 1)]), .ret (.cmp .eq (.bi .len [(.call F_lots_at [] [(.var 2), (.var 3)])]) (.cst (.int 1)))]
/-- back_of: 0:machine 1:states 2:outs 3:nexts 4:turned 5:own -/
def b_back_of : List S := [.asg (.nm 1) (.lst []), .forr (.tp [(.nm 2), (.nm 3)]) (.src (.idx (.var 0) (.cst (.int 1)))) [.asg (.nm 4) (.call F_undone [] [(.var 2)]), .ex (.app 1 (.tup [(.var 4), (.bi .tuple [(.comp (.idx (.var 3) (.var 5)) (.nm 5) (.src (.var 4)) none [5])])]))], .ret (.tup [(.idx (.var 0) (.cst (.int 0))), (.bi .tuple [(.var 1)])])]
/-- machine_back: 0:machine -/
def b_machine_back : List S := [.ret (.call F_back_of [] [(.call F_sure_machine [] [(.var 0)])])]
/-- law_pick: 0:tin 1:goods_so 2:count_so 3:lap 4:pool_so 5:found -/
def b_law_pick : List S := [.pars [4, 5] [(.bi .list [(.var 1)]), (.lst [])], .forr (.nm 3) (.rng1 (.bi .min2 [(.bi .int [(.var 2)]), (.bi .len [(.var 4)])])) [.ex (.app 5 (.popAt 4 (.call F_law_take [0] [(.var 0), (.bi .len [(.var 4)])])))], .ret (.var 5)]
/-- law_shuffle: 0:tin 1:many_so -/
def b_law_shuffle : List S := [.ret (.bi .tuple [(.call F_law_pick [0] [(.var 0), (.rngL (.cst (.int 0)) (.var 1)), (.var 1)])])]
/-- law_row: 0:tin 1:machine_so 2:long_so 3:k -/
def b_law_row : List S := [.ret (.bi .tuple [(.comp (.call F_law_take [0] [(.var 0), (.idx (.var 1) (.cst (.int 0)))]) (.nm 3) (.rng1 (.var 2)) none [3])])]
/-- row_led: 0:machine 1:word 2:row 3:own 4:told -/
def b_row_led : List S := [.asg (.nm 3) (.call F_sure_machine [] [(.var 0)]), .asg (.nm 4) (.call F_sure_word [] [(.var 3), (.var 1)]), .ret (.idx (.call F_led_in [] [(.var 3), (.var 4), (.call F_sure_row [] [(.var 3), (.var 2)])]) (.cst (.int 0)))]
/-- part_at: 0:machine 1:word 2:row 3:own 4:told -/
def b_part_at : List S := [.asg (.nm 3) (.call F_sure_machine [] [(.var 0)]), .asg (.nm 4) (.call F_sure_word [] [(.var 3), (.var 1)]), .ret (.idx (.call F_led_in [] [(.var 3), (.var 4), (.call F_sure_row [] [(.var 3), (.var 2)])]) (.cst (.int 1)))]
/-- mirror_of: 0:machine 1:states 2:letter 3:own -/
def b_mirror_of : List S := [.asg (.nm 1) (.lst []), .forr (.nm 2) (.rng1 (.idx (.var 0) (.cst (.int 0)))) [.ex (.app 1 (.tup [(.bi .tuple [(.comp (.idx (.idx (.var 3) (.cst (.int 1))) (.var 2)) (.nm 3) (.src (.idx (.var 0) (.cst (.int 1)))) none [3])]), (.bi .tuple [(.comp (.idx (.idx (.var 3) (.cst (.int 0))) (.var 2)) (.nm 3) (.src (.idx (.var 0) (.cst (.int 1)))) none [3])])]))], .ret (.tup [(.bi .len [(.idx (.var 0) (.cst (.int 1)))]), (.bi .tuple [(.var 1)])])]
/-- can_mirror: 0:machine 1:many 2:outs 3:nexts -/
def b_can_mirror : List S := [.asg (.nm 1) (.bi .len [(.idx (.var 0) (.cst (.int 1)))]), .ret (.bi .all [(.comp (.call F_is_shuffle_of [] [(.var 1), (.var 2)]) (.tp [(.nm 2), (.nm 3)]) (.src (.idx (.call F_mirror_of [] [(.var 0)]) (.cst (.int 1)))) none [2, 3])])]
/-- is_turnable: 0:machine -/
def b_is_turnable : List S := [.ret (.call F_can_mirror [] [(.call F_sure_machine [] [(.var 0)])])]
/-- is_both_ways: 0:machine 1:own -/
def b_is_both_ways : List S := [.asg (.nm 1) (.call F_sure_machine [] [(.var 0)]), .ret (.and (.call F_can_mirror [] [(.var 1)]) (.call F_can_mirror [] [(.call F_back_of [] [(.var 1)])]))]
/-- machine_mirrored: 0:machine 1:own -/
def b_machine_mirrored : List S := [.asg (.nm 1) (.call F_sure_machine [] [(.var 0)]), .ite (.or (.not (.chain .le .le (.cst (.int 2)) (.bi .len [(.idx (.var 1) (.cst (.int 1)))]) (.cst (.int 5)))) (.not (.call F_can_mirror [] [(.var 1)]))) [.ex (.neg (.cst .none))] [], .ret (.call F_mirror_of [] [(.var 1)])]
/-- law_part: 0:machine_so 1:word_so 2:row_so 3:x -/
def b_law_part : List S := [.forr (.nm 3) (.src (.var 2)) [.asg (.tp [(.nm 3), (.nm 1)]) (.call F_law_step [] [(.var 0), (.var 1), (.var 3)])], .ret (.var 1)]
/-- law_turned: 0:tin 1:rows_so 2:wide_so 3:many_so 4:x 5:k -/
def b_law_turned : List S := [.pars [2, 3] [(.bin .add (.cst (.int 2)) (.call F_law_take [0] [(.var 0), (.cst (.int 2))])), (.bin .add (.cst (.int 2)) (.call F_law_take [0] [(.var 0), (.cst (.int 2))]))], .asg (.nm 1) (.comp (.call F_law_shuffle [0] [(.var 0), (.var 3)]) (.nm 4) (.rng1 (.var 2)) none [4]), .ret (.tup [(.var 2), (.bi .tuple [(.comp (.tup [(.call F_law_shuffle [0] [(.var 0), (.var 2)]), (.bi .tuple [(.comp (.idx (.idx (.var 1) (.var 4)) (.var 5)) (.nm 4) (.rng1 (.var 2)) none [4])])]) (.nm 5) (.rng1 (.var 3)) none [5])])])]
/-- law_k28: 0:script 1:tin 2:lap 3:machine_so 4:far_so 5:own 6:lots_so 7:back_so 8:row_so 9:word_so 10:wide_so 11:many_so 12:x 13:long_so 14:words_so 15:due 16:k 17:pair_so 18:marks_so 19:here 20:behind_so 21:y 22:its 23:a -/
def b_law_k28_l3 : List S := [.ex (.app 20 (.idx (.idx (.idx (.idx (.var 3) (.cst (.int 1))) (.var 16)) (.cst (.int 1))) (.var 19))), .asg (.nm 19) (.idx (.idx (.idx (.idx (.var 3) (.cst (.int 1))) (.var 16)) (.cst (.int 0))) (.var 19))]
def b_law_k28_l2 : List S := [.pars [19, 20] [(.var 12), (.lst [])], .forr (.nm 16) (.src (.var 5)) b_law_k28_l3, .ex (.app 15 (.mth .index (.var 14) [(.bi .tuple [(.var 20)])]))]
def b_law_k28_l6 : List S := [.asg (.nm 22) (.bi .tuple [(.comp (.bin .sub (.var 16) (.cst (.int 1))) (.nm 16) (.src (.idx (.call F_law_step [] [(.var 3), (.var 9), (.var 21)]) (.cst (.int 1)))) none [16])]), .ite (.or (.cmp .notIn (.var 22) (.var 5)) (.not (.call F_law_same [] [(.call F_part_at [] [(.var 3), (.var 9), (.tup [(.var 21)])]), (.bi .tuple [(.comp (.bin .add (.var 16) (.cst (.int 1))) (.nm 16) (.src (.var 22)) none [16])])]))) [.ret (.cst (.bool false))] []]
def b_law_k28_l5 : List S := [.asg (.nm 9) (.bi .tuple [(.comp (.bin .add (.var 16) (.cst (.int 1))) (.nm 16) (.src (.var 17)) none [16])]), .forr (.nm 21) (.rng1 (.var 10)) b_law_k28_l6]
def b_law_k28_l4 : List S := [.forr (.nm 17) (.src (.var 5)) b_law_k28_l5]
def b_law_k28_l7 : List S := [.asg (.nm 18) (.comp (.call F_is_nothing [] [(.var 3), (.bi .tuple [(.comp (.bin .add (.var 16) (.cst (.int 1))) (.nm 16) (.src (.var 17)) none [16])])]) (.nm 17) (.src (.var 5)) none [17]), .ite (.and (.cmp .isIn (.cst (.bool true)) (.var 18)) (.cmp .isIn (.cst (.bool false)) (.var 18))) [.ret (.cst (.bool false))] []]
def b_law_k28_l1 : List S := [.asg (.nm 3) (.call F_law_turned [0] [(.var 1)]), .pars [10, 11] [(.idx (.var 3) (.cst (.int 0))), (.bi .len [(.idx (.var 3) (.cst (.int 1)))])], .asg (.nm 4) (.call F_machine_mirrored [] [(.call F_law_lists [] [(.var 3)])]), .pars [12, 13] [(.call F_law_take [0] [(.var 1), (.var 10)]), (.cst (.int 3))], .pars [14, 15] [(.call F_law_rows [] [(.var 11), (.var 13)]), (.lst [])], .forr (.nm 5) (.src (.var 14)) b_law_k28_l2, .ite (.not (.call F_law_same [] [(.lst [(.call F_level_shuffle [] [(.var 4), (.tup [(.bin .add (.var 12) (.cst (.int 1)))]), (.var 13)]), (.call F_is_turnable [] [(.var 3)])]), (.lst [(.bi .tuple [(.var 15)]), (.cst (.bool true))])])) [.ret (.cst (.bool false))] [], .asg (.nm 6) (.call F_level_lots [] [(.var 4), (.cst (.int 2))]), .forr (.nm 5) (.src (.var 6)) b_law_k28_l4, .ite (.or (.cmp .ne (.bi .sorted [(.call F_law_flat [] [(.comp (.bi .list [(.var 5)]) (.nm 5) (.src (.var 6)) none [5])])]) (.call F_law_rows [] [(.var 11), (.cst (.int 2))])) (.not (.call F_law_same [] [(.call F_is_one_lot [] [(.var 4), (.cst (.int 1))]), (.cmp .eq (.bi .len [(.call F_level_lots [] [(.var 4), (.cst (.int 1))])]) (.cst (.int 1)))]))) [.ret (.cst (.bool false))] [], .forr (.nm 5) (.src (.call F_law_pick [0] [(.var 1), (.var 6), (.cst (.int 2))])) b_law_k28_l7, .asg (.nm 7) (.call F_machine_back [] [(.var 3)]), .ite (.not (.call F_law_same [] [(.lst [(.call F_machine_mirrored [] [(.var 4)]), (.call F_is_both_ways [] [(.var 3)])]), (.lst [(.var 3), (.call F_is_turnable [] [(.var 7)])])])) [.ret (.cst (.bool false))] [], .asg (.nm 8) (.call F_law_row [0] [(.var 1), (.var 3), (.cst (.int 4))]), .asg (.nm 9) (.bi .tuple [(.comp (.bin .add (.cst (.int 1)) (.call F_law_take [0] [(.var 1), (.var 11)])) (.nm 16) (.rng1 (.cst (.int 3))) none [16])]), .ite (.not (.call F_law_same [] [(.call F_row_led [] [(.var 4), (.bi .tuple [(.comp (.bin .add (.var 23) (.cst (.int 1))) (.nm 23) (.src (.var 8)) none [23])]), (.bi .tuple [(.comp (.bin .sub (.var 16) (.cst (.int 1))) (.nm 16) (.src (.var 9)) none [16])])]), (.bi .tuple [(.comp (.bin .sub (.var 16) (.cst (.int 1))) (.nm 16) (.src (.call F_law_part [] [(.var 3), (.var 9), (.var 8)])) none [16])])])) [.ret (.cst (.bool false))] []]
def b_law_k28 : List S := [.asg (.nm 1) (.call F_law_box [] [(.call F_law_cells [] [(.var 0), (.cst (.int 1))]), (.cst (.int 0))]), .forr (.nm 2) (.rng1 (.cst (.int 4))) b_law_k28_l1, .ret (.cst (.bool true))]
def fd_is_number : FnDef := ⟨1, 1, [], b_is_number⟩
def fd_is_within : FnDef := ⟨3, 3, [], b_is_within⟩
def fd_is_long : FnDef := ⟨2, 2, [], b_is_long⟩
def fd_are_numbers : FnDef := ⟨2, 1, [], b_are_numbers⟩
def fd_tupled : FnDef := ⟨2, 1, [], b_tupled⟩
def fd_sure_within : FnDef := ⟨3, 3, [], b_sure_within⟩
def fd_is_shuffle_of : FnDef := ⟨2, 2, [], b_is_shuffle_of⟩
def fd_is_state_of : FnDef := ⟨4, 3, [], b_is_state_of⟩
def fd_is_machine_in : FnDef := ⟨3, 1, [], b_is_machine_in⟩
def fd_sure_machine : FnDef := ⟨2, 1, [], b_sure_machine⟩
def fd_is_word_of : FnDef := ⟨4, 2, [], b_is_word_of⟩
def fd_sure_word : FnDef := ⟨3, 2, [], b_sure_word⟩
def fd_short_in : FnDef := ⟨3, 1, [], b_short_in⟩
def fd_step_in : FnDef := ⟨7, 3, [], b_step_in⟩
def fd_led_in : FnDef := ⟨7, 3, [], b_led_in⟩
def fd_letters_led : FnDef := ⟨3, 2, [], b_letters_led⟩
def fd_closing_in : FnDef := ⟨13, 2, [], b_closing_in⟩
def fd_is_nothing_in : FnDef := ⟨2, 2, [], b_is_nothing_in⟩
def fd_is_nothing : FnDef := ⟨3, 2, [], b_is_nothing⟩
def fd_how_many_rows : FnDef := ⟨4, 2, [], b_how_many_rows⟩
def fd_sure_height : FnDef := ⟨1, 1, [], b_sure_height⟩
def fd_sure_few : FnDef := ⟨3, 3, [], b_sure_few⟩
def fd_rows_in : FnDef := ⟨7, 2, [], b_rows_in⟩
def fd_number_in : FnDef := ⟨4, 2, [], b_number_in⟩
def fd_shuffle_in : FnDef := ⟨4, 3, [], b_shuffle_in⟩
def fd_sure_word_at : FnDef := ⟨6, 3, [], b_sure_word_at⟩
def fd_level_shuffle : FnDef := ⟨6, 3, [], b_level_shuffle⟩
def fd_law_box : FnDef := ⟨3, 2, [], b_law_box⟩
def fd_law_take : FnDef := ⟨6, 2, [0], b_law_take⟩
def fd_law_cells : FnDef := ⟨6, 2, [], b_law_cells⟩
def fd_law_lists : FnDef := ⟨2, 1, [], b_law_lists⟩
def fd_law_same : FnDef := ⟨4, 2, [], b_law_same⟩
def fd_law_flat : FnDef := ⟨3, 1, [], b_law_flat⟩
def fd_law_one : FnDef := ⟨6, 3, [], b_law_one⟩
def fd_law_step : FnDef := ⟨6, 3, [], b_law_step⟩
def fd_law_rows : FnDef := ⟨6, 2, [], b_law_rows⟩
def fd_undone : FnDef := ⟨4, 1, [], b_undone⟩
def fd_is_row_of : FnDef := ⟨3, 2, [], b_is_row_of⟩
def fd_sure_row : FnDef := ⟨3, 2, [], b_sure_row⟩
def fd_lots_in : FnDef := ⟨10, 2, [], b_lots_in⟩
def fd_all_shuffles : FnDef := ⟨3, 2, [], b_all_shuffles⟩
def fd_sure_at : FnDef := ⟨4, 2, [], b_sure_at⟩
def fd_lots_at : FnDef := ⟨5, 2, [], b_lots_at⟩
def fd_level_lots : FnDef := ⟨4, 2, [], b_level_lots⟩
def fd_is_one_lot : FnDef := ⟨4, 2, [], b_is_one_lot⟩
def fd_back_of : FnDef := ⟨6, 1, [], b_back_of⟩
def fd_machine_back : FnDef := ⟨1, 1, [], b_machine_back⟩
def fd_law_pick : FnDef := ⟨6, 3, [0], b_law_pick⟩
def fd_law_shuffle : FnDef := ⟨2, 2, [0], b_law_shuffle⟩
def fd_law_row : FnDef := ⟨4, 3, [0], b_law_row⟩
def fd_row_led : FnDef := ⟨5, 3, [], b_row_led⟩
def fd_part_at : FnDef := ⟨5, 3, [], b_part_at⟩
def fd_mirror_of : FnDef := ⟨4, 1, [], b_mirror_of⟩
def fd_can_mirror : FnDef := ⟨4, 1, [], b_can_mirror⟩
def fd_is_turnable : FnDef := ⟨1, 1, [], b_is_turnable⟩
def fd_is_both_ways : FnDef := ⟨2, 1, [], b_is_both_ways⟩
def fd_machine_mirrored : FnDef := ⟨2, 1, [], b_machine_mirrored⟩
def fd_law_part : FnDef := ⟨4, 3, [], b_law_part⟩
def fd_law_turned : FnDef := ⟨6, 1, [0], b_law_turned⟩
def fd_law_k28 : FnDef := ⟨24, 1, [], b_law_k28⟩
def T (i : Nat) : Option FnDef := some (bif Nat.ble i 54 then (bif Nat.ble i 15 then (bif Nat.ble i 7 then (bif Nat.ble i 2 then (bif Nat.ble i 0 then (fd_is_number) else (bif Nat.ble i 1 then (fd_is_within) else (fd_is_long))) else (bif Nat.ble i 4 then (bif Nat.ble i 3 then (fd_are_numbers) else (fd_tupled)) else (bif Nat.ble i 6 then (fd_sure_within) else (fd_is_shuffle_of)))) else (bif Nat.ble i 11 then (bif Nat.ble i 9 then (bif Nat.ble i 8 then (fd_is_state_of) else (fd_is_machine_in)) else (bif Nat.ble i 10 then (fd_sure_machine) else (fd_is_word_of))) else (bif Nat.ble i 13 then (bif Nat.ble i 12 then (fd_sure_word) else (fd_short_in)) else (bif Nat.ble i 14 then (fd_step_in) else (fd_led_in))))) else (bif Nat.ble i 41 then (bif Nat.ble i 23 then (bif Nat.ble i 21 then (fd_letters_led) else (bif Nat.ble i 22 then (fd_closing_in) else (fd_is_nothing_in))) else (bif Nat.ble i 39 then (bif Nat.ble i 38 then (fd_is_nothing) else (fd_how_many_rows)) else (bif Nat.ble i 40 then (fd_sure_height) else (fd_sure_few)))) else (bif Nat.ble i 47 then (bif Nat.ble i 43 then (bif Nat.ble i 42 then (fd_rows_in) else (fd_number_in)) else (bif Nat.ble i 46 then (fd_shuffle_in) else (fd_sure_word_at))) else (bif Nat.ble i 51 then (bif Nat.ble i 50 then (fd_level_shuffle) else (fd_law_box)) else (bif Nat.ble i 52 then (fd_law_take) else (fd_law_cells)))))) else (bif Nat.ble i 94 then (bif Nat.ble i 76 then (bif Nat.ble i 59 then (bif Nat.ble i 55 then (fd_law_lists) else (bif Nat.ble i 57 then (fd_law_same) else (fd_law_flat))) else (bif Nat.ble i 62 then (bif Nat.ble i 60 then (fd_law_one) else (fd_law_step)) else (bif Nat.ble i 75 then (fd_law_rows) else (fd_undone)))) else (bif Nat.ble i 81 then (bif Nat.ble i 79 then (bif Nat.ble i 77 then (fd_is_row_of) else (fd_sure_row)) else (bif Nat.ble i 80 then (fd_lots_in) else (fd_all_shuffles))) else (bif Nat.ble i 85 then (bif Nat.ble i 84 then (fd_sure_at) else (fd_lots_at)) else (bif Nat.ble i 86 then (fd_level_lots) else (fd_is_one_lot))))) else (bif Nat.ble i 164 then (bif Nat.ble i 98 then (bif Nat.ble i 95 then (fd_back_of) else (bif Nat.ble i 97 then (fd_machine_back) else (fd_law_pick))) else (bif Nat.ble i 157 then (bif Nat.ble i 100 then (fd_law_shuffle) else (fd_law_row)) else (bif Nat.ble i 163 then (fd_row_led) else (fd_part_at)))) else (bif Nat.ble i 168 then (bif Nat.ble i 166 then (bif Nat.ble i 165 then (fd_mirror_of) else (fd_can_mirror)) else (bif Nat.ble i 167 then (fd_is_turnable) else (fd_is_both_ways))) else (bif Nat.ble i 170 then (bif Nat.ble i 169 then (fd_machine_mirrored) else (fd_law_part)) else (bif Nat.ble i 171 then (fd_law_turned) else (fd_law_k28)))))))
theorem run_of0 {T : Nat → Option FnDef} {f n np : Nat} {b : List S} (h : T f = some ⟨n, np, [], b⟩) (k : Nat) (as : List D) (h1 : as.length = np) (h2 : np ≤ n) : run T (k + 1) f [] as = fin ⟨n, np, [], b⟩ (evSs (run T k) b (as.map .im ++ List.replicate (n - np) .no)) := by
  have e : initE ⟨n, np, [], b⟩ as = as.map .im ++ List.replicate (n - np) .no := by
    simp [initE]
    have : ∀ (as : List D) (j : Nat), (as.zipIdx j).map (fun p => Slot.im p.1) = as.map .im := by
      intro as
      induction as with
      | nil => intro j; rfl
      | cons a as ih => intro j; simp [List.zipIdx_cons, ih]
    exact this as 0
  rw [← e]
  show (match T f with | none => CR.bad | some fd => if fd.io = [] ∧ as.length = fd.np ∧ fd.np ≤ fd.n then fin fd (evSs (run T k) fd.body (initE fd as)) else .bad) = _
  rw [h]
  exact if_pos ⟨rfl, h1, h2⟩
theorem run_of1 {T : Nat → Option FnDef} {f n np : Nat} {b : List S} (h : T f = some ⟨n, np, [0], b⟩) (k : Nat) (a : D) (as : List D) (h1 : as.length + 1 = np) (h2 : np ≤ n) : run T (k + 1) f [0] (a :: as) = fin ⟨n, np, [0], b⟩ (evSs (run T k) b (.io a :: as.map .im ++ List.replicate (n - np) .no)) := by
  have e : initE ⟨n, np, [0], b⟩ (a :: as) = .io a :: as.map .im ++ List.replicate (n - np) .no := by
    simp [initE, List.zipIdx_cons]
    have : ∀ (as : List D) (j : Nat), (as.zipIdx (j + 1)).map (fun p => if p.2 = 0 then Slot.io p.1 else Slot.im p.1) = as.map .im := by
      intro as
      induction as with
      | nil => intro j; rfl
      | cons a as ih => intro j; simp [List.zipIdx_cons, ih]
    exact this as 0
  rw [← e]
  show (match T f with | none => CR.bad | some fd => if fd.io = [0] ∧ (a :: as).length = fd.np ∧ fd.np ≤ fd.n then fin fd (evSs (run T k) fd.body (initE fd (a :: as))) else .bad) = _
  rw [h]
  exact if_pos ⟨rfl, h1, h2⟩
theorem run_is_number (k : Nat) (a0 : D) : run T (k + 1) F_is_number [] [a0] = fin ⟨1, 1, [], b_is_number⟩ (evSs (run T k) b_is_number [.im a0]) := (run_of0 (T := T) (f := F_is_number) rfl k [a0] rfl (by decide)).trans rfl
theorem run_is_within (k : Nat) (a0 a1 a2 : D) : run T (k + 1) F_is_within [] [a0, a1, a2] = fin ⟨3, 3, [], b_is_within⟩ (evSs (run T k) b_is_within [.im a0, .im a1, .im a2]) := (run_of0 (T := T) (f := F_is_within) rfl k [a0, a1, a2] rfl (by decide)).trans rfl
theorem run_is_long (k : Nat) (a0 a1 : D) : run T (k + 1) F_is_long [] [a0, a1] = fin ⟨2, 2, [], b_is_long⟩ (evSs (run T k) b_is_long [.im a0, .im a1]) := (run_of0 (T := T) (f := F_is_long) rfl k [a0, a1] rfl (by decide)).trans rfl
theorem run_are_numbers (k : Nat) (a0 : D) : run T (k + 1) F_are_numbers [] [a0] = fin ⟨2, 1, [], b_are_numbers⟩ (evSs (run T k) b_are_numbers [.im a0, .no]) := (run_of0 (T := T) (f := F_are_numbers) rfl k [a0] rfl (by decide)).trans rfl
theorem run_tupled (k : Nat) (a0 : D) : run T (k + 1) F_tupled [] [a0] = fin ⟨2, 1, [], b_tupled⟩ (evSs (run T k) b_tupled [.im a0, .no]) := (run_of0 (T := T) (f := F_tupled) rfl k [a0] rfl (by decide)).trans rfl
theorem run_sure_within (k : Nat) (a0 a1 a2 : D) : run T (k + 1) F_sure_within [] [a0, a1, a2] = fin ⟨3, 3, [], b_sure_within⟩ (evSs (run T k) b_sure_within [.im a0, .im a1, .im a2]) := (run_of0 (T := T) (f := F_sure_within) rfl k [a0, a1, a2] rfl (by decide)).trans rfl
theorem run_is_shuffle_of (k : Nat) (a0 a1 : D) : run T (k + 1) F_is_shuffle_of [] [a0, a1] = fin ⟨2, 2, [], b_is_shuffle_of⟩ (evSs (run T k) b_is_shuffle_of [.im a0, .im a1]) := (run_of0 (T := T) (f := F_is_shuffle_of) rfl k [a0, a1] rfl (by decide)).trans rfl
theorem run_is_state_of (k : Nat) (a0 a1 a2 : D) : run T (k + 1) F_is_state_of [] [a0, a1, a2] = fin ⟨4, 3, [], b_is_state_of⟩ (evSs (run T k) b_is_state_of [.im a0, .im a1, .im a2, .no]) := (run_of0 (T := T) (f := F_is_state_of) rfl k [a0, a1, a2] rfl (by decide)).trans rfl
theorem run_is_machine_in (k : Nat) (a0 : D) : run T (k + 1) F_is_machine_in [] [a0] = fin ⟨3, 1, [], b_is_machine_in⟩ (evSs (run T k) b_is_machine_in [.im a0, .no, .no]) := (run_of0 (T := T) (f := F_is_machine_in) rfl k [a0] rfl (by decide)).trans rfl
theorem run_sure_machine (k : Nat) (a0 : D) : run T (k + 1) F_sure_machine [] [a0] = fin ⟨2, 1, [], b_sure_machine⟩ (evSs (run T k) b_sure_machine [.im a0, .no]) := (run_of0 (T := T) (f := F_sure_machine) rfl k [a0] rfl (by decide)).trans rfl
theorem run_is_word_of (k : Nat) (a0 a1 : D) : run T (k + 1) F_is_word_of [] [a0, a1] = fin ⟨4, 2, [], b_is_word_of⟩ (evSs (run T k) b_is_word_of [.im a0, .im a1, .no, .no]) := (run_of0 (T := T) (f := F_is_word_of) rfl k [a0, a1] rfl (by decide)).trans rfl
theorem run_sure_word (k : Nat) (a0 a1 : D) : run T (k + 1) F_sure_word [] [a0, a1] = fin ⟨3, 2, [], b_sure_word⟩ (evSs (run T k) b_sure_word [.im a0, .im a1, .no]) := (run_of0 (T := T) (f := F_sure_word) rfl k [a0, a1] rfl (by decide)).trans rfl
theorem run_short_in (k : Nat) (a0 : D) : run T (k + 1) F_short_in [] [a0] = fin ⟨3, 1, [], b_short_in⟩ (evSs (run T k) b_short_in [.im a0, .no, .no]) := (run_of0 (T := T) (f := F_short_in) rfl k [a0] rfl (by decide)).trans rfl
theorem run_step_in (k : Nat) (a0 a1 a2 : D) : run T (k + 1) F_step_in [] [a0, a1, a2] = fin ⟨7, 3, [], b_step_in⟩ (evSs (run T k) b_step_in [.im a0, .im a1, .im a2, .no, .no, .no, .no]) := (run_of0 (T := T) (f := F_step_in) rfl k [a0, a1, a2] rfl (by decide)).trans rfl
theorem run_led_in (k : Nat) (a0 a1 a2 : D) : run T (k + 1) F_led_in [] [a0, a1, a2] = fin ⟨7, 3, [], b_led_in⟩ (evSs (run T k) b_led_in [.im a0, .im a1, .im a2, .no, .no, .no, .no]) := (run_of0 (T := T) (f := F_led_in) rfl k [a0, a1, a2] rfl (by decide)).trans rfl
theorem run_letters_led (k : Nat) (a0 a1 : D) : run T (k + 1) F_letters_led [] [a0, a1] = fin ⟨3, 2, [], b_letters_led⟩ (evSs (run T k) b_letters_led [.im a0, .im a1, .no]) := (run_of0 (T := T) (f := F_letters_led) rfl k [a0, a1] rfl (by decide)).trans rfl
theorem run_closing_in (k : Nat) (a0 a1 : D) : run T (k + 1) F_closing_in [] [a0, a1] = fin ⟨13, 2, [], b_closing_in⟩ (evSs (run T k) b_closing_in [.im a0, .im a1, .no, .no, .no, .no, .no, .no, .no, .no, .no, .no, .no]) := (run_of0 (T := T) (f := F_closing_in) rfl k [a0, a1] rfl (by decide)).trans rfl
theorem run_is_nothing_in (k : Nat) (a0 a1 : D) : run T (k + 1) F_is_nothing_in [] [a0, a1] = fin ⟨2, 2, [], b_is_nothing_in⟩ (evSs (run T k) b_is_nothing_in [.im a0, .im a1]) := (run_of0 (T := T) (f := F_is_nothing_in) rfl k [a0, a1] rfl (by decide)).trans rfl
theorem run_is_nothing (k : Nat) (a0 a1 : D) : run T (k + 1) F_is_nothing [] [a0, a1] = fin ⟨3, 2, [], b_is_nothing⟩ (evSs (run T k) b_is_nothing [.im a0, .im a1, .no]) := (run_of0 (T := T) (f := F_is_nothing) rfl k [a0, a1] rfl (by decide)).trans rfl
theorem run_how_many_rows (k : Nat) (a0 a1 : D) : run T (k + 1) F_how_many_rows [] [a0, a1] = fin ⟨4, 2, [], b_how_many_rows⟩ (evSs (run T k) b_how_many_rows [.im a0, .im a1, .no, .no]) := (run_of0 (T := T) (f := F_how_many_rows) rfl k [a0, a1] rfl (by decide)).trans rfl
theorem run_sure_height (k : Nat) (a0 : D) : run T (k + 1) F_sure_height [] [a0] = fin ⟨1, 1, [], b_sure_height⟩ (evSs (run T k) b_sure_height [.im a0]) := (run_of0 (T := T) (f := F_sure_height) rfl k [a0] rfl (by decide)).trans rfl
theorem run_sure_few (k : Nat) (a0 a1 a2 : D) : run T (k + 1) F_sure_few [] [a0, a1, a2] = fin ⟨3, 3, [], b_sure_few⟩ (evSs (run T k) b_sure_few [.im a0, .im a1, .im a2]) := (run_of0 (T := T) (f := F_sure_few) rfl k [a0, a1, a2] rfl (by decide)).trans rfl
theorem run_rows_in (k : Nat) (a0 a1 : D) : run T (k + 1) F_rows_in [] [a0, a1] = fin ⟨7, 2, [], b_rows_in⟩ (evSs (run T k) b_rows_in [.im a0, .im a1, .no, .no, .no, .no, .no]) := (run_of0 (T := T) (f := F_rows_in) rfl k [a0, a1] rfl (by decide)).trans rfl
theorem run_number_in (k : Nat) (a0 a1 : D) : run T (k + 1) F_number_in [] [a0, a1] = fin ⟨4, 2, [], b_number_in⟩ (evSs (run T k) b_number_in [.im a0, .im a1, .no, .no]) := (run_of0 (T := T) (f := F_number_in) rfl k [a0, a1] rfl (by decide)).trans rfl
theorem run_shuffle_in (k : Nat) (a0 a1 a2 : D) : run T (k + 1) F_shuffle_in [] [a0, a1, a2] = fin ⟨4, 3, [], b_shuffle_in⟩ (evSs (run T k) b_shuffle_in [.im a0, .im a1, .im a2, .no]) := (run_of0 (T := T) (f := F_shuffle_in) rfl k [a0, a1, a2] rfl (by decide)).trans rfl
theorem run_sure_word_at (k : Nat) (a0 a1 a2 : D) : run T (k + 1) F_sure_word_at [] [a0, a1, a2] = fin ⟨6, 3, [], b_sure_word_at⟩ (evSs (run T k) b_sure_word_at [.im a0, .im a1, .im a2, .no, .no, .no]) := (run_of0 (T := T) (f := F_sure_word_at) rfl k [a0, a1, a2] rfl (by decide)).trans rfl
theorem run_level_shuffle (k : Nat) (a0 a1 a2 : D) : run T (k + 1) F_level_shuffle [] [a0, a1, a2] = fin ⟨6, 3, [], b_level_shuffle⟩ (evSs (run T k) b_level_shuffle [.im a0, .im a1, .im a2, .no, .no, .no]) := (run_of0 (T := T) (f := F_level_shuffle) rfl k [a0, a1, a2] rfl (by decide)).trans rfl
theorem run_law_box (k : Nat) (a0 a1 : D) : run T (k + 1) F_law_box [] [a0, a1] = fin ⟨3, 2, [], b_law_box⟩ (evSs (run T k) b_law_box [.im a0, .im a1, .no]) := (run_of0 (T := T) (f := F_law_box) rfl k [a0, a1] rfl (by decide)).trans rfl
theorem run_law_take (k : Nat) (a0 a1 : D) : run T (k + 1) F_law_take [0] [a0, a1] = fin ⟨6, 2, [0], b_law_take⟩ (evSs (run T k) b_law_take [.io a0, .im a1, .no, .no, .no, .no]) := (run_of1 (T := T) (f := F_law_take) rfl k a0 [a1] rfl (by decide)).trans rfl
theorem run_law_cells (k : Nat) (a0 a1 : D) : run T (k + 1) F_law_cells [] [a0, a1] = fin ⟨6, 2, [], b_law_cells⟩ (evSs (run T k) b_law_cells [.im a0, .im a1, .no, .no, .no, .no]) := (run_of0 (T := T) (f := F_law_cells) rfl k [a0, a1] rfl (by decide)).trans rfl
theorem run_law_lists (k : Nat) (a0 : D) : run T (k + 1) F_law_lists [] [a0] = fin ⟨2, 1, [], b_law_lists⟩ (evSs (run T k) b_law_lists [.im a0, .no]) := (run_of0 (T := T) (f := F_law_lists) rfl k [a0] rfl (by decide)).trans rfl
theorem run_law_same (k : Nat) (a0 a1 : D) : run T (k + 1) F_law_same [] [a0, a1] = fin ⟨4, 2, [], b_law_same⟩ (evSs (run T k) b_law_same [.im a0, .im a1, .no, .no]) := (run_of0 (T := T) (f := F_law_same) rfl k [a0, a1] rfl (by decide)).trans rfl
theorem run_law_flat (k : Nat) (a0 : D) : run T (k + 1) F_law_flat [] [a0] = fin ⟨3, 1, [], b_law_flat⟩ (evSs (run T k) b_law_flat [.im a0, .no, .no]) := (run_of0 (T := T) (f := F_law_flat) rfl k [a0] rfl (by decide)).trans rfl
theorem run_law_one (k : Nat) (a0 a1 a2 : D) : run T (k + 1) F_law_one [] [a0, a1, a2] = fin ⟨6, 3, [], b_law_one⟩ (evSs (run T k) b_law_one [.im a0, .im a1, .im a2, .no, .no, .no]) := (run_of0 (T := T) (f := F_law_one) rfl k [a0, a1, a2] rfl (by decide)).trans rfl
theorem run_law_step (k : Nat) (a0 a1 a2 : D) : run T (k + 1) F_law_step [] [a0, a1, a2] = fin ⟨6, 3, [], b_law_step⟩ (evSs (run T k) b_law_step [.im a0, .im a1, .im a2, .no, .no, .no]) := (run_of0 (T := T) (f := F_law_step) rfl k [a0, a1, a2] rfl (by decide)).trans rfl
theorem run_law_rows (k : Nat) (a0 a1 : D) : run T (k + 1) F_law_rows [] [a0, a1] = fin ⟨6, 2, [], b_law_rows⟩ (evSs (run T k) b_law_rows [.im a0, .im a1, .no, .no, .no, .no]) := (run_of0 (T := T) (f := F_law_rows) rfl k [a0, a1] rfl (by decide)).trans rfl
theorem run_undone (k : Nat) (a0 : D) : run T (k + 1) F_undone [] [a0] = fin ⟨4, 1, [], b_undone⟩ (evSs (run T k) b_undone [.im a0, .no, .no, .no]) := (run_of0 (T := T) (f := F_undone) rfl k [a0] rfl (by decide)).trans rfl
theorem run_is_row_of (k : Nat) (a0 a1 : D) : run T (k + 1) F_is_row_of [] [a0, a1] = fin ⟨3, 2, [], b_is_row_of⟩ (evSs (run T k) b_is_row_of [.im a0, .im a1, .no]) := (run_of0 (T := T) (f := F_is_row_of) rfl k [a0, a1] rfl (by decide)).trans rfl
theorem run_sure_row (k : Nat) (a0 a1 : D) : run T (k + 1) F_sure_row [] [a0, a1] = fin ⟨3, 2, [], b_sure_row⟩ (evSs (run T k) b_sure_row [.im a0, .im a1, .no]) := (run_of0 (T := T) (f := F_sure_row) rfl k [a0, a1] rfl (by decide)).trans rfl
theorem run_lots_in (k : Nat) (a0 a1 : D) : run T (k + 1) F_lots_in [] [a0, a1] = fin ⟨10, 2, [], b_lots_in⟩ (evSs (run T k) b_lots_in [.im a0, .im a1, .no, .no, .no, .no, .no, .no, .no, .no]) := (run_of0 (T := T) (f := F_lots_in) rfl k [a0, a1] rfl (by decide)).trans rfl
theorem run_all_shuffles (k : Nat) (a0 a1 : D) : run T (k + 1) F_all_shuffles [] [a0, a1] = fin ⟨3, 2, [], b_all_shuffles⟩ (evSs (run T k) b_all_shuffles [.im a0, .im a1, .no]) := (run_of0 (T := T) (f := F_all_shuffles) rfl k [a0, a1] rfl (by decide)).trans rfl
theorem run_sure_at (k : Nat) (a0 a1 : D) : run T (k + 1) F_sure_at [] [a0, a1] = fin ⟨4, 2, [], b_sure_at⟩ (evSs (run T k) b_sure_at [.im a0, .im a1, .no, .no]) := (run_of0 (T := T) (f := F_sure_at) rfl k [a0, a1] rfl (by decide)).trans rfl
theorem run_lots_at (k : Nat) (a0 a1 : D) : run T (k + 1) F_lots_at [] [a0, a1] = fin ⟨5, 2, [], b_lots_at⟩ (evSs (run T k) b_lots_at [.im a0, .im a1, .no, .no, .no]) := (run_of0 (T := T) (f := F_lots_at) rfl k [a0, a1] rfl (by decide)).trans rfl
theorem run_level_lots (k : Nat) (a0 a1 : D) : run T (k + 1) F_level_lots [] [a0, a1] = fin ⟨4, 2, [], b_level_lots⟩ (evSs (run T k) b_level_lots [.im a0, .im a1, .no, .no]) := (run_of0 (T := T) (f := F_level_lots) rfl k [a0, a1] rfl (by decide)).trans rfl
theorem run_is_one_lot (k : Nat) (a0 a1 : D) : run T (k + 1) F_is_one_lot [] [a0, a1] = fin ⟨4, 2, [], b_is_one_lot⟩ (evSs (run T k) b_is_one_lot [.im a0, .im a1, .no, .no]) := (run_of0 (T := T) (f := F_is_one_lot) rfl k [a0, a1] rfl (by decide)).trans rfl
theorem run_back_of (k : Nat) (a0 : D) : run T (k + 1) F_back_of [] [a0] = fin ⟨6, 1, [], b_back_of⟩ (evSs (run T k) b_back_of [.im a0, .no, .no, .no, .no, .no]) := (run_of0 (T := T) (f := F_back_of) rfl k [a0] rfl (by decide)).trans rfl
theorem run_machine_back (k : Nat) (a0 : D) : run T (k + 1) F_machine_back [] [a0] = fin ⟨1, 1, [], b_machine_back⟩ (evSs (run T k) b_machine_back [.im a0]) := (run_of0 (T := T) (f := F_machine_back) rfl k [a0] rfl (by decide)).trans rfl
theorem run_law_pick (k : Nat) (a0 a1 a2 : D) : run T (k + 1) F_law_pick [0] [a0, a1, a2] = fin ⟨6, 3, [0], b_law_pick⟩ (evSs (run T k) b_law_pick [.io a0, .im a1, .im a2, .no, .no, .no]) := (run_of1 (T := T) (f := F_law_pick) rfl k a0 [a1, a2] rfl (by decide)).trans rfl
theorem run_law_shuffle (k : Nat) (a0 a1 : D) : run T (k + 1) F_law_shuffle [0] [a0, a1] = fin ⟨2, 2, [0], b_law_shuffle⟩ (evSs (run T k) b_law_shuffle [.io a0, .im a1]) := (run_of1 (T := T) (f := F_law_shuffle) rfl k a0 [a1] rfl (by decide)).trans rfl
theorem run_law_row (k : Nat) (a0 a1 a2 : D) : run T (k + 1) F_law_row [0] [a0, a1, a2] = fin ⟨4, 3, [0], b_law_row⟩ (evSs (run T k) b_law_row [.io a0, .im a1, .im a2, .no]) := (run_of1 (T := T) (f := F_law_row) rfl k a0 [a1, a2] rfl (by decide)).trans rfl
theorem run_row_led (k : Nat) (a0 a1 a2 : D) : run T (k + 1) F_row_led [] [a0, a1, a2] = fin ⟨5, 3, [], b_row_led⟩ (evSs (run T k) b_row_led [.im a0, .im a1, .im a2, .no, .no]) := (run_of0 (T := T) (f := F_row_led) rfl k [a0, a1, a2] rfl (by decide)).trans rfl
theorem run_part_at (k : Nat) (a0 a1 a2 : D) : run T (k + 1) F_part_at [] [a0, a1, a2] = fin ⟨5, 3, [], b_part_at⟩ (evSs (run T k) b_part_at [.im a0, .im a1, .im a2, .no, .no]) := (run_of0 (T := T) (f := F_part_at) rfl k [a0, a1, a2] rfl (by decide)).trans rfl
theorem run_mirror_of (k : Nat) (a0 : D) : run T (k + 1) F_mirror_of [] [a0] = fin ⟨4, 1, [], b_mirror_of⟩ (evSs (run T k) b_mirror_of [.im a0, .no, .no, .no]) := (run_of0 (T := T) (f := F_mirror_of) rfl k [a0] rfl (by decide)).trans rfl
theorem run_can_mirror (k : Nat) (a0 : D) : run T (k + 1) F_can_mirror [] [a0] = fin ⟨4, 1, [], b_can_mirror⟩ (evSs (run T k) b_can_mirror [.im a0, .no, .no, .no]) := (run_of0 (T := T) (f := F_can_mirror) rfl k [a0] rfl (by decide)).trans rfl
theorem run_is_turnable (k : Nat) (a0 : D) : run T (k + 1) F_is_turnable [] [a0] = fin ⟨1, 1, [], b_is_turnable⟩ (evSs (run T k) b_is_turnable [.im a0]) := (run_of0 (T := T) (f := F_is_turnable) rfl k [a0] rfl (by decide)).trans rfl
theorem run_is_both_ways (k : Nat) (a0 : D) : run T (k + 1) F_is_both_ways [] [a0] = fin ⟨2, 1, [], b_is_both_ways⟩ (evSs (run T k) b_is_both_ways [.im a0, .no]) := (run_of0 (T := T) (f := F_is_both_ways) rfl k [a0] rfl (by decide)).trans rfl
theorem run_machine_mirrored (k : Nat) (a0 : D) : run T (k + 1) F_machine_mirrored [] [a0] = fin ⟨2, 1, [], b_machine_mirrored⟩ (evSs (run T k) b_machine_mirrored [.im a0, .no]) := (run_of0 (T := T) (f := F_machine_mirrored) rfl k [a0] rfl (by decide)).trans rfl
theorem run_law_part (k : Nat) (a0 a1 a2 : D) : run T (k + 1) F_law_part [] [a0, a1, a2] = fin ⟨4, 3, [], b_law_part⟩ (evSs (run T k) b_law_part [.im a0, .im a1, .im a2, .no]) := (run_of0 (T := T) (f := F_law_part) rfl k [a0, a1, a2] rfl (by decide)).trans rfl
theorem run_law_turned (k : Nat) (a0 : D) : run T (k + 1) F_law_turned [0] [a0] = fin ⟨6, 1, [0], b_law_turned⟩ (evSs (run T k) b_law_turned [.io a0, .no, .no, .no, .no, .no]) := (run_of1 (T := T) (f := F_law_turned) rfl k a0 [] rfl (by decide)).trans rfl
theorem run_law_k28 (k : Nat) (a0 : D) : run T (k + 1) F_law_k28 [] [a0] = fin ⟨24, 1, [], b_law_k28⟩ (evSs (run T k) b_law_k28 [.im a0, .no, .no, .no, .no, .no, .no, .no, .no, .no, .no, .no, .no, .no, .no, .no, .no, .no, .no, .no, .no, .no, .no, .no]) := (run_of0 (T := T) (f := F_law_k28) rfl k [a0] rfl (by decide)).trans rfl
end Ev
/-! text Dl -/
set_option Elab.async false
set_option linter.all false
set_option maxRecDepth 100000
/-! Dl: laws of the evaluator's operators on plain data. -/
namespace Ev
open PySem
abbrev nI (n : Nat) : D := .int (n : Int)
noncomputable instance instDecD : DecidableEq D := fun a b => Classical.propDecidable (a = b)
mutual
/-- no truth value, no dict lies within -/
def cn : D → Bool
  | .none => true
  | .int _ => true
  | .str _ => true
  | .list ds => cnAll ds
  | .tuple ds => cnAll ds
  | _ => false
def cnAll : List D → Bool
  | [] => true
  | d :: ds => cn d && cnAll ds
end
def ok (n : Nat) (d : D) : Prop := cn d = true ∧ d.depth ≤ n
theorem cnAll_iff : ∀ (ds : List D), cnAll ds = true ↔ ∀ d ∈ ds, cn d = true
  | [] => by simp [cnAll]
  | d :: ds => by simp [cnAll, cnAll_iff ds]
theorem depthAll_iff (n : Nat) : ∀ (ds : List D), PyData.depthAll ds ≤ n ↔ ∀ d ∈ ds, d.depth ≤ n
  | [] => by simp [PyData.depthAll]
  | d :: ds => by simp [PyData.depthAll, Nat.max_le, depthAll_iff n ds]
theorem plainAll_iff : ∀ (ds : List D), PyData.plainAll ds = true ↔ ∀ d ∈ ds, d.plain = true
  | [] => by simp [PyData.plainAll]
  | d :: ds => by simp [PyData.plainAll, plainAll_iff ds]
@[simp] theorem ok_none (n : Nat) : ok n .none := ⟨rfl, Nat.zero_le _⟩
@[simp] theorem ok_int (n : Nat) (i : Int) : ok n (.int i) := ⟨rfl, Nat.zero_le _⟩
@[simp] theorem ok_str (n : Nat) (i : Str) : ok n (.str i) := ⟨rfl, Nat.zero_le _⟩
/-- all of a list -/
def okAll (n : Nat) (ds : List D) : Prop := ∀ d ∈ ds, ok n d
@[simp] theorem okAll_nil (n : Nat) : okAll n [] := by simp [okAll]
@[simp] theorem okAll_cons (n : Nat) (d : D) (ds : List D) : okAll n (d :: ds) ↔ ok n d ∧ okAll n ds := by simp [okAll]
@[simp] theorem okAll_append (n : Nat) (a b : List D) : okAll n (a ++ b) ↔ okAll n a ∧ okAll n b := by
  simp only [okAll, List.mem_append]
  exact ⟨fun h => ⟨fun d hd => h d (.inl hd), fun d hd => h d (.inr hd)⟩, fun h d hd => hd.elim (h.1 d) (h.2 d)⟩
@[simp] theorem okAll_map {α : Type} (n : Nat) (f : α → D) (l : List α) : okAll n (l.map f) ↔ ∀ a ∈ l, ok n (f a) := by simp [okAll]
@[simp] theorem ok_tuple (n : Nat) (ds : List D) : ok (n + 1) (.tuple ds) ↔ okAll n ds := by
  unfold okAll
  simp [ok, cn, PyData.depth, cnAll_iff, depthAll_iff]
  exact ⟨fun h d hd => ⟨h.1 d hd, h.2 d hd⟩, fun h => ⟨fun d hd => (h d hd).1, fun d hd => (h d hd).2⟩⟩
@[simp] theorem ok_list (n : Nat) (ds : List D) : ok (n + 1) (.list ds) ↔ okAll n ds := by
  unfold okAll
  simp [ok, cn, PyData.depth, cnAll_iff, depthAll_iff]
  exact ⟨fun h d hd => ⟨h.1 d hd, h.2 d hd⟩, fun h => ⟨fun d hd => (h d hd).1, fun d hd => (h d hd).2⟩⟩
mutual
theorem cn_plain : ∀ (d : D), cn d = true → d.plain = true
  | .none, _ => rfl
  | .bool _, _ => rfl
  | .int _, _ => rfl
  | .str _, _ => rfl
  | .list ds, h => cnAll_plain ds h
  | .tuple ds, h => cnAll_plain ds h
  | .dict _, h => by simp [cn] at h
theorem cnAll_plain : ∀ (ds : List D), cnAll ds = true → PyData.plainAll ds = true
  | [], _ => rfl
  | d :: ds, h => by
    simp [cnAll] at h
    simp [PyData.plainAll, cn_plain d h.1, cnAll_plain ds h.2]
end
theorem ok_shp {d : D} (h : ok 64 d) : shp d = true := by
  simp [shp, cn_plain d h.1, h.2]
mutual
theorem eqv_cn : ∀ (x y : D), cn x = true → cn y = true → PyData.eqv x y = decide (x = y)
  | .none, y, _, _ => by cases y <;> simp [PyData.eqv]
  | .int i, y, _, h => by
    cases y with
    | int j => simp [PyData.eqv]; by_cases e : i = j <;> simp [e]
    | bool b => simp [cn] at h
    | _ => simp [PyData.eqv]
  | .str x, y, _, h => by
    cases y with
    | str j => simp [PyData.eqv]; by_cases e : x = j <;> simp [e]
    | _ => simp [PyData.eqv]
  | .list xs, y, h1, h2 => by
    cases y with
    | list ys => rw [PyData.eqv, eqvAll_cn xs ys h1 h2]; simp
    | _ => simp [PyData.eqv]
  | .tuple xs, y, h1, h2 => by
    cases y with
    | tuple ys => rw [PyData.eqv, eqvAll_cn xs ys h1 h2]; simp
    | _ => simp [PyData.eqv]
  | .bool _, _, h, _ => by simp [cn] at h
  | .dict _, _, h, _ => by simp [cn] at h
theorem eqvAll_cn : ∀ (xs ys : List D), cnAll xs = true → cnAll ys = true → PyData.eqvAll xs ys = decide (xs = ys)
  | [], [], _, _ => by simp [PyData.eqvAll]
  | [], _ :: _, _, _ => by simp [PyData.eqvAll]
  | _ :: _, [], _, _ => by simp [PyData.eqvAll]
  | x :: xs, y :: ys, h1, h2 => by
    simp [cnAll] at h1 h2
    rw [PyData.eqvAll, eqv_cn x y h1.1 h2.1, eqvAll_cn xs ys h1.2 h2.2]
    by_cases e : x = y <;> simp [e]
end
theorem eqv_ok {n m : Nat} {x y : D} (h1 : ok n x) (h2 : ok m y) : PyData.eqv x y = decide (x = y) := eqv_cn x y h1.1 h2.1
@[simp] theorem eqv_bool (a b : Bool) : PyData.eqv (.bool a) (.bool b) = (a == b) := by simp [PyData.eqv]
/-! ### comparisons -/
@[simp] theorem eqB_ok {a b : D} (ha : ok 64 a) (hb : ok 64 b) : eqB a b = some (decide (a = b)) := by simp [eqB, ok_shp ha, ok_shp hb, eqv_ok ha hb]
@[simp] theorem neB_ok {a b : D} (ha : ok 64 a) (hb : ok 64 b) : neB a b = some (!decide (a = b)) := by simp [neB, ok_shp ha, ok_shp hb, eqv_ok ha hb]
@[simp] theorem eqB_bool (a b : Bool) : eqB (.bool a) (.bool b) = some (a == b) := by simp [eqB, shp, PyData.plain, PyData.depth]
@[simp] theorem neB_bool (a b : Bool) : neB (.bool a) (.bool b) = some (!(a == b)) := by simp [neB, shp, PyData.plain, PyData.depth]
theorem any_eqv {a : D} (ha : ok 64 a) : ∀ {ys : List D}, (∀ d ∈ ys, ok 63 d) → (ys.any fun y => PyData.eqv y a) = decide (a ∈ ys)
  | [], _ => by simp
  | y :: ys, h => by
    rw [List.any_cons, any_eqv ha fun d hd => h d (List.mem_cons_of_mem _ hd), eqv_ok (h y List.mem_cons_self) ha]
    by_cases e : y = a
    · simp [e]
    · have e' : ¬ a = y := fun h => e h.symm
      simp [e, e']
@[simp] theorem inB_tuple {a : D} {ys : List D} (ha : ok 64 a) (hb : okAll 63 ys) : inB a (.tuple ys) = some (decide (a ∈ ys)) := by
  have h2 : ok 64 (.tuple ys) := (ok_tuple 63 ys).2 hb
  simp only [inB, ok_shp ha, ok_shp h2, Bool.and_self, if_true, any_eqv ha hb]
@[simp] theorem inB_list {a : D} {ys : List D} (ha : ok 64 a) (hb : okAll 63 ys) : inB a (.list ys) = some (decide (a ∈ ys)) := by
  have h2 : ok 64 (.list ys) := (ok_list 63 ys).2 hb
  simp only [inB, ok_shp ha, ok_shp h2, Bool.and_self, if_true, any_eqv ha hb]
@[simp] theorem cmpD_eq (a b : D) : cmpD .eq a b = (eqB a b).map fun k => .val (.bool k) := (rfl)
@[simp] theorem cmpD_ne (a b : D) : cmpD .ne a b = (neB a b).map fun k => .val (.bool k) := (rfl)
@[simp] theorem cmpD_in (a b : D) : cmpD .isIn a b = (inB a b).map fun k => .val (.bool k) := (rfl)
@[simp] theorem cmpD_nin (a b : D) : cmpD .notIn a b = (inB a b).map fun k => .val (.bool (!k)) := by
  show ((inB a b).map fun k => !k).map _ = _
  rw [Option.map_map]; rfl
@[simp] theorem cmpD_lt (i j : Int) : cmpD .lt (.int i) (.int j) = some (.val (.bool (decide (i < j)))) := (rfl)
@[simp] theorem cmpD_le (i j : Int) : cmpD .le (.int i) (.int j) = some (.val (.bool (decide (i ≤ j)))) := (rfl)
@[simp] theorem cmpD_gt (i j : Int) : cmpD .gt (.int i) (.int j) = some (.val (.bool (decide (j < i)))) := (rfl)
@[simp] theorem cmpD_ge (i j : Int) : cmpD .ge (.int i) (.int j) = some (.val (.bool (decide (j ≤ i)))) := (rfl)
@[simp] theorem cmp2_lt (i j : Int) : cmp2 .lt (.int i) (.int j) = some (decide (i < j)) := (rfl)
@[simp] theorem cmp2_le (i j : Int) : cmp2 .le (.int i) (.int j) = some (decide (i ≤ j)) := (rfl)
@[simp] theorem cmp2_gt (i j : Int) : cmp2 .gt (.int i) (.int j) = some (decide (j < i)) := (rfl)
@[simp] theorem cmp2_ge (i j : Int) : cmp2 .ge (.int i) (.int j) = some (decide (j ≤ i)) := (rfl)
@[simp] theorem cmp2_eq (a b : D) : cmp2 .eq a b = eqB a b := (rfl)
@[simp] theorem cmp2_ne (a b : D) : cmp2 .ne a b = neB a b := (rfl)
/-! ### truth -/
@[simp] theorem truth_bool (b : Bool) : truth? (.bool b) = some b := (rfl)
@[simp] theorem truth_none : truth? .none = some false := (rfl)
@[simp] theorem truth_int (i : Int) : truth? (.int i) = some (i != 0) := (rfl)
@[simp] theorem truth_list (l : List D) : truth? (.list l) = some (!l.isEmpty) := (rfl)
@[simp] theorem truth_tuple (l : List D) : truth? (.tuple l) = some (!l.isEmpty) := (rfl)
/-! ### numbers -/
@[simp] theorem op2_add_int (i j : Int) : op2 .add (.int i) (.int j) = some (.val (.int (i + j))) := (rfl)
@[simp] theorem op2_sub_int (i j : Int) : op2 .sub (.int i) (.int j) = some (.val (.int (i - j))) := (rfl)
@[simp] theorem op2_mod_int (i j : Int) (h : 0 < j) : op2 .mod (.int i) (.int j) = some (.val (.int (i % j))) := by simp [op2, modD, h]
@[simp] theorem op2_fdiv_int (i j : Int) (h : 0 < j) (h2 : j < 1073741824) : op2 .fdiv (.int i) (.int j) = some (.val (.int (i / j))) := by simp [op2, fdivD, h, h2]
theorem op2_mul_int (i j : Int) (h : inW i = true ∨ inW j = true) : op2 .mul (.int i) (.int j) = some (.val (.int (i * j))) := by
  simp only [op2, mulD]
  rw [if_pos]
  rcases h with h | h <;> simp [h]
theorem inW_ofL {i : Int} (h : -(2 ^ 64) < i) (h2 : i < 2 ^ 64) : inW i = true := by
  unfold inW
  rw [decide_eq_true h, decide_eq_true h2]; rfl
@[simp] theorem op2_add_tuple (xs ys : List D) (h : xs.length + ys.length ≤ sz) : op2 .add (.tuple xs) (.tuple ys) = some (.val (.tuple (xs ++ ys))) := by simp [op2, addD, h]
@[simp] theorem op2_add_list (xs ys : List D) (h : xs.length + ys.length ≤ sz) : op2 .add (.list xs) (.list ys) = some (.fresh (.list (xs ++ ys))) := by simp [op2, addD, h]
@[simp] theorem negD_int (i : Int) : negD (.int i) = some (.val (.int (-i))) := (rfl)
@[simp] theorem augD_int (i j : Int) : augD (.int i) (.int j) = some (.int (i + j)) := (rfl)
/-! ### places -/
@[simp] theorem get0 (a : D) (l : List D) : (a :: l)[0]? = some a := (rfl)
@[simp] theorem ixN_nat (n i : Nat) : ixN n (i : Int) = if i < n then some i else none := by
  unfold ixN
  rw [if_pos (Int.natCast_nonneg i)]
  by_cases h : i < n
  · rw [if_pos h, if_pos (by omega)]; simp
  · rw [if_neg h, if_neg (by omega)]
@[simp] theorem ixN_zero (n : Nat) : ixN n 0 = if 0 < n then some 0 else none := ixN_nat n 0
@[simp] theorem ixN_one (n : Nat) : ixN n 1 = if 1 < n then some 1 else none := ixN_nat n 1
@[simp] theorem ixN_two (n : Nat) : ixN n 2 = if 2 < n then some 2 else none := ixN_nat n 2
@[simp] theorem ixN_three (n : Nat) : ixN n 3 = if 3 < n then some 3 else none := ixN_nat n 3
theorem ixN_of {n : Nat} {i : Int} (h : 0 ≤ i) (h2 : i < n) : ixN n i = some i.toNat := by
  unfold ixN; rw [if_pos h, if_pos h2]
@[simp] theorem ixN_last (n : Nat) : ixN (n + 1) (-1) = some n := by
  unfold ixN
  rw [if_neg (by omega), if_pos (by omega)]
  congr 1
  omega
/-- a number of a word, as a place -/
theorem ixN_abs {n : Nat} {a : Int} (h : a ≠ 0) (h2 : a.natAbs ≤ n) : ixN n ((if a < 0 then -a else a) - 1) = some (a.natAbs - 1) := by
  rw [ixN_of] <;> split <;> (try congr 1) <;> omega
@[simp] theorem idxD_list (xs : List D) (i : Int) : idxD (.list xs) (.int i) = ((ixN xs.length i).bind fun j => xs[j]?).map .val := (rfl)
@[simp] theorem idxD_tuple (xs : List D) (i : Int) : idxD (.tuple xs) (.int i) = ((ixN xs.length i).bind fun j => xs[j]?).map .val := (rfl)
@[simp] theorem cut2_list (l h : Option Int) (xs : List D) : cut2 l h (.list xs) = some (.fresh (.list (cut xs l h))) := (rfl)
@[simp] theorem cut2_tuple (l h : Option Int) (xs : List D) : cut2 l h (.tuple xs) = some (.val (.tuple (cut xs l h))) := (rfl)
@[simp] theorem cut_drop (xs : List D) (i : Nat) : cut xs (some (i : Int)) none = xs.drop i := by
  simp only [cut, sIx]
  rw [if_neg (by omega)]
  simp only [Int.toNat_natCast]
  by_cases h : i ≤ xs.length
  · rw [Nat.min_eq_left h, List.take_of_length_le (by simp)]
  · rw [Nat.min_eq_right (by omega), List.drop_of_length_le (Nat.le_refl _), List.drop_of_length_le (by omega)]; simp
@[simp] theorem cut_take (xs : List D) (i : Nat) : cut xs none (some (i : Int)) = xs.take i := by
  simp only [cut, sIx]
  rw [if_neg (by omega)]
  simp only [Int.toNat_natCast, List.drop_zero, Nat.sub_zero]
  by_cases h : i ≤ xs.length
  · rw [Nat.min_eq_left h]
  · rw [Nat.min_eq_right (by omega), List.take_length, List.take_of_length_le (by omega)]
@[simp] theorem cut_drop1 (xs : List D) : cut xs (some 1) none = xs.drop 1 := cut_drop xs 1
@[simp] theorem cut_take1 (xs : List D) : cut xs none (some 1) = xs.take 1 := cut_take xs 1
@[simp] theorem items_tuple (ds : List D) : items? (.tuple ds) = some ds := (rfl)
@[simp] theorem items_list (ds : List D) : items? (.list ds) = some ds := (rfl)
@[simp] theorem rev1_list (xs : List D) : rev1 (.list xs) = some (.fresh (.list xs.reverse)) := (rfl)
@[simp] theorem rev1_tuple (xs : List D) : rev1 (.tuple xs) = some (.val (.tuple xs.reverse)) := (rfl)
/-! ### kinds -/
@[simp] theorem isTy_int_int (i : Int) : isTy .int (.int i) = true := (rfl)
@[simp] theorem isTy_int_bool (i : Bool) : isTy .int (.bool i) = true := (rfl)
@[simp] theorem isTy_int_tuple (i : List D) : isTy .int (.tuple i) = false := (rfl)
@[simp] theorem isTy_int_list (i : List D) : isTy .int (.list i) = false := (rfl)
@[simp] theorem isTy_int_none : isTy .int .none = false := (rfl)
@[simp] theorem isTy_int_str (i : Str) : isTy .int (.str i) = false := (rfl)
@[simp] theorem isTy_bool_int (i : Int) : isTy .bool (.int i) = false := (rfl)
@[simp] theorem isTy_bool_bool (i : Bool) : isTy .bool (.bool i) = true := (rfl)
@[simp] theorem isTy_bool_tuple (i : List D) : isTy .bool (.tuple i) = false := (rfl)
@[simp] theorem isTy_bool_list (i : List D) : isTy .bool (.list i) = false := (rfl)
@[simp] theorem isTy_bool_none : isTy .bool .none = false := (rfl)
@[simp] theorem isTy_bool_str (i : Str) : isTy .bool (.str i) = false := (rfl)
@[simp] theorem isTy_str_int (i : Int) : isTy .str (.int i) = false := (rfl)
@[simp] theorem isTy_str_bool (i : Bool) : isTy .str (.bool i) = false := (rfl)
@[simp] theorem isTy_str_tuple (i : List D) : isTy .str (.tuple i) = false := (rfl)
@[simp] theorem isTy_str_list (i : List D) : isTy .str (.list i) = false := (rfl)
@[simp] theorem isTy_str_none : isTy .str .none = false := (rfl)
@[simp] theorem isTy_str_str (i : Str) : isTy .str (.str i) = true := (rfl)
@[simp] theorem isTy_tuple_int (i : Int) : isTy .tuple (.int i) = false := (rfl)
@[simp] theorem isTy_tuple_bool (i : Bool) : isTy .tuple (.bool i) = false := (rfl)
@[simp] theorem isTy_tuple_tuple (i : List D) : isTy .tuple (.tuple i) = true := (rfl)
@[simp] theorem isTy_tuple_list (i : List D) : isTy .tuple (.list i) = false := (rfl)
@[simp] theorem isTy_tuple_none : isTy .tuple .none = false := (rfl)
@[simp] theorem isTy_tuple_str (i : Str) : isTy .tuple (.str i) = false := (rfl)
@[simp] theorem isTy_list_int (i : Int) : isTy .list (.int i) = false := (rfl)
@[simp] theorem isTy_list_bool (i : Bool) : isTy .list (.bool i) = false := (rfl)
@[simp] theorem isTy_list_tuple (i : List D) : isTy .list (.tuple i) = false := (rfl)
@[simp] theorem isTy_list_list (i : List D) : isTy .list (.list i) = true := (rfl)
@[simp] theorem isTy_list_none : isTy .list .none = false := (rfl)
@[simp] theorem isTy_list_str (i : Str) : isTy .list (.str i) = false := (rfl)
@[simp] theorem isNB_none : isNB .none = true := (rfl)
@[simp] theorem isNB_int (i : Int) : isNB (.int i) = false := (rfl)
@[simp] theorem isNB_bool (i : Bool) : isNB (.bool i) = false := (rfl)
@[simp] theorem isNB_tuple (i : List D) : isNB (.tuple i) = false := (rfl)
@[simp] theorem isNB_list (i : List D) : isNB (.list i) = false := (rfl)
@[simp] theorem isNB_str (i : Str) : isNB (.str i) = false := (rfl)
/-! ### built-ins -/
@[simp] theorem bi_len_list (ds : List D) : biF .len [.list ds] = some (.val (.int ds.length)) := (rfl)
@[simp] theorem bi_len_tuple (ds : List D) : biF .len [.tuple ds] = some (.val (.int ds.length)) := (rfl)
@[simp] theorem bi_len_dict (ds : List (D × D)) : biF .len [.dict ds] = some (.val (.int ds.length)) := (rfl)
@[simp] theorem bi_tuple_list (ds : List D) : biF .tuple [.list ds] = some (.val (.tuple ds)) := (rfl)
@[simp] theorem bi_tuple_tuple (ds : List D) : biF .tuple [.tuple ds] = some (.val (.tuple ds)) := (rfl)
@[simp] theorem bi_list_list (ds : List D) : biF .list [.list ds] = some (.fresh (.list ds)) := (rfl)
@[simp] theorem bi_list_tuple (ds : List D) : biF .list [.tuple ds] = some (.fresh (.list ds)) := (rfl)
@[simp] theorem bi_list_dict (ds : List (D × D)) : biF .list [.dict ds] = some (.fresh (.list (ds.map (·.1)))) := (rfl)
@[simp] theorem bi_abs (i : Int) : biF .abs [.int i] = some (.val (.int (if i < 0 then -i else i))) := (rfl)
@[simp] theorem bi_int (i : Int) : biF .int [.int i] = some (.val (.int i)) := (rfl)
@[simp] theorem bi_int_bool (i : Bool) : biF .int [.bool i] = some (.val (.int (if i then 1 else 0))) := (rfl)
@[simp] theorem bi_max2 (i j : Int) : biF .max2 [.int i, .int j] = some (.val (.int (if j > i then j else i))) := (rfl)
@[simp] theorem bi_min2 (i j : Int) : biF .min2 [.int i, .int j] = some (.val (.int (if j < i then j else i))) := (rfl)
theorem ints_map (l : List Int) : ints? (l.map .int) = some l := by
  induction l with
  | nil => rfl
  | cons a l ih => simp [ints?, ih]
theorem bools_map (l : List Bool) : bools? (l.map .bool) = some l := by
  induction l with
  | nil => rfl
  | cons a l ih => simp [bools?, ih]
theorem ints_mapf {α : Type} (f : α → Int) (l : List α) : ints? (l.map fun a => .int (f a)) = some (l.map f) := by
  have := ints_map (l.map f)
  rwa [List.map_map] at this
theorem bools_mapf {α : Type} (f : α → Bool) (l : List α) : bools? (l.map fun a => .bool (f a)) = some (l.map f) := by
  have := bools_map (l.map f)
  rwa [List.map_map] at this
@[simp] theorem bi_sum (l : List Int) : biF .sum [.list (l.map .int)] = some (.val (.int l.sum)) := by simp [biF, bi1, ints_map]
@[simp] theorem bi_all {α : Type} (f : α → Bool) (l : List α) : biF .all [.list (l.map fun a => .bool (f a))] = some (.val (.bool (l.all f))) := by
  simp [biF, bi1, bools_mapf, List.all_map]
@[simp] theorem bi_any {α : Type} (f : α → Bool) (l : List α) : biF .any [.list (l.map fun a => .bool (f a))] = some (.val (.bool (l.any f))) := by
  simp [biF, bi1, bools_mapf, List.any_map]
/-! ### index -/
theorem indexD_idx {x : D} (hx : ok 64 x) : ∀ {ds : List D}, (∀ d ∈ ds, ok 63 d) → indexD x ds = if x ∈ ds then some (ds.findIdx fun y => decide (y = x)) else none
  | [], _ => by simp [indexD]
  | y :: ds, h => by
    rw [indexD, eqv_ok (h y List.mem_cons_self) hx, indexD_idx hx fun d hd => h d (List.mem_cons_of_mem _ hd)]
    by_cases e : y = x
    · simp [e, List.findIdx_cons]
    · have e' : ¬ x = y := fun h => e h.symm
      simp [e, e', List.findIdx_cons]
@[simp] theorem kdM_index_list (ds : List D) : kdM .index (.list ds) = some .list := (rfl)
@[simp] theorem kdM_index_tuple (ds : List D) : kdM .index (.tuple ds) = some .tuple := (rfl)
@[simp] theorem mthK_index_list (ds : List D) (x : D) (hx : ok 64 x) (h : okAll 63 ds) (hm : x ∈ ds) : mthK .index .list [.list ds, x] = some (.val (.int (ds.findIdx fun y => decide (y = x)))) := by
  have h2 : ok 64 (.list ds) := (ok_list 63 ds).2 h
  simp [mthK, kd?, mthF, seq?, ok_shp hx, ok_shp h2, indexD_idx hx h, hm]
@[simp] theorem mthK_index_tuple (ds : List D) (x : D) (hx : ok 64 x) (h : okAll 63 ds) (hm : x ∈ ds) : mthK .index .tuple [.tuple ds, x] = some (.val (.int (ds.findIdx fun y => decide (y = x)))) := by
  have h2 : ok 64 (.tuple ds) := (ok_tuple 63 ds).2 h
  simp [mthK, kd?, mthF, seq?, ok_shp hx, ok_shp h2, indexD_idx hx h, hm]
/-! ### ranges, zips -/
theorem rangeD_nat (n : Nat) (h : n ≤ sz) : rangeD 0 (n : Int) = some ((List.range n).map nI) := by
  unfold rangeD
  have h' : n ≤ 16777216 := h
  rw [if_pos]
  · simp
  · simp only [Bool.and_eq_true, decide_eq_true_eq]
    refine ⟨⟨⟨⟨?_, ?_⟩, ?_⟩, ?_⟩, ?_⟩ <;> first | omega | (simp; exact h)
theorem rangeD_nat2 (a n : Nat) (h : a + n ≤ sz) : rangeD (a : Int) ((a + n : Nat) : Int) = some ((List.range n).map fun (i : Nat) => .int ((a + i : Nat) : Int)) := by
  unfold rangeD
  have h' : a + n ≤ 16777216 := h
  rw [if_pos]
  · have : ((a + n : Nat) : Int) - (a : Int) = (n : Int) := by omega
    rw [this]
    simp
  · simp only [Bool.and_eq_true, decide_eq_true_eq]
    have : ((a + n : Nat) : Int) - (a : Int) = (n : Int) := by omega
    rw [this]
    refine ⟨⟨⟨⟨?_, ?_⟩, ?_⟩, ?_⟩, ?_⟩ <;> first | omega | (simp; exact Nat.le_trans (Nat.le_add_left _ _) h)
@[simp] theorem rng2D_nat (n : Nat) (h : n ≤ sz) : rng2D [.int 0, .int (n : Int)] = some ((List.range n).map nI) := rangeD_nat n h
@[simp] theorem rngLD_nat (n : Nat) (h : n ≤ sz) : rngLD (.int 0) (.int (n : Int)) = some (.fresh (.list ((List.range n).map nI))) := by simp [rngLD, rangeD_nat n h]
@[simp] theorem rngTD_nat (n : Nat) (h : n ≤ sz) : rngTD (.int 0) (.int (n : Int)) = some (.val (.tuple ((List.range n).map nI))) := by simp [rngTD, rangeD_nat n h]
@[simp] theorem zip2D_list (as bs : List D) : zip2D [.list as, .list bs] = some ((as.zip bs).map fun p => .tuple [p.1, p.2]) := (rfl)
@[simp] theorem zip2D_tuple (as bs : List D) : zip2D [.tuple as, .tuple bs] = some ((as.zip bs).map fun p => .tuple [p.1, p.2]) := (rfl)
@[simp low] theorem enum1D_list (as : List D) : enum1D [.list as] = some (as.zipIdx.map fun p => .tuple [.int p.2, p.1]) := (rfl)
@[simp low] theorem enum1D_tuple (as : List D) : enum1D [.tuple as] = some (as.zipIdx.map fun p => .tuple [.int p.2, p.1]) := (rfl)
@[simp] theorem enum1D_listm {α : Type} (f : α → D) (l : List α) : enum1D [.list (l.map f)] = some (l.zipIdx.map fun p => .tuple [nI p.2, f p.1]) := by
  rw [enum1D_list, List.zipIdx_map, List.map_map]; rfl
@[simp] theorem enum1D_tuplem {α : Type} (f : α → D) (l : List α) : enum1D [.tuple (l.map f)] = some (l.zipIdx.map fun p => .tuple [nI p.2, f p.1]) := by
  rw [enum1D_tuple, List.zipIdx_map, List.map_map]; rfl
@[simp] theorem enum1D_listn : enum1D [.list []] = some [] := rfl
/-! ### injections -/
@[simp] theorem map_int_inj (a b : List Int) : a.map PyData.int = b.map PyData.int ↔ a = b := by
  rw [List.map_inj_right]
  intro x y h; exact PyData.int.inj h
@[simp] theorem mem_map_int (a : Int) (l : List Int) : PyData.int a ∈ l.map PyData.int ↔ a ∈ l := by simp
end Ev
/-! text Sy -/
set_option Elab.async false
set_option linter.all false
set_option maxRecDepth 100000
/-! Sy: rules for loops and comprehensions, by what holds. -/
namespace Ev
open PySem
@[simp] theorem im_eq_J (d : D) (j : Option D) : Slot.im d = J j ↔ j = some d := by cases j <;> simp [J, eq_comm]
@[simp] theorem no_eq_J (j : Option D) : Slot.no = J j ↔ j = none := by cases j <;> simp [J]
@[simp] theorem J_none : J none = .no := (rfl)
@[simp] theorem J_some (d : D) : J (some d) = .im d := (rfl)
@[simp] theorem ex_J (j : Option D) : (∃ x, J j = J x) ↔ True := ⟨fun _ => trivial, fun _ => ⟨j, rfl⟩⟩
theorem sz_val : sz = 16777216 := (rfl)
@[simp] theorem sz_0 : 0 ≤ sz := Nat.zero_le _
@[simp] theorem sz_0' : 0 < sz := by decide
@[simp] theorem sz_1 : 1 ≤ sz := by decide
@[simp] theorem sz_1' : 1 < sz := by decide
@[simp] theorem sz_2 : 2 ≤ sz := by decide
@[simp] theorem sz_2' : 2 < sz := by decide
@[simp] theorem sz_3 : 3 ≤ sz := by decide
@[simp] theorem sz_3' : 3 < sz := by decide
@[simp] theorem sz_4 : 4 ≤ sz := by decide
@[simp] theorem sz_5 : 5 ≤ sz := by decide
@[simp] theorem sz_6 : 6 ≤ sz := by decide
@[simp] theorem Wp_ite {α : Type} (c : Prop) [Decidable c] (x y : O α) (P : α → VEnv → Prop) : Wp (if c then x else y) P ↔ (c → Wp x P) ∧ (¬ c → Wp y P) := by
  by_cases h : c <;> simp [h]
/-- a slot that may be taken again: nothing, held, or one's own -/
def JO : Slot → Prop
  | .io _ => False
  | _ => True
@[simp] theorem JO_no : JO .no := trivial
@[simp] theorem JO_im (d : D) : JO (.im d) := trivial
@[simp] theorem JO_ow (d : D) : JO (.ow d) := trivial
@[simp] theorem JO_J (j : Option D) : JO (J j) := by cases j <;> trivial
@[simp] theorem bindO_JO {s : Slot} (h : JO s) (s' : Slot) (i : Nat) (e : VEnv) : bindO s s' i e = if i < e.length then .ok () (e.set i s') else .bad := by
  cases s <;> first | rfl | exact h.elim
/-- what a call hands back, new or not -/
def mkR (b : Bool) (d : D) : R := if b then .fresh d else .val d
@[simp] theorem mkR_true (d : D) : mkR true d = .fresh d := (rfl)
@[simp] theorem mkR_false (d : D) : mkR false d = .val d := (rfl)
@[simp low] theorem crO_mk (d : D) (b : Bool) (e : VEnv) : crO (.ok d b []) e = .ok (mkR b d) e := (rfl)
@[simp] theorem fz_mk (d : D) (b : Bool) (e : VEnv) : fz (mkR b d) e = .ok d e := by cases b <;> rfl
@[simp] theorem rdM_mk (d : D) (b : Bool) (e : VEnv) : rdM (mkR b d) e = .ok d e := by cases b <;> rfl
@[simp] theorem retR_mk (d : D) (b : Bool) (e : VEnv) : retR (mkR b d) e = .ok (.ret d b) e := by cases b <;> rfl
/-- a slot that holds a datum, one's own or not -/
def Hd (d : D) (s : Slot) : Prop := s = .im d ∨ s = .ow d
@[simp] theorem Hd_im (d d' : D) : Hd d (.im d') ↔ d' = d := by simp [Hd]
@[simp] theorem Hd_ow (d d' : D) : Hd d (.ow d') ↔ d' = d := by simp [Hd]
theorem Hd.JO {d : D} {s : Slot} (h : Hd d s) : Ev.JO s := by rcases h with rfl | rfl <;> trivial
@[simp] theorem bindR_mk (i : Nat) (d : D) (b : Bool) (e : VEnv) : bindR i (mkR b d) e = bind1 i (if b then .ow d else .im d) e := by cases b <;> rfl
theorem forL_wp {α : Type} {en : α → D} {l : List α} {tg : Tg} {body : M Fl} {e : VEnv} {o : O Fl} (hF : forL tg body (l.map en) e = o) (I : List α → VEnv → Prop) (h0 : I [] e)
    (hs : ∀ pre a post, l = pre ++ a :: post → ∀ e, I pre e → Wp (bndO (bindT tg (en a) e) fun _ e => body e) fun f e' => (f = .nx ∨ f = .cont) ∧ I (pre ++ [a]) e') : ∃ e', o = .ok .nx e' ∧ I l e' := by
  rw [← hF]
  refine forL_inv en l I h0 fun pre a post hl e hI => ?_
  have h := hs pre a post hl e hI
  rw [Wp_bnd] at h
  obtain ⟨_, e1, h1, h2⟩ := h.ex
  obtain ⟨f, e2, h3, h4, h5⟩ := h2.ex
  exact ⟨f, e1, e2, h1, h3, h4, h5⟩
theorem forL_wp2 {α : Type} {en : α → D} {l : List α} {tg : Tg} {body : M Fl} {e : VEnv} {o : O Fl} (hF : forL tg body (l.map en) e = o) (I : List α → VEnv → Prop) (Q : Fl → VEnv → Prop) (h0 : I [] e)
    (hs : ∀ pre a post, l = pre ++ a :: post → ∀ e, I pre e → Wp (bndO (bindT tg (en a) e) fun _ e => body e) fun f e' => ((f = .nx ∨ f = .cont) ∧ I (pre ++ [a]) e') ∨ (f = .brk ∧ Q .nx e') ∨ (∃ d fr, f = .ret d fr ∧ Q f e'))
    (hend : ∀ e, I l e → Q .nx e) : ∃ f e', o = .ok f e' ∧ Q f e' := by
  rw [← hF]
  refine forL_inv2 en l I Q h0 (fun pre a post hl e hI => ?_) hend
  have h := hs pre a post hl e hI
  rw [Wp_bnd] at h
  obtain ⟨_, e1, h1, h2⟩ := h.ex
  obtain ⟨f, e2, h3, h4⟩ := h2.ex
  exact ⟨f, e1, e2, h1, h3, h4⟩
/-- a while by a measure: at each state where I n holds, the test, then the body -/
theorem whlL_wp {cond : M Bool} {body : M Fl} {k : Nat} {e : VEnv} {o : O Fl} (hF : whlL cond body k e = o) (I : Nat → VEnv → Prop) (Q : Fl → VEnv → Prop) (n : Nat) (hn : n < k) (h0 : I n e)
    (hs : ∀ n e, I n e → Wp (cond e) fun b e1 => (b = false → Q .nx e1) ∧ (b = true → Wp (body e1) fun f e' => ((f = .nx ∨ f = .cont) ∧ ∃ m, m < n ∧ I m e') ∨ (f = .brk ∧ Q .nx e') ∨ (∃ d fr, f = .ret d fr ∧ Q f e'))) : ∃ f e', o = .ok f e' ∧ Q f e' := by
  rw [← hF]
  refine whlL_inv I Q (fun n e hI => ?_) n k e hn h0
  obtain ⟨b, e1, h1, h2, h3⟩ := (hs n e hI).ex
  refine ⟨b, e1, h1, ?_⟩
  cases b with
  | false => exact .inl ⟨rfl, h2 rfl⟩
  | true =>
    obtain ⟨f, e', h4, h5⟩ := (h3 rfl).ex
    exact .inr ⟨rfl, f, e', h4, h5⟩
@[simp] theorem condW (c : CallF) (q : E) (e : VEnv) : bnd (evE c q) truthM e = bndO (evE c q e) fun r e => bndO (rdM r e) fun d e => optO (truth? d) e := by
  rw [bnd_ap]
  congr 1; funext r e; rw [truthM_fn]
theorem fuelW_eq : fuelW = 1000000000 := (rfl)
/-- a comprehension that changes nothing -/
theorem compM_wp {α : Type} {en : α → D} {l : List α} {ws : List Nat} {tg : Tg} {cond : M Bool} {elt : M D} {e e0 e1 : VEnv} {o : O R} (hF : compM ws tg cond elt (l.map en) e = o) (hl : l.length ≤ sz) (g : α → D) (hf : fzAll ws e = some e0) (hw : wipeE ws e0 = e1)
    (h : ∀ a ∈ l, Wp (stepO tg cond elt (en a) e1) fun x e' => x = some (g a) ∧ wipeE ws e' = e1) : o = .ok (.fresh (.list (l.map g))) (back ws e0 e1) := by
  subst hw
  rw [← hF, compM_pure en l (fun a => some (g a)) hf hl fun a ha => ?_]
  · rw [List.filterMap_eq_map']
  · obtain ⟨x, e', h1, rfl, h2⟩ := (h a ha).ex
    exact ⟨e', h1, h2⟩
/-- .. with a test -/
theorem compM_wpf {α : Type} {en : α → D} {l : List α} {ws : List Nat} {tg : Tg} {cond : M Bool} {elt : M D} {e e0 e1 : VEnv} {o : O R} (hF : compM ws tg cond elt (l.map en) e = o) (hl : l.length ≤ sz) (p : α → Bool) (g : α → D) (hf : fzAll ws e = some e0) (hw : wipeE ws e0 = e1)
    (h : ∀ a ∈ l, Wp (stepO tg cond elt (en a) e1) fun x e' => x = (if p a then some (g a) else none) ∧ wipeE ws e' = e1) : o = .ok (.fresh (.list ((l.filter p).map g))) (back ws e0 e1) := by
  subst hw
  rw [← hF, compM_pure en l (fun a => if p a then some (g a) else none) hf hl fun a ha => ?_]
  · congr 3
    clear h hF hl
    induction l with
    | nil => rfl
    | cons a l ih =>
      rw [List.filterMap_cons]
      by_cases q : p a = true
      · simp [q, List.filter_cons, ih]
      · simp [q, List.filter_cons, ih]
  · obtain ⟨x, e', h1, rfl, h2⟩ := (h a ha).ex
    exact ⟨e', h1, h2⟩
/-- a comprehension that changes other slots, by what holds -/
theorem compM_wpi {α : Type} {en : α → D} {l : List α} {ws : List Nat} {tg : Tg} {cond : M Bool} {elt : M D} {e e0 : VEnv} {o : O R} (hF : compM ws tg cond elt (l.map en) e = o) (hl : l.length ≤ sz) (I : List α → List D → VEnv → Prop) (hf : fzAll ws e = some e0) (h0 : I [] [] (wipeE ws e0))
    (hs : ∀ pre a post, l = pre ++ a :: post → ∀ acc e, I pre acc e → Wp (stepO tg cond elt (en a) e) fun x e' => I (pre ++ [a]) (match x with | some x => acc ++ [x] | none => acc) (wipeE ws e')) :
    ∃ acc e', o = .ok (.fresh (.list acc)) (back ws e0 e') ∧ I l acc e' := by
  rw [← hF]
  refine compM_inv en l I hf hl h0 fun pre a post hl acc e hI => ?_
  obtain ⟨x, e', h1, h2⟩ := (hs pre a post hl acc e hI).ex
  exact ⟨x, e', h1, h2⟩
@[simp] theorem stepO_ap (tg : Tg) (cond : M Bool) (elt : M D) (d : D) (e : VEnv) : stepO tg cond elt d e = bndO (bindT tg d e) fun _ e => bndO (cond e) fun b e => if b then bndO (elt e) fun x e => .ok (some x) e else .ok none e := (rfl)
@[simp] theorem ret_true_ap (e : VEnv) : (ret true : M Bool) e = .ok true e := (rfl)
def fzS (s : Slot) (i : Nat) (e : VEnv) : Option VEnv := match s with
  | .ow d => some (e.set i (.im d))
  | .io _ => none
  | _ => some e
theorem fzAt_ap (e : VEnv) (i : Nat) : fzAt e i = fzS (gs e i) i e := by
  show (match e.getD i .no with | .ow d => some (e.set i (.im d)) | .io _ => none | _ => some e) = fzS (e.getD i .no) i e
  cases e.getD i .no <;> rfl
@[simp] theorem fzS_no (i : Nat) (e : VEnv) : fzS .no i e = some e := (rfl)
@[simp] theorem fzS_im (d : D) (i : Nat) (e : VEnv) : fzS (.im d) i e = some e := (rfl)
@[simp] theorem fzS_J (d : Option D) (i : Nat) (e : VEnv) : fzS (J d) i e = some e := by cases d <;> rfl
@[simp] theorem fzS_ow (d : D) (i : Nat) (e : VEnv) : fzS (.ow d) i e = some (e.set i (.im d)) := (rfl)
/-- held for ever -/
def frz : Slot → Slot
  | .ow d => .im d
  | s => s
@[simp] theorem JO_frz {s : Slot} (h : JO s) : JO (frz s) := by cases s <;> first | trivial | exact h
theorem fzS_JO {s : Slot} (h : JO s) (i : Nat) (e : VEnv) (hs : gs e i = s) (hi : i < e.length) : fzS s i e = some (e.set i (frz s)) := by
  cases s with
  | ow d => rfl
  | io d => exact h.elim
  | _ =>
    simp only [frz]
    have : e.set i (gs e i) = e := by
      unfold gs
      rw [List.getD_eq_getElem?_getD, List.getElem?_eq_getElem hi, Option.getD_some, List.set_getElem_self]
    rw [← hs, this, hs]; rfl
@[simp] theorem fzAt_JO {e : VEnv} {i : Nat} (h : JO (gs e i)) (hi : i < e.length) : fzAt e i = some (e.set i (frz (gs e i))) := (fzAt_ap e i).trans (fzS_JO h i e rfl hi)
/-- nothing, or held -/
def JI (s : Slot) : Prop := ∃ j, s = J j
@[simp] theorem JI_no : JI .no := ⟨none, rfl⟩
@[simp] theorem JI_im (d : D) : JI (.im d) := ⟨some d, rfl⟩
@[simp] theorem JO_JI {s : Slot} (h : JI s) : JO s := by obtain ⟨j, rfl⟩ := h; exact JO_J j
@[simp] theorem frz_JI {s : Slot} (h : JI s) : frz s = s := by obtain ⟨j, rfl⟩ := h; cases j <;> rfl
theorem JI_frz {s : Slot} (h : JO s) : JI (frz s) := by cases s <;> first | exact ⟨none, rfl⟩ | exact ⟨some _, rfl⟩ | exact h.elim
@[simp] theorem fzAll_nil (e : VEnv) : fzAll [] e = some e := (rfl)
@[simp] theorem frz_no : frz .no = .no := (rfl)
@[simp] theorem frz_im (d : D) : frz (.im d) = .im d := (rfl)
@[simp] theorem frz_ow (d : D) : frz (.ow d) = .im d := (rfl)
@[simp] theorem frz_J (d : Option D) : frz (J d) = J d := by cases d <;> rfl
@[simp] theorem fzAll_cons (i : Nat) (is : List Nat) (e : VEnv) : fzAll (i :: is) e = (fzAt e i).bind fun e' => fzAll is e' := (rfl)
@[simp] theorem wipeE_nil (e : VEnv) : wipeE [] e = e := (rfl)
@[simp] theorem wipeE_cons (i : Nat) (is : List Nat) (e : VEnv) : wipeE (i :: is) e = wipeE is (e.set i .no) := (rfl)
@[simp] theorem back_nil (e0 e : VEnv) : back [] e0 e = e := (rfl)
@[simp] theorem back_cons (i : Nat) (is : List Nat) (e0 e : VEnv) : back (i :: is) e0 e = back is e0 (e.set i (gs e0 i)) := (rfl)

/-! ### pure comprehensions, by simp -/
/-- an element of a list, as a premise -/
structure InL {α : Type} (a : α) (l : List α) : Prop where
  mem : a ∈ l
@[simp] theorem lt_of_InL {a n : Nat} (h : InL a (List.range n)) : a < n := List.mem_range.1 h.mem
def compK (ws : List Nat) (tg : Tg) (cond : M Bool) (elt : M D) (ds : List D) (e : VEnv) : O R := compM ws tg cond elt ds e
def valX (o : O (Option D)) : Option D := match o with
  | .ok x _ => x
  | _ => none
/-- each element, with what it is an element of -/
def eachX {α β : Type} (l : List α) (F : (a : α) → InL a l → β) : List β := l.attach.map fun a => F a.1 ⟨a.2⟩
open Classical in
noncomputable def compX {α : Type} (ws : List Nat) (e0 e1 : VEnv) (l : List α) (F : (a : α) → InL a l → O (Option D)) (K : O R) : O R :=
  if l.length ≤ sz ∧ ∀ (a : α) (h : InL a l), ∃ x e', F a h = .ok x e' ∧ wipeE ws e' = e1 then .ok (.fresh (.list ((eachX l fun a h => valX (F a h)).filterMap id))) (back ws e0 e1) else K
theorem eachX_map {α β : Type} (l : List α) (g : α → β) : (eachX l fun a _ => g a) = l.map g := by
  unfold eachX
  rw [List.map_attach_eq_pmap, List.pmap_eq_map]
theorem compM_X {α : Type} (en : α → D) (l : List α) (ws : List Nat) (tg : Tg) (cond : M Bool) (elt : M D) (e : VEnv) :
    compM ws tg cond elt (l.map en) e = (match fzAll ws e with
      | some e0 => compX ws e0 (wipeE ws e0) l (fun a _ => stepO tg cond elt (en a) (wipeE ws e0)) (compK ws tg cond elt (l.map en) e)
      | none => .bad) := by
  cases hf : fzAll ws e with
  | none =>
    simp only [compM, hf]
    split <;> rfl
  | some e0 =>
    simp only [compX]
    split
    · rename_i h
      rw [compM_pure en l (fun a => valX (stepO tg cond elt (en a) (wipeE ws e0))) hf h.1 fun a ha => ?_, eachX_map, List.filterMap_map]
      · rfl
      · obtain ⟨x, e', h1, h2⟩ := h.2 a ⟨ha⟩
        exact ⟨e', by rw [h1]; rfl, h2⟩
    · rfl
def someE (o : Option VEnv) (f : VEnv → O R) : O R := match o with
  | some e => f e
  | none => .bad
@[simp] theorem someE_some (e : VEnv) (f : VEnv → O R) : someE (some e) f = f e := (rfl)
@[simp] theorem compM_map {α : Type} (en : α → D) (l : List α) (ws : List Nat) (tg : Tg) (cond : M Bool) (elt : M D) (e : VEnv) :
    compM ws tg cond elt (l.map en) e = someE (fzAll ws e) fun e0 => compX ws e0 (wipeE ws e0) l (fun a _ => stepO tg cond elt (en a) (wipeE ws e0)) (compK ws tg cond elt (l.map en) e) := by
  rw [compM_X]; cases fzAll ws e <;> rfl
@[simp] theorem compX_map {α : Type} (ws : List Nat) (e0 e1 : VEnv) (g : α → D) (e' : α → VEnv) (l : List α) (K : O R) (hl : l.length ≤ sz) (h : ∀ a, wipeE ws (e' a) = e1) : compX ws e0 e1 l (fun a _ => .ok (some (g a)) (e' a)) K = .ok (.fresh (.list (l.map g))) (back ws e0 e1) := by
  unfold compX
  rw [if_pos ⟨hl, fun a _ => ⟨_, _, rfl, h a⟩⟩]
  simp only [valX]
  rw [eachX_map l (fun a => some (g a)), List.filterMap_map]
  simp [Function.comp_def]
@[simp] theorem compX_filter {α : Type} (ws : List Nat) (e0 e1 : VEnv) (p : α → Prop) [DecidablePred p] (g : α → D) (e' e'' : α → VEnv) (l : List α) (K : O R) (hl : l.length ≤ sz) (h : ∀ a, wipeE ws (e' a) = e1) (h2 : ∀ a, wipeE ws (e'' a) = e1) : compX ws e0 e1 l (fun a _ => if p a then .ok (some (g a)) (e' a) else .ok none (e'' a)) K = .ok (.fresh (.list ((l.filter fun a => decide (p a)).map g))) (back ws e0 e1) := by
  unfold compX
  rw [if_pos ⟨hl, fun a ha => by
    by_cases q : p a
    · exact ⟨_, _, if_pos q, h a⟩
    · exact ⟨_, _, if_neg q, h2 a⟩⟩]
  congr 3
  rw [eachX_map l fun a => valX (if p a then .ok (some (g a)) (e' a) else .ok none (e'' a)), List.filterMap_map]
  clear hl
  induction l with
  | nil => rfl
  | cons a l ih =>
    rw [List.filterMap_cons, ih]
    by_cases q : p a <;> simp [q, valX]
end Ev
/-! text M1 -/
set_option Elab.async false
set_option linter.all false
set_option maxRecDepth 100000
namespace Ev
open PySem
abbrev encN (l : List Nat) : D := .tuple (l.map nI)
abbrev encW (w : List Int) : D := .tuple (w.map .int)
@[simp] theorem map_nI_inj (a b : List Nat) : a.map nI = b.map nI ↔ a = b := by
  rw [List.map_inj_right]
  intro x y h; exact Int.ofNat.inj (PyData.int.inj h)
theorem nI_inj (a b : Nat) : nI a = nI b ↔ a = b := ⟨fun h => Int.ofNat.inj (PyData.int.inj h), fun h => h ▸ rfl⟩
/-! ### words -/
def shStep (f : List Int) (a : Int) : List Int := if f.getLast? = some (-a) then f.dropLast else f ++ [a]
def short (w : List Int) : List Int := w.foldl shStep []
theorem shStep_len (f : List Int) (a : Int) : (shStep f a).length ≤ f.length + 1 := by
  unfold shStep; split <;> simp <;> omega
theorem foldl_shStep_len : ∀ (w f : List Int), (w.foldl shStep f).length ≤ f.length + w.length
  | [], f => by simp
  | a :: w, f => by
    have := foldl_shStep_len w (shStep f a)
    have := shStep_len f a
    simp; omega
theorem short_len (w : List Int) : (short w).length ≤ w.length := by simpa [short] using foldl_shStep_len w []
theorem short_in_run (k : Nat) (d : D) (w : List Int) (hd : items? d = some (w.map .int)) (hw : w.length < sz) : run T (k + 1) F_short_in [] [d] = .ok (encW (short w)) false [] := by
  rw [run_short_in, b_short_in]
  simp [hd]
  generalize hF : forL _ _ _ _ = o
  obtain ⟨e', rfl, j, rfl⟩ := forL_wp hF (fun pre e => ∃ j, e = [.im d, .ow (.list ((pre.foldl shStep []).map .int)), J j]) ⟨none, rfl⟩ (by
      rintro pre a post hl e ⟨j, rfl⟩
      have hz : (pre.foldl shStep []).length < sz := by
        have := foldl_shStep_len pre []
        have := congrArg List.length hl
        simp at *; omega
      simp [shStep]
      generalize pre.foldl shStep [] = f at hz ⊢
      rcases List.eq_nil_or_concat f with rfl | ⟨f, b, rfl⟩
      · simp
      · simp at hz
        by_cases h : b = -a <;> simp [hz, h])
  simp [short]
@[simp] theorem short_in_ok (k : Nat) (w : List Int) (hw : w.length < sz) : run T (k + 1) F_short_in [] [.tuple (w.map .int)] = .ok (encW (short w)) false [] := short_in_run k _ w rfl hw
@[simp] theorem short_in_okl (k : Nat) (w : List Int) (hw : w.length < sz) : run T (k + 1) F_short_in [] [.list (w.map .int)] = .ok (encW (short w)) false [] := short_in_run k _ w rfl hw
/-! ### machines -/
abbrev MSt := List Nat × List Nat
structure Mac where
  wide : Nat
  sts : List MSt
namespace Mac
def n (m : Mac) : Nat := m.sts.length
def outs (m : Mac) (s : Nat) : List Nat := (m.sts.getD s ([], [])).1
def nexts (m : Mac) (s : Nat) : List Nat := (m.sts.getD s ([], [])).2
def o (m : Mac) (s x : Nat) : Nat := (m.outs s).getD x 0
def t (m : Mac) (s x : Nat) : Nat := (m.nexts s).getD x 0
def oi (m : Mac) (s x : Nat) : Nat := (m.outs s).idxOf x
structure StOk (wide n : Nat) (s : MSt) : Prop where
  ol : s.1.length = wide
  ond : s.1.Nodup
  ob : ∀ x ∈ s.1, x < wide
  tl : s.2.length = wide
  tb : ∀ x ∈ s.2, x < n
structure Ok (m : Mac) : Prop where
  w2 : 2 ≤ m.wide
  w5 : m.wide ≤ 5
  n1 : 1 ≤ m.n
  n12 : m.n ≤ 12
  st : ∀ s ∈ m.sts, StOk m.wide m.n s
end Mac
abbrev encS (s : MSt) : D := .tuple [encN s.1, encN s.2]
abbrev encM (m : Mac) : D := .tuple [nI m.wide, .tuple (m.sts.map encS)]
section
variable {m : Mac} (M : m.Ok)
include M
theorem Mac.Ok.stOk {s : Nat} (h : s < m.n) : Mac.StOk m.wide m.n (m.sts.getD s ([], [])) := by
  have h' : s < m.sts.length := h
  rw [List.getD_eq_getElem?_getD, List.getElem?_eq_getElem h', Option.getD_some]
  exact M.st _ (List.getElem_mem h')
theorem Mac.Ok.outs_len {s : Nat} (h : s < m.n) : (m.outs s).length = m.wide := (M.stOk h).ol
theorem Mac.Ok.nexts_len {s : Nat} (h : s < m.n) : (m.nexts s).length = m.wide := (M.stOk h).tl
theorem Mac.Ok.o_lt {s x : Nat} (h : s < m.n) (hx : x < m.wide) : m.o s x < m.wide := by
  have := (M.stOk h).ob
  unfold Mac.o
  rw [List.getD_eq_getElem?_getD, List.getElem?_eq_getElem (by rw [M.outs_len h]; exact hx), Option.getD_some]
  exact this _ (List.getElem_mem _)
theorem Mac.Ok.t_lt {s x : Nat} (h : s < m.n) (hx : x < m.wide) : m.t s x < m.n := by
  have := (M.stOk h).tb
  unfold Mac.t
  rw [List.getD_eq_getElem?_getD, List.getElem?_eq_getElem (by rw [M.nexts_len h]; exact hx), Option.getD_some]
  exact this _ (List.getElem_mem _)
end
theorem mac_get {m : Mac} {s : Nat} (h : s < m.n) : m.sts[s]? = some (m.outs s, m.nexts s) := by
  have h' : s < m.sts.length := h
  simp [Mac.outs, Mac.nexts, h']
theorem Mac.Ok.outs_get {m : Mac} (M : m.Ok) {s x : Nat} (h : s < m.n) (hx : x < m.wide) : (m.outs s)[x]? = some (m.o s x) := by
  unfold Mac.o
  rw [List.getD_eq_getElem?_getD, List.getElem?_eq_getElem (by rw [M.outs_len h]; exact hx), Option.getD_some]
theorem Mac.Ok.nexts_get {m : Mac} (M : m.Ok) {s x : Nat} (h : s < m.n) (hx : x < m.wide) : (m.nexts s)[x]? = some (m.t s x) := by
  unfold Mac.t
  rw [List.getD_eq_getElem?_getD, List.getElem?_eq_getElem (by rw [M.nexts_len h]; exact hx), Option.getD_some]
theorem Mac.Ok.outs_getE {m : Mac} (M : m.Ok) {s x : Nat} (h : s < m.n) (hx : x < m.wide) (h' : x < (m.outs s).length) : (m.outs s)[x]'h' = m.o s x := by
  have := M.outs_get h hx
  rw [List.getElem?_eq_getElem h'] at this
  exact Option.some.inj this
theorem Mac.Ok.nexts_getE {m : Mac} (M : m.Ok) {s x : Nat} (h : s < m.n) (hx : x < m.wide) (h' : x < (m.nexts s).length) : (m.nexts s)[x]'h' = m.t s x := by
  have := M.nexts_get h hx
  rw [List.getElem?_eq_getElem h'] at this
  exact Option.some.inj this
/-- pigeons: a list of different numbers below its length has them all -/
theorem nodup_has : ∀ (n : Nat) (l : List Nat), l.Nodup → (∀ x ∈ l, x < n) → l.length = n → ∀ x, x < n → x ∈ l := by
  intro n
  induction n with
  | zero => intro l _ _ _ x hx; omega
  | succ n ih =>
    intro l hd hb hl x hx
    by_cases hn : n ∈ l
    · have h1 : (l.erase n).Nodup := hd.erase n
      have h2 : ∀ x ∈ l.erase n, x < n := fun y hy => by
        have h3 := (List.Nodup.mem_erase_iff hd).1 hy
        have := hb y h3.2
        omega
      have h3 : (l.erase n).length = n := by rw [List.length_erase_of_mem hn]; omega
      rcases Nat.lt_succ_iff_lt_or_eq.1 hx with h | rfl
      · exact List.mem_of_mem_erase (ih _ h1 h2 h3 x h)
      · exact hn
    · exfalso
      have h2 : ∀ x ∈ l, x < n := fun y hy => by
        have := hb y hy
        have : y ≠ n := fun e => hn (e ▸ hy)
        omega
      -- too many
      match l, hl with
      | y :: l, hl =>
        have hd' := List.nodup_cons.1 hd
        have := ih l hd'.2 (fun z hz => h2 z (List.mem_cons_of_mem _ hz)) (by simpa using hl) y (h2 y List.mem_cons_self)
        exact hd'.1 this
section
variable {m : Mac} (M : m.Ok)
include M
theorem Mac.Ok.mem_outs {s x : Nat} (h : s < m.n) (hx : x < m.wide) : x ∈ m.outs s := nodup_has m.wide _ (M.stOk h).ond (M.stOk h).ob (M.stOk h).ol x hx
theorem Mac.Ok.oi_lt {s x : Nat} (h : s < m.n) (hx : x < m.wide) : m.oi s x < m.wide := by
  have := List.idxOf_lt_length_of_mem (M.mem_outs h hx)
  rw [M.outs_len h] at this
  exact this
theorem Mac.Ok.o_oi {s x : Nat} (h : s < m.n) (hx : x < m.wide) : m.o s (m.oi s x) = x := by
  unfold Mac.o Mac.oi
  have h1 := List.idxOf_lt_length_of_mem (M.mem_outs h hx)
  rw [List.getD_eq_getElem?_getD, List.getElem?_eq_getElem h1, Option.getD_some]
  exact List.getElem_idxOf h1
theorem Mac.Ok.oi_o {s x : Nat} (h : s < m.n) (hx : x < m.wide) : m.oi s (m.o s x) = x := by
  unfold Mac.o Mac.oi
  have h1 : x < (m.outs s).length := by rw [M.outs_len h]; exact hx
  rw [List.getD_eq_getElem?_getD, List.getElem?_eq_getElem h1, Option.getD_some]
  exact (M.stOk h).ond.idxOf_getElem x h1
end
/-- the numbers of a word -/
def WdOk (m : Mac) (w : List Int) : Prop := ∀ a ∈ w, a ≠ 0 ∧ a.natAbs ≤ m.n
/-- where a number leads a letter -/
def Mac.lead (m : Mac) (a : Int) (x : Nat) : Nat := if a > 0 then m.o (a.natAbs - 1) x else m.oi (a.natAbs - 1) x
def Mac.next (m : Mac) (a : Int) (x : Nat) : Int := if a > 0 then (m.t (a.natAbs - 1) x : Int) + 1 else -(m.t (a.natAbs - 1) (m.oi (a.natAbs - 1) x) : Int) - 1
/-- .. a word, and what lies behind, not shortened -/
def Mac.leadW (m : Mac) : List Int → Nat → Nat
  | [], x => x
  | a :: w, x => m.leadW w (m.lead a x)
def Mac.nextW (m : Mac) : List Int → Nat → List Int
  | [], _ => []
  | a :: w, x => m.next a x :: m.nextW w (m.lead a x)
theorem Mac.leadW_append (m : Mac) : ∀ (v w : List Int) (x : Nat), m.leadW (v ++ w) x = m.leadW w (m.leadW v x)
  | [], w, x => rfl
  | a :: v, w, x => m.leadW_append v w (m.lead a x)
theorem Mac.nextW_append (m : Mac) : ∀ (v w : List Int) (x : Nat), m.nextW (v ++ w) x = m.nextW v x ++ m.nextW w (m.leadW v x)
  | [], w, x => rfl
  | a :: v, w, x => congrArg (m.next a x :: ·) (m.nextW_append v w (m.lead a x))
@[simp] theorem Mac.nextW_length (m : Mac) : ∀ (w : List Int) (x : Nat), (m.nextW w x).length = w.length
  | [], _ => rfl
  | a :: w, x => congrArg Nat.succ (m.nextW_length w _)
section
variable {m : Mac} (M : m.Ok)
include M
theorem Mac.Ok.lead_lt {a : Int} {x : Nat} (h0 : a ≠ 0) (h : a.natAbs ≤ m.n) (hx : x < m.wide) : m.lead a x < m.wide := by
  unfold Mac.lead
  split
  · exact M.o_lt (by omega) hx
  · exact M.oi_lt (by omega) hx
theorem Mac.Ok.leadW_lt : ∀ {w : List Int} {x : Nat}, WdOk m w → x < m.wide → m.leadW w x < m.wide
  | [], x, _, hx => hx
  | a :: w, x, hw, hx => Mac.Ok.leadW_lt (w := w) (fun b hb => hw b (List.mem_cons_of_mem _ hb)) (M.lead_lt (hw a List.mem_cons_self).1 (hw a List.mem_cons_self).2 hx)
theorem Mac.Ok.next_ok {a : Int} {x : Nat} (h0 : a ≠ 0) (h : a.natAbs ≤ m.n) (hx : x < m.wide) : m.next a x ≠ 0 ∧ (m.next a x).natAbs ≤ m.n := by
  unfold Mac.next
  split
  · have := M.t_lt (s := a.natAbs - 1) (by omega) hx
    omega
  · have := M.t_lt (s := a.natAbs - 1) (by omega) (M.oi_lt (s := a.natAbs - 1) (by omega) hx)
    omega
theorem Mac.Ok.nextW_ok : ∀ {w : List Int} {x : Nat}, WdOk m w → x < m.wide → WdOk m (m.nextW w x)
  | [], x, _, hx => fun b hb => by simp [Mac.nextW] at hb
  | a :: w, x, hw, hx => by
    have ha := hw a List.mem_cons_self
    intro b hb
    rcases List.mem_cons.1 hb with rfl | hb
    · exact M.next_ok ha.1 ha.2 hx
    · exact Mac.Ok.nextW_ok (w := w) (fun c hc => hw c (List.mem_cons_of_mem _ hc)) (M.lead_lt ha.1 ha.2 hx) b hb
end
theorem shStep_mem {f : List Int} {a b : Int} (h : b ∈ shStep f a) : b ∈ f ∨ b = a := by
  unfold shStep at h
  split at h
  · exact .inl (List.dropLast_subset _ h)
  · rcases List.mem_append.1 h with h | h
    · exact .inl h
    · exact .inr (List.mem_singleton.1 h)
theorem foldl_shStep_mem : ∀ {w f : List Int} {b : Int}, b ∈ w.foldl shStep f → b ∈ f ∨ b ∈ w
  | [], f, b, h => .inl h
  | a :: w, f, b, h => by
    rcases foldl_shStep_mem (w := w) h with h | h
    · rcases shStep_mem h with h | rfl
      · exact .inl h
      · exact .inr List.mem_cons_self
    · exact .inr (List.mem_cons_of_mem _ h)
theorem short_mem {w : List Int} {b : Int} (h : b ∈ short w) : b ∈ w := by
  rcases foldl_shStep_mem h with h | h
  · simp at h
  · exact h
theorem short_ok {m : Mac} {w : List Int} (h : WdOk m w) : WdOk m (short w) := fun b hb => h b (short_mem hb)
theorem findIdx_idxOf (l : List Nat) (x : Nat) : (l.map nI).findIdx (fun y => decide (y = nI x)) = l.idxOf x := by
  rw [List.findIdx_map, List.idxOf]
  congr 1
  funext y
  by_cases h : y = x
  · simp [h]
  · have : ¬ nI y = nI x := fun e => h ((nI_inj _ _).1 e)
    simp [h, this]
@[simp] theorem mthK_index_nat (l : List Nat) (x : Nat) (h : x ∈ l) : mthK .index .tuple [.tuple (l.map nI), nI x] = some (.val (nI (l.idxOf x))) := by
  rw [mthK_index_tuple (l.map nI) (nI x) (by simp) (by simp) (List.mem_map_of_mem h), findIdx_idxOf]
section
variable {m : Mac} (M : m.Ok)
include M
@[simp] theorem step_in_ok (k : Nat) (w : List Int) (x : Nat) (hw : WdOk m w) (hz : w.length < sz) (hx : x < m.wide) :
    run T (k + 2) F_step_in [] [encM m, encW w, nI x] = .ok (.tuple [nI (m.leadW w x), encW (short (m.nextW w x))]) false [] := by
  rw [run_step_in, b_step_in]
  simp
  generalize hF : forL _ _ _ _ = o
  obtain ⟨e', rfl, j1, j2, j3, rfl⟩ := forL_wp hF (fun pre e => ∃ j1 j2 j3, e = [.im (encM m), .im (encW w), .im (nI (m.leadW pre x)), .ow (.list ((m.nextW pre x).map .int)), J j1, J j2, J j3]) ⟨none, none, none, rfl⟩ (by
      rintro pre a post hl e ⟨j1, j2, j3, rfl⟩
      clear hF
      have hpre : WdOk m pre := fun b hb => hw b (hl ▸ List.mem_append_left _ hb)
      have ha := hw a (hl ▸ by simp)
      have hx' := M.leadW_lt hpre hx
      have hlen := congrArg List.length hl
      simp at hlen
      rw [m.leadW_append, m.nextW_append]
      generalize m.leadW pre x = y at hx' ⊢
      have hs : a.natAbs - 1 < m.n := by omega
      have hzl : pre.length < sz := by omega
      rcases Int.lt_or_le 0 a with hp | hp
      · simp [ixN_abs ha.1 (show a.natAbs ≤ m.sts.length from ha.2), mac_get hs, Mac.leadW, Mac.nextW, M.outs_len hs, M.nexts_len hs, hx', M.outs_get hs hx', M.outs_getE hs hx', M.nexts_getE hs hx', hzl, hp, Mac.lead, Mac.next]
      · have hm := M.mem_outs hs hx'
        have hm2 := M.oi_lt hs hx'
        simp [ixN_abs ha.1 (show a.natAbs ≤ m.sts.length from ha.2), mac_get hs, Mac.leadW, Mac.nextW, M.outs_len hs, M.nexts_len hs, hx', hm2, M.nexts_getE hs hm2, hzl, Int.not_lt.2 hp, hm, show (m.outs (a.natAbs - 1)).idxOf y = m.oi (a.natAbs - 1) y from rfl, Mac.lead, Mac.next])
  simp
  simp [hz]
end
end Ev
/-! text So -/
set_option Elab.async false
set_option linter.all false
set_option maxRecDepth 100000
/-! So: sorting data. -/
namespace Ev
open PySem PySem.W PyProof.Rows
theorem alike_keys {x y : D} (h : alike x y = true) (e : keyToks x = keyToks y) : PyData.eqv x y = true := by
  cases q : PyData.eqv x y with
  | true => rfl
  | false =>
    exfalso
    have h1 := (toks_eqv x y h).2 q [] [.inl 0]
    rw [e, lex_pre, lex_irrefl (O := itemOrd)] at h1
    exact absurd h1 (by decide)
theorem dataLt_irrefl (x : D) : dataLt x x = false := lex_irrefl (O := itemOrd) _
theorem dataLt_trans {x y z : D} (h1 : dataLt x y = true) (h2 : dataLt y z = true) : dataLt x z = true := lex_trans (O := itemOrd) _ _ _ h1 h2
theorem dataLe_trans {x y z : D} (h1 : dataLt y x = false) (h2 : dataLt z y = false) : dataLt z x = false := by
  cases q : dataLt z x with
  | false => rfl
  | true =>
    rcases lex_negTrans (O := itemOrd) (keyToks z) (keyToks y) (keyToks x) q with h | h
    · exact absurd (h.symm.trans h2) (by decide)
    · exact absurd (h.symm.trans h1) (by decide)
theorem dataLt_asymm {x y : D} (h : dataLt x y = true) : dataLt y x = false := by
  cases q : dataLt y x with
  | false => rfl
  | true => exact absurd ((dataLt_trans h q).symm.trans (dataLt_irrefl x)) (by decide)
theorem dataLt_total {x y : D} (ha : alike x y = true) (cx : cn x = true) (cy : cn y = true) (h1 : dataLt x y = false) (h2 : dataLt y x = false) : x = y := by
  have := alike_keys ha (lex_total (O := itemOrd) _ _ h1 h2)
  rw [eqv_cn x y cx cy] at this
  exact of_decide_eq_true this
def leD (a b : D) : Bool := !dataLt b a
theorem sortD_perm' (l : List D) : (sortD l).Perm l := List.mergeSort_perm l _
theorem leD_total (a b : D) : (leD a b || leD b a) = true := by
  unfold leD
  cases q : dataLt b a with
  | false => rfl
  | true => rw [dataLt_asymm q]; rfl
theorem leD_trans (a b c : D) (h1 : leD a b = true) (h2 : leD b c = true) : leD a c = true := by
  unfold leD at *
  simp at h1 h2 ⊢
  exact dataLe_trans h1 h2
theorem sortD_sorted (l : List D) : (sortD l).Pairwise (fun a b => leD a b = true) := List.pairwise_mergeSort leD_trans leD_total l
/-- data that can be sorted -/
structure Srt (l : List D) : Prop where
  al : ∀ a ∈ l, ∀ b ∈ l, alike a b = true
  cn : ∀ a ∈ l, cn a = true
theorem Srt.perm {l m : List D} (h : Srt l) (p : l.Perm m) : Srt m := ⟨fun a ha b hb => h.al a (p.mem_iff.2 ha) b (p.mem_iff.2 hb), fun a ha => h.cn a (p.mem_iff.2 ha)⟩
theorem sortD_unique {l m : List D} (h : Srt l) (p : l.Perm m) (hm : m.Pairwise (fun a b => leD a b = true)) : sortD l = m := by
  refine List.Perm.eq_of_pairwise (le := fun a b => leD a b = true) (fun a b ha hb h1 h2 => ?_) (sortD_sorted l) hm ((sortD_perm' l).trans p)
  have ha' := (sortD_perm' l).mem_iff.1 ha
  have hb' := p.mem_iff.2 hb
  unfold leD at h1 h2
  simp at h1 h2
  exact dataLt_total (h.al a ha' b hb') (h.cn a ha') (h.cn b hb') h2 h1
theorem sortD_perm {l m : List D} (h : Srt l) (p : l.Perm m) : sortD l = sortD m := sortD_unique h (p.trans (sortD_perm' m).symm) (sortD_sorted m)
theorem alikeAll_ints : ∀ (a b : List Int), alikeAll (a.map .int) (b.map .int) = true
  | [], _ => by simp [alikeAll]
  | _ :: _, [] => by simp [alikeAll]
  | x :: a, y :: b => by simp [alikeAll, alike, alikeAll_ints a b]
theorem srt_ints (l : List Int) : Srt (l.map .int) := ⟨fun a ha b hb => by
  obtain ⟨x, _, rfl⟩ := List.mem_map.1 ha
  obtain ⟨y, _, rfl⟩ := List.mem_map.1 hb
  rfl, fun a ha => by
  obtain ⟨x, _, rfl⟩ := List.mem_map.1 ha
  rfl⟩
theorem cn_ints (l : List Int) : cn (.tuple (l.map .int)) = true := by
  simp [cn, cnAll_iff]
theorem srt_rows (l : List (List Int)) : Srt (l.map fun r => .tuple (r.map .int)) := ⟨fun a ha b hb => by
  obtain ⟨x, _, rfl⟩ := List.mem_map.1 ha
  obtain ⟨y, _, rfl⟩ := List.mem_map.1 hb
  show alike (.tuple _) (.tuple _) = true
  rw [alike]; exact alikeAll_ints x y, fun a ha => by
  obtain ⟨x, _, rfl⟩ := List.mem_map.1 ha
  exact cn_ints x⟩
/-- what sorting asks -/
theorem sortOk_of2 {l : List D} (h : Srt l) (hok : ∀ d ∈ l, ok 64 d) (hn : ∀ d ∈ l, isNB d = false) (hl : l.length < sz) : sortOk l = true := by
  unfold sortOk
  simp only [Bool.and_eq_true, decide_eq_true_eq, List.all_eq_true]
  refine ⟨⟨fun a ha b hb => h.al a ha b hb, fun d hd => ?_⟩, hl⟩
  simp [ok_shp (hok d hd), hn d hd]
@[simp] theorem bi_sorted_list {l : List D} (h : sortOk l = true) : biF .sorted [.list l] = some (.fresh (.list (sortD l))) := by simp [biF, bi1, h]
@[simp] theorem bi_sorted_tuple {l : List D} (h : sortOk l = true) : biF .sorted [.tuple l] = some (.fresh (.list (sortD l))) := by simp [biF, bi1, h]
@[simp] theorem bi_sorted_dict {l : List (D × D)} (h : sortOk (l.map (·.1)) = true) : biF .sorted [.dict l] = some (.fresh (.list (sortD (l.map (·.1))))) := by
  show (if sortOk (l.map (·.1)) then some (R.fresh (.list (sortD (l.map (·.1))))) else none) = _
  rw [if_pos h]
@[simp] theorem sortOk_ints (l : List Int) (h : l.length < sz) : sortOk (l.map .int) = true := sortOk_of2 (srt_ints l) (by simp) (by simp) (by simpa using h)
theorem sortOk_nats (l : List Nat) (h : l.length < sz) : sortOk (l.map fun (n : Nat) => .int (n : Int)) = true := by
  have := sortOk_ints (l.map fun (n : Nat) => (n : Int)) (by simpa using h)
  rwa [List.map_map] at this
@[simp] theorem sortOk_rows (l : List (List Int)) (h : l.length < sz) : sortOk (l.map fun r => .tuple (r.map .int)) = true := sortOk_of2 (srt_rows l) (by simp) (by simp) (by simpa using h)
/-- numbers, sorted -/
theorem sortD_ints (l m : List Int) (p : l.Perm m) (hm : m.Pairwise (· ≤ ·)) : sortD (l.map .int) = m.map .int := by
  refine sortD_unique (srt_ints l) (p.map _) ?_
  rw [List.pairwise_map]
  refine hm.imp fun {a b} h => ?_
  simp [leD, dataLt_int]; omega
theorem sortD_nats (l m : List Nat) (p : l.Perm m) (hm : m.Pairwise (· ≤ ·)) : sortD (l.map fun (n : Nat) => .int (n : Int)) = m.map fun (n : Nat) => .int (n : Int) := by
  have := sortD_ints (l.map fun (n : Nat) => (n : Int)) (m.map fun (n : Nat) => (n : Int)) (p.map _) (by
    rw [List.pairwise_map]; exact hm.imp fun h => by omega)
  rwa [List.map_map, List.map_map] at this
/-- rows of numbers, one ahead of another -/
def rlt : List Int → List Int → Bool
  | [], [] => false
  | [], _ :: _ => true
  | _ :: _, [] => false
  | a :: r, b :: t => decide (a < b) || (decide (a = b) && rlt r t)
theorem dataLt_rows : ∀ (a b : List Int), dataLt (.tuple (a.map .int)) (.tuple (b.map .int)) = rlt a b
  | [], [] => by decide
  | [], y :: b => by
    rw [dataLt_tuple]; simp only [List.map_nil, List.map_cons, keyToksAll]
    rw [lex_diff (O := itemOrd) (by simp)]; simp only [rlt]; decide
  | y :: b, [] => by
    rw [dataLt_tuple]; simp only [List.map_nil, List.map_cons, keyToksAll]
    rw [lex_diff (O := itemOrd) (by simp)]; simp only [rlt]; decide
  | x :: a, y :: b => by
    have ih := dataLt_rows a b
    rw [dataLt_tuple] at ih ⊢
    rw [List.map_cons, List.map_cons, rlt]
    by_cases e : x = y
    · subst e
      rw [dataLt_all_yes (by simp [alike]) (by simp [PyData.eqv]), ih]
      simp
    · rw [dataLt_all_no (by simp [alike]) (by simp [PyData.eqv, e]), dataLt_int]
      simp [e]
end Ev
/-! text M2 -/
set_option Elab.async false
set_option linter.all false
set_option maxRecDepth 100000
namespace Ev
open PySem
/-! ### tuples for lists -/
mutual
def tupD : D → D
  | .list ds => .tuple (tupDs ds)
  | .tuple ds => .tuple (tupDs ds)
  | d => d
def tupDs : List D → List D
  | [] => []
  | d :: ds => tupD d :: tupDs ds
end
theorem tupDs_map : ∀ (ds : List D), tupDs ds = ds.map tupD
  | [] => (rfl)
  | d :: ds => congrArg (tupD d :: ·) (tupDs_map ds)
@[simp] theorem tupD_list (ds : List D) : tupD (.list ds) = .tuple (ds.map tupD) := by rw [tupD, tupDs_map]
@[simp] theorem tupD_tuple (ds : List D) : tupD (.tuple ds) = .tuple (ds.map tupD) := by rw [tupD, tupDs_map]
@[simp] theorem tupD_int (i : Int) : tupD (.int i) = .int i := (rfl)
@[simp] theorem tupD_bool (i : Bool) : tupD (.bool i) = .bool i := (rfl)
@[simp] theorem tupD_str (i : Str) : tupD (.str i) = .str i := (rfl)
@[simp] theorem tupD_none : tupD .none = .none := (rfl)
mutual
def lstD : D → D
  | .list ds => .list (lstDs ds)
  | .tuple ds => .list (lstDs ds)
  | d => d
def lstDs : List D → List D
  | [] => []
  | d :: ds => lstD d :: lstDs ds
end
theorem lstDs_map : ∀ (ds : List D), lstDs ds = ds.map lstD
  | [] => (rfl)
  | d :: ds => congrArg (lstD d :: ·) (lstDs_map ds)
@[simp] theorem lstD_list (ds : List D) : lstD (.list ds) = .list (ds.map lstD) := by rw [lstD, lstDs_map]
@[simp] theorem lstD_tuple (ds : List D) : lstD (.tuple ds) = .list (ds.map lstD) := by rw [lstD, lstDs_map]
@[simp] theorem lstD_int (i : Int) : lstD (.int i) = .int i := (rfl)
@[simp] theorem lstD_bool (i : Bool) : lstD (.bool i) = .bool i := (rfl)
@[simp] theorem lstD_str (i : Str) : lstD (.str i) = .str i := (rfl)
@[simp] theorem lstD_none : lstD .none = .none := (rfl)
/-- no deeper than n, no longer than the most -/
def fits : Nat → D → Prop
  | 0, .list _ => False
  | 0, .tuple _ => False
  | n + 1, .list ds => ds.length ≤ sz ∧ ∀ d ∈ ds, fits n d
  | n + 1, .tuple ds => ds.length ≤ sz ∧ ∀ d ∈ ds, fits n d
  | _, _ => True
@[simp] theorem fits_int (n : Nat) (i : Int) : fits n (.int i) := by cases n <;> simp [fits]
@[simp] theorem fits_bool (n : Nat) (i : Bool) : fits n (.bool i) := by cases n <;> simp [fits]
@[simp] theorem fits_str (n : Nat) (i : Str) : fits n (.str i) := by cases n <;> simp [fits]
@[simp] theorem fits_none (n : Nat) : fits n .none := by cases n <;> simp [fits]
@[simp] theorem fits_list (n : Nat) (ds : List D) : fits (n + 1) (.list ds) ↔ ds.length ≤ sz ∧ ∀ d ∈ ds, fits n d := by simp [fits]
@[simp] theorem fits_tuple (n : Nat) (ds : List D) : fits (n + 1) (.tuple ds) ↔ ds.length ≤ sz ∧ ∀ d ∈ ds, fits n d := by simp [fits]
theorem tupled_run : ∀ (n k : Nat) (d : D), fits n d → run T (k + n + 1) F_tupled [] [d] = .ok (tupD d) false []
  | 0, k, d, h => by
    rw [run_tupled, b_tupled]
    cases d <;> first | (simp [fits] at h; done) | simp [isTy, tupD]
  | n + 1, k, d, h => by
    have ih := tupled_run n k
    rw [run_tupled, b_tupled]
    cases d with
    | list ds =>
      simp at h
      have e : ∀ d, InL d ds → run T (k + (n + 1)) F_tupled [] [d] = .ok (tupD d) false [] := fun d hd => ih d (h.2 d hd.mem)
      have e2 := compM_map (fun d => d) ds
      simp only [List.map_id'] at e2
      simp +contextual [e2, e, h.1]
    | tuple ds =>
      simp at h
      have e : ∀ d, InL d ds → run T (k + (n + 1)) F_tupled [] [d] = .ok (tupD d) false [] := fun d hd => ih d (h.2 d hd.mem)
      have e2 := compM_map (fun d => d) ds
      simp only [List.map_id'] at e2
      simp +contextual [e2, e, h.1]
    | _ => simp [isTy, tupD]
def lstF : D → Bool
  | .list _ => true
  | .tuple _ => true
  | _ => false
theorem law_lists_run : ∀ (n k : Nat) (d : D), fits n d → run T (k + n + 1) F_law_lists [] [d] = .ok (lstD d) (lstF d) []
  | 0, k, d, h => by
    rw [run_law_lists, b_law_lists]
    cases d <;> first | (simp [fits] at h; done) | simp [isTy, lstD, lstF]
  | n + 1, k, d, h => by
    have ih := law_lists_run n k
    rw [run_law_lists, b_law_lists]
    cases d with
    | list ds =>
      simp at h
      have e : ∀ d, InL d ds → run T (k + (n + 1)) F_law_lists [] [d] = .ok (lstD d) (lstF d) [] := fun d hd => ih d (h.2 d hd.mem)
      have e2 := compM_map (fun d => d) ds
      simp only [List.map_id'] at e2
      simp +contextual [e2, e, h.1, crO_mk, lstF]
    | tuple ds =>
      simp at h
      have e : ∀ d, InL d ds → run T (k + (n + 1)) F_law_lists [] [d] = .ok (lstD d) (lstF d) [] := fun d hd => ih d (h.2 d hd.mem)
      have e2 := compM_map (fun d => d) ds
      simp only [List.map_id'] at e2
      simp +contextual [e2, e, h.1, crO_mk, lstF]
    | _ => simp [isTy, lstD, lstF]
theorem tupled_int (k : Nat) (i : Int) : run T (k + 1) F_tupled [] [.int i] = .ok (.int i) false [] := tupled_run 0 k _ (by simp)
/-! ### tests -/
@[simp] theorem is_number_int (k : Nat) (i : Int) : run T (k + 1) F_is_number [] [.int i] = .ok (.bool true) false [] := by
  rw [run_is_number, b_is_number]; simp
@[simp] theorem is_within_int (k : Nat) (i a b : Int) : run T (k + 2) F_is_within [] [.int i, .int a, .int b] = .ok (.bool (decide (a ≤ i) && decide (i ≤ b))) false [] := by
  rw [run_is_within, b_is_within]; simp
  by_cases h : a ≤ i <;> simp [h]
@[simp] theorem is_long_tuple (k : Nat) (ds : List D) (n : Int) : run T (k + 1) F_is_long [] [.tuple ds, .int n] = .ok (.bool (decide ((ds.length : Int) = n))) false [] := by
  rw [run_is_long, b_is_long]; simp
@[simp] theorem are_numbers_ok {α : Type} (k : Nat) (f : α → Int) (l : List α) (h : l.length ≤ sz) : run T (k + 2) F_are_numbers [] [.tuple (l.map fun a => .int (f a))] = .ok (.bool true) false [] := by
  rw [run_are_numbers, b_are_numbers]; simp +contextual [h]
@[simp] theorem are_numbers_w (k : Nat) (l : List Int) (h : l.length ≤ sz) : run T (k + 2) F_are_numbers [] [.tuple (l.map .int)] = .ok (.bool true) false [] := are_numbers_ok k id l h
theorem is_shuffle_of_ok (k : Nat) (l : List Nat) (n : Nat) (hl : l.length = n) (hd : l.Nodup) (hb : ∀ x ∈ l, x < n) (hn : n < sz) : run T (k + 3) F_is_shuffle_of [] [nI n, encN l] = .ok (.bool true) false [] := by
  have hp : l.Perm (List.range n) := (List.perm_ext_iff_of_nodup hd List.nodup_range).2 fun a => ⟨fun h => List.mem_range.2 (hb a h), fun h => nodup_has n l hd hb hl a (List.mem_range.1 h)⟩
  have e := sortD_nats l (List.range n) hp (List.pairwise_le_range)
  have e2 := sortOk_nats l (by omega)
  rw [run_is_shuffle_of, b_is_shuffle_of]
  simp [hl, e, e2, Nat.le_of_lt hn]

/-! ### machines, words, rows pass -/
theorem range_lt_sz {n : Nat} (h : n ≤ 5) : n < sz := Nat.lt_of_le_of_lt h (by decide)
section
variable {m : Mac} (M : m.Ok)
include M
theorem is_state_of_ok (k : Nat) (s : MSt) (h : Mac.StOk m.wide m.n s) : run T (k + 4) F_is_state_of [] [nI m.wide, nI m.n, encS s] = .ok (.bool true) false [] := by
  have h1 := is_shuffle_of_ok k s.1 m.wide h.ol h.ond h.ob (range_lt_sz M.w5)
  have hz : m.wide ≤ sz := Nat.le_of_lt (range_lt_sz M.w5)
  have hb : ∀ x, InL x s.2 → (x : Int) ≤ (m.n : Int) - 1 := fun x hx => by have := h.tb x hx.mem; omega
  rw [run_is_state_of, b_is_state_of]
  simp +contextual [h1, h.tl, hz, hb]
theorem is_machine_in_ok (k : Nat) : run T (k + 5) F_is_machine_in [] [encM m] = .ok (.bool true) false [] := by
  have h1 := M.w2
  have h2 := M.w5
  have h3 := M.n1
  have h4 := M.n12
  have hz : m.sts.length ≤ sz := Nat.le_trans M.n12 (by decide)
  have e : ∀ s, InL s m.sts → run T (k + 4) F_is_state_of [] [nI m.wide, .int (m.sts.length : Int), encS s] = .ok (.bool true) false [] := fun s hs => is_state_of_ok M k s (M.st s hs.mem)
  unfold Mac.n at h3 h4
  rw [run_is_machine_in, b_is_machine_in]
  simp +contextual [e, hz, show (2 : Int) ≤ (m.wide : Int) by omega, show (m.wide : Int) ≤ 5 by omega, show (1 : Int) ≤ (m.sts.length : Int) by omega, show (m.sts.length : Int) ≤ 12 by omega]
end
end Ev
/-! text M3 -/
set_option Elab.async false
set_option linter.all false
set_option maxRecDepth 100000
/-! M3: words shortened, led, parts: plain mathematics. -/
namespace Ev
open PySem
/-- no number next to its contrary -/
def Rdc (f : List Int) : Prop := ∀ u a v, f ≠ u ++ a :: (-a) :: v
theorem rdc_nil : Rdc [] := fun u a v h => by simp at h
theorem Rdc.left {f g : List Int} (h : Rdc (f ++ g)) : Rdc f := fun u a v e => h u a (v ++ g) (by rw [e]; simp)
theorem Rdc.right {f g : List Int} (h : Rdc (f ++ g)) : Rdc g := fun u a v e => h (f ++ u) a v (by rw [e]; simp)
theorem Rdc.snoc {f : List Int} {a : Int} (h : Rdc f) (hl : f.getLast? ≠ some (-a)) : Rdc (f ++ [a]) := by
  intro u b v e
  rcases List.eq_nil_or_concat v with rfl | ⟨v, c, rfl⟩
  · have e' : f ++ [a] = (u ++ [b]) ++ [-b] := by rw [e]; simp
    have e2 := List.append_inj' e' rfl
    have : a = -b := by simpa using e2.2
    apply hl
    rw [e2.1]; simp; omega
  · have e' : f ++ [a] = (u ++ b :: (-b) :: v) ++ [c] := by rw [e]; simp
    have e2 := List.append_inj' e' rfl
    exact h u b v e2.1
theorem rdc_step {f : List Int} (a : Int) (h : Rdc f) : Rdc (shStep f a) := by
  unfold shStep
  split
  · rename_i q
    obtain ⟨g, hg⟩ : ∃ g, f = g ++ [-a] := by
      rcases List.eq_nil_or_concat f with rfl | ⟨g, b, rfl⟩
      · simp at q
      · exact ⟨g, by simp at q; rw [q]; simp⟩
    subst hg
    simp
    exact h.left
  · rename_i q
    exact h.snoc q
theorem rdc_foldl : ∀ (w : List Int) {f : List Int}, Rdc f → Rdc (w.foldl shStep f)
  | [], f, h => h
  | a :: w, f, h => rdc_foldl w (rdc_step a h)
theorem rdc_short (w : List Int) : Rdc (short w) := rdc_foldl w rdc_nil
theorem step_cancel {f : List Int} (a : Int) (h : Rdc f) : shStep (shStep f a) (-a) = f := by
  rcases List.eq_nil_or_concat f with rfl | ⟨g, b, rfl⟩
  · simp [shStep]
  · by_cases e : b = -a
    · subst e
      have h1 : shStep (g.concat (-a)) a = g := by simp [shStep]
      rw [h1]
      unfold shStep
      rw [if_neg, List.concat_eq_append]
      intro q
      rcases List.eq_nil_or_concat g with rfl | ⟨g', c, rfl⟩
      · simp at q
      · simp at q
        subst q
        exact h g' c [] (by simp)
    · have h1 : shStep (g.concat b) a = g.concat b ++ [a] := by
        simp [shStep, e]
      rw [h1]
      simp [shStep]
theorem foldl_step_append (w v f : List Int) : (w ++ v).foldl shStep f = v.foldl shStep (w.foldl shStep f) := List.foldl_append
theorem short_append (w v : List Int) : short (w ++ v) = v.foldl shStep (short w) := List.foldl_append
theorem short_snoc (w : List Int) (a : Int) : short (w ++ [a]) = shStep (short w) a := by rw [short_append]; rfl
/-- a reduced word stays -/
theorem foldl_rdc : ∀ (v f : List Int), Rdc (f ++ v) → v.foldl shStep f = f ++ v
  | [], f, _ => by simp
  | a :: v, f, h => by
    have h1 : shStep f a = f ++ [a] := by
      unfold shStep
      rw [if_neg]
      intro q
      rcases List.eq_nil_or_concat f with rfl | ⟨g, b, rfl⟩
      · simp at q
      · simp at q
        subst q
        exact h g (-a) v (by simp)
    rw [List.foldl_cons, h1, foldl_rdc v (f ++ [a]) (by simpa using h)]
    simp
theorem short_of_rdc {w : List Int} (h : Rdc w) : short w = w := by simpa [short] using foldl_rdc w [] (by simpa using h)
@[simp] theorem short_short (w : List Int) : short (short w) = short w := short_of_rdc (rdc_short w)
/-- induction over how a word is shortened -/
theorem short_ind {P : List Int → List Int → Prop} (h0 : P [] []) (hpush : ∀ w f a, f = short w → P w f → P (w ++ [a]) (f ++ [a])) (hpop : ∀ w f a, f ++ [-a] = short w → P w (f ++ [-a]) → P (w ++ [a]) f) (w : List Int) : P w (short w) := by
  have key : ∀ (n : Nat) (w : List Int), w.length = n → P w (short w) := by
    intro n
    induction n with
    | zero => intro w h; have : w = [] := List.length_eq_zero_iff.1 h; subst this; exact h0
    | succ n ih =>
      intro w h
      rcases List.eq_nil_or_concat w with rfl | ⟨v, a, rfl⟩
      · simp at h
      · rw [List.concat_eq_append] at h ⊢
        have hv := ih v (by simpa using h)
        rw [short_snoc]
        unfold shStep
        split
        · rename_i q
          rcases List.eq_nil_or_concat (short v) with e | ⟨g, b, e⟩
          · rw [e] at q; simp at q
          · rw [e] at q; simp at q; subst q
            rw [e]
            simp
            rw [List.concat_eq_append] at e
            exact hpop v g a e.symm (e ▸ hv)
        · exact hpush v _ a rfl hv
  exact key _ w rfl
section
variable {m : Mac} (M : m.Ok)
include M
theorem Mac.Ok.lead_neg {a : Int} {x : Nat} (h0 : a ≠ 0) (h : a.natAbs ≤ m.n) (hx : x < m.wide) : m.lead (-a) (m.lead a x) = x := by
  unfold Mac.lead
  rw [Int.natAbs_neg]
  by_cases hp : a > 0
  · rw [if_pos hp, if_neg (by omega)]
    exact M.oi_o (by omega) hx
  · rw [if_neg hp, if_pos (by omega)]
    exact M.o_oi (by omega) hx
theorem Mac.Ok.next_neg {a : Int} {x : Nat} (h0 : a ≠ 0) (h : a.natAbs ≤ m.n) (hx : x < m.wide) : m.next (-a) (m.lead a x) = -(m.next a x) := by
  unfold Mac.next Mac.lead
  rw [Int.natAbs_neg]
  by_cases hp : a > 0
  · rw [if_pos hp, if_pos hp, if_neg (by omega), M.oi_o (by omega) hx]
    omega
  · rw [if_neg hp, if_neg hp, if_pos (by omega)]
    omega
theorem leadW_short {w : List Int} {x : Nat} (hw : WdOk m w) (hx : x < m.wide) : m.leadW (short w) x = m.leadW w x ∧ short (m.nextW (short w) x) = short (m.nextW w x) := by
  revert hw
  refine short_ind (P := fun w f => WdOk m w → m.leadW f x = m.leadW w x ∧ short (m.nextW f x) = short (m.nextW w x)) (fun _ => ⟨rfl, rfl⟩) (fun w f a _ h hw => ?_) (fun w f a hf h hw => ?_) w
  · obtain ⟨h1, h2⟩ := h fun b hb => hw b (List.mem_append_left _ hb)
    rw [m.leadW_append, m.leadW_append, m.nextW_append, m.nextW_append, h1, short_append, short_append, h2]
    exact ⟨rfl, rfl⟩
  · have hw1 : WdOk m w := fun b hb => hw b (List.mem_append_left _ hb)
    have ha := hw a (by simp)
    obtain ⟨h1, h2⟩ := h hw1
    have hs : WdOk m (f ++ [-a]) := hf ▸ short_ok hw1
    have hf' : WdOk m f := fun b hb => hs b (List.mem_append_left _ hb)
    have hy := M.leadW_lt hf' hx
    rw [m.leadW_append] at h1
    rw [m.nextW_append, short_append] at h2
    rw [m.leadW_append, m.nextW_append, short_append, ← h1, ← h2]
    show _ = m.lead a (m.lead (-a) (m.leadW f x)) ∧ _ = shStep (shStep (short (m.nextW f x)) (m.next (-a) (m.leadW f x))) (m.next a (m.lead (-a) (m.leadW f x)))
    have e1 := M.lead_neg (a := -a) (by omega) (by rw [Int.natAbs_neg]; exact ha.2) hy
    have e2 := M.next_neg (a := -a) (by omega) (by rw [Int.natAbs_neg]; exact ha.2) hy
    rw [Int.neg_neg] at e1 e2
    rw [e1, e2, step_cancel _ (rdc_short _)]
    exact ⟨rfl, rfl⟩
end
/-- the row to which a word leads one; the part there: not shortened -/
def Mac.ledU (m : Mac) : List Int → List Nat → List Nat
  | _, [] => []
  | w, x :: r => m.leadW w x :: m.ledU (m.nextW w x) r
def Mac.partU (m : Mac) : List Int → List Nat → List Int
  | w, [] => w
  | w, x :: r => m.partU (m.nextW w x) r
/-- .. shortened at each step -/
def Mac.ledS (m : Mac) : List Int → List Nat → List Nat
  | _, [] => []
  | w, x :: r => m.leadW w x :: m.ledS (short (m.nextW w x)) r
def Mac.partS (m : Mac) : List Int → List Nat → List Int
  | w, [] => w
  | w, x :: r => m.partS (short (m.nextW w x)) r
def ROk (wide : Nat) (r : List Nat) : Prop := ∀ x ∈ r, x < wide
theorem ROk.head {wide x : Nat} {r : List Nat} (h : ROk wide (x :: r)) : x < wide := h x List.mem_cons_self
theorem ROk.tail {wide x : Nat} {r : List Nat} (h : ROk wide (x :: r)) : ROk wide r := fun y hy => h y (List.mem_cons_of_mem _ hy)
section
variable {m : Mac} (M : m.Ok)
include M
theorem ledS_short : ∀ (r : List Nat) (w v : List Int), WdOk m w → WdOk m v → short w = short v → ROk m.wide r → m.ledU w r = m.ledU v r ∧ short (m.partU w r) = short (m.partU v r)
  | [], w, v, hw, hv, e, _ => ⟨rfl, e⟩
  | x :: r, w, v, hw, hv, e, hr => by
    have h1 := leadW_short M hw hr.head
    have h2 := leadW_short M hv hr.head
    rw [e] at h1
    have ih := ledS_short r (m.nextW w x) (m.nextW v x) (M.nextW_ok hw hr.head) (M.nextW_ok hv hr.head) (by rw [← h1.2, ← h2.2]) hr.tail
    refine ⟨?_, ih.2⟩
    show m.leadW w x :: _ = m.leadW v x :: _
    rw [ih.1, ← h1.1, ← h2.1]
theorem ledS_eq : ∀ (r : List Nat) (w v : List Int), WdOk m w → WdOk m v → short w = short v → short w = w → ROk m.wide r → m.ledS w r = m.ledU v r ∧ m.partS w r = short (m.partU v r)
  | [], w, v, hw, hv, e, e2, _ => ⟨rfl, by rw [← e2]; exact e⟩
  | x :: r, w, v, hw, hv, e, e2, hr => by
    have h1 := leadW_short M hv hr.head
    rw [← e, e2] at h1
    have ih := ledS_eq r (short (m.nextW w x)) (m.nextW v x) (short_ok (M.nextW_ok hw hr.head)) (M.nextW_ok hv hr.head) (by rw [short_short]; exact h1.2) (short_short _) hr.tail
    refine ⟨?_, ih.2⟩
    show m.leadW w x :: _ = m.leadW v x :: _
    rw [ih.1, h1.1]
/-- what led_in tells -/
theorem led_eq {w : List Int} {r : List Nat} (hw : WdOk m w) (hr : ROk m.wide r) : m.ledS (short w) r = m.ledU w r ∧ m.partS (short w) r = short (m.partU w r) :=
  ledS_eq M r (short w) w (short_ok hw) hw (short_short w) (short_short w) hr
theorem ledU_ok : ∀ (r : List Nat) (w : List Int), WdOk m w → ROk m.wide r → ROk m.wide (m.ledU w r)
  | [], w, _, _ => fun x hx => by simp [Mac.ledU] at hx
  | x :: r, w, hw, hr => fun y hy => by
    rcases List.mem_cons.1 hy with rfl | hy
    · exact M.leadW_lt hw hr.head
    · exact ledU_ok r _ (M.nextW_ok hw hr.head) hr.tail y hy
theorem partU_ok : ∀ (r : List Nat) (w : List Int), WdOk m w → ROk m.wide r → WdOk m (m.partU w r)
  | [], w, hw, _ => hw
  | x :: r, w, hw, hr => partU_ok r _ (M.nextW_ok hw hr.head) hr.tail
end
@[simp] theorem ledU_length (m : Mac) : ∀ (w : List Int) (r : List Nat), (m.ledU w r).length = r.length
  | w, [] => rfl
  | w, x :: r => congrArg Nat.succ (ledU_length m _ r)
@[simp] theorem partU_length (m : Mac) : ∀ (w : List Int) (r : List Nat), (m.partU w r).length = w.length
  | w, [] => rfl
  | w, x :: r => (partU_length m _ r).trans (m.nextW_length w x)
theorem ledU_nil (m : Mac) : ∀ (r : List Nat), m.ledU [] r = r ∧ m.partU [] r = []
  | [] => ⟨rfl, rfl⟩
  | x :: r => ⟨congrArg (x :: ·) (ledU_nil m r).1, (ledU_nil m r).2⟩
theorem ledU_append (m : Mac) : ∀ (r : List Nat) (v w : List Int), m.ledU (v ++ w) r = m.ledU w (m.ledU v r)
  | [], v, w => rfl
  | x :: r, v, w => by
    show m.leadW (v ++ w) x :: m.ledU (m.nextW (v ++ w) x) r = m.leadW w (m.leadW v x) :: m.ledU (m.nextW w (m.leadW v x)) (m.ledU (m.nextW v x) r)
    rw [m.leadW_append, m.nextW_append, ledU_append m r]
theorem partU_append (m : Mac) : ∀ (r : List Nat) (v w : List Int), m.partU (v ++ w) r = m.partU v r ++ m.partU w (m.ledU v r)
  | [], v, w => rfl
  | x :: r, v, w => by
    show m.partU (m.nextW (v ++ w) x) r = m.partU (m.nextW v x) r ++ m.partU (m.nextW w (m.leadW v x)) (m.ledU (m.nextW v x) r)
    rw [m.nextW_append, partU_append m r]
theorem ledU_rows (m : Mac) : ∀ (r s : List Nat) (w : List Int), m.ledU w (r ++ s) = m.ledU w r ++ m.ledU (m.partU w r) s
  | [], s, w => rfl
  | x :: r, s, w => congrArg (m.leadW w x :: ·) (ledU_rows m r s _)
theorem partU_rows (m : Mac) : ∀ (r s : List Nat) (w : List Int), m.partU w (r ++ s) = m.partU (m.partU w r) s
  | [], s, w => rfl
  | x :: r, s, w => partU_rows m r s _
/-! ### rows of a level -/
def rowsL (wide : Nat) : Nat → List (List Nat)
  | 0 => [[]]
  | n + 1 => (rowsL wide n).flatMap fun r => (List.range wide).map fun x => r ++ [x]
theorem mem_rowsL {wide : Nat} : ∀ {n : Nat} {r : List Nat}, r ∈ rowsL wide n ↔ r.length = n ∧ ROk wide r
  | 0, r => by
    simp [rowsL, ROk]
    intro h; subst h; simp
  | n + 1, r => by
    simp only [rowsL, List.mem_flatMap, List.mem_map, List.mem_range, mem_rowsL (n := n)]
    constructor
    · rintro ⟨s, ⟨h1, h2⟩, x, hx, rfl⟩
      refine ⟨by simp [h1], fun y hy => ?_⟩
      rcases List.mem_append.1 hy with h | h
      · exact h2 y h
      · simp at h; omega
    · rintro ⟨h1, h2⟩
      rcases List.eq_nil_or_concat r with rfl | ⟨s, x, rfl⟩
      · simp at h1
      · rw [List.concat_eq_append] at h1 h2 ⊢
        exact ⟨s, ⟨by simpa using h1, fun y hy => h2 y (List.mem_append_left _ hy)⟩, x, h2 x (by simp), rfl⟩
theorem rowsL_length (wide : Nat) : ∀ (n : Nat), (rowsL wide n).length = wide ^ n
  | 0 => rfl
  | n + 1 => by
    simp [rowsL, List.length_flatMap]
    rw [List.map_const', List.sum_replicate_nat, rowsL_length wide n, Nat.pow_succ]
def numR (wide : Nat) (r : List Nat) : Nat := r.foldl (fun f x => f * wide + x) 0
theorem numR_snoc (wide : Nat) (r : List Nat) (x : Nat) : numR wide (r ++ [x]) = numR wide r * wide + x := by simp [numR]
theorem numR_lt {wide : Nat} {r : List Nat} (h : ROk wide r) : numR wide r < wide ^ r.length := by
  have key : ∀ (n : Nat) (r : List Nat), r.length = n → ROk wide r → numR wide r < wide ^ n := by
    intro n
    induction n with
    | zero => intro r hr _; have : r = [] := List.length_eq_zero_iff.1 hr; subst this; simp [numR]
    | succ n ih =>
      intro r hr h
      rcases List.eq_nil_or_concat r with rfl | ⟨s, x, rfl⟩
      · simp at hr
      · rw [List.concat_eq_append] at hr h ⊢
        have h1 := ih s (by simpa using hr) fun y hy => h y (List.mem_append_left _ hy)
        have h2 := h x (by simp)
        rw [numR_snoc, Nat.pow_succ]
        calc numR wide s * wide + x < numR wide s * wide + wide := by omega
          _ = (numR wide s + 1) * wide := by rw [Nat.add_mul, Nat.one_mul]
          _ ≤ wide ^ n * wide := Nat.mul_le_mul_right _ h1
  exact key _ r rfl h
theorem numR_inj {wide : Nat} : ∀ {n : Nat} {r s : List Nat}, r.length = n → s.length = n → ROk wide r → ROk wide s → numR wide r = numR wide s → r = s := by
  intro n
  induction n with
  | zero => intro r s hr hs _ _ _; rw [List.length_eq_zero_iff.1 hr, List.length_eq_zero_iff.1 hs]
  | succ n ih =>
    intro r s hr hs h1 h2 e
    rcases List.eq_nil_or_concat r with rfl | ⟨r, x, rfl⟩
    · simp at hr
    rcases List.eq_nil_or_concat s with rfl | ⟨s, y, rfl⟩
    · simp at hs
    simp only [List.concat_eq_append] at *
    rw [numR_snoc, numR_snoc] at e
    have hx := h1 x (by simp)
    have hy := h2 y (by simp)
    have hw : 0 < wide := by omega
    have e1 : numR wide r = numR wide s := by
      have a1 : (numR wide r * wide + x) / wide = numR wide r := by
        rw [Nat.mul_comm, Nat.mul_add_div hw, Nat.div_eq_of_lt hx, Nat.add_zero]
      have a2 : (numR wide s * wide + y) / wide = numR wide s := by
        rw [Nat.mul_comm, Nat.mul_add_div hw, Nat.div_eq_of_lt hy, Nat.add_zero]
      rw [← a1, ← a2, e]
    have e2 : x = y := by rw [e1] at e; omega
    rw [ih (by simpa using hr) (by simpa using hs) (fun z hz => h1 z (List.mem_append_left _ hz)) (fun z hz => h2 z (List.mem_append_left _ hz)) e1, e2]
theorem rowsL_get {wide : Nat} : ∀ {n : Nat} (i : Nat) (h : i < (rowsL wide n).length), numR wide (rowsL wide n)[i] = i
  | 0, i, h => by simp [rowsL] at h ⊢; subst h; simp [numR]
  | n + 1, i, h => by
    have hn : i < wide ^ n * wide := by rw [rowsL_length, Nat.pow_succ] at h; exact h
    have hw : 0 < wide := by
      rcases Nat.eq_zero_or_pos wide with e | e
      · subst e; simp at hn
      · exact e
    have h1 : i / wide < (rowsL wide n).length := by rw [rowsL_length]; exact Nat.div_lt_of_lt_mul (by rw [Nat.mul_comm]; exact hn)
    have h2 : i % wide < wide := Nat.mod_lt _ hw
    have key : ∀ (l : List (List Nat)) (j y : Nat) (hj : j < l.length) (hy : y < wide), (l.flatMap fun r => (List.range wide).map fun x => r ++ [x])[j * wide + y]? = some (l[j] ++ [y]) := by
      intro l
      induction l with
      | nil => intro j y hj; simp at hj
      | cons r l ih =>
        intro j y hj hy
        rw [List.flatMap_cons]
        cases j with
        | zero => rw [List.getElem?_append_left (by simpa using hy)]; simp [hy]
        | succ j =>
          rw [List.getElem?_append_right (by simp [Nat.succ_mul]; omega)]
          have : (j + 1) * wide + y - ((List.range wide).map fun x => r ++ [x]).length = j * wide + y := by simp [Nat.succ_mul]; omega
          rw [this, ih j y (by simpa using hj) hy]
          simp
    have k1 := key (rowsL wide n) (i / wide) (i % wide) h1 h2
    have e : i / wide * wide + i % wide = i := by rw [Nat.mul_comm]; exact Nat.div_add_mod i wide
    rw [e] at k1
    have k2 : (rowsL wide (n + 1))[i]? = some ((rowsL wide n)[i / wide] ++ [i % wide]) := k1
    rw [List.getElem?_eq_getElem h] at k2
    rw [Option.some.inj k2, numR_snoc, rowsL_get (n := n) (i / wide) h1, e]
theorem rowsL_num {wide n : Nat} {r : List Nat} (hl : r.length = n) (h : ROk wide r) : (rowsL wide n)[numR wide r]? = some r := by
  have h1 : numR wide r < (rowsL wide n).length := by rw [rowsL_length, ← hl]; exact numR_lt h
  rw [List.getElem?_eq_getElem h1]
  have h2 := rowsL_get (wide := wide) (n := n) (numR wide r) h1
  have h3 := mem_rowsL.1 (List.getElem_mem h1)
  exact congrArg some (numR_inj h3.1 hl h3.2 h h2)
theorem rowsL_nodup (wide n : Nat) : (rowsL wide n).Nodup := by
  rw [List.Nodup, List.pairwise_iff_getElem]
  intro i j hi hj hij e
  have h1 := rowsL_get (wide := wide) (n := n) i hi
  have h2 := rowsL_get (wide := wide) (n := n) j hj
  rw [e, h2] at h1
  omega
theorem rowsL_idxOf {wide n : Nat} {r : List Nat} (hl : r.length = n) (h : ROk wide r) : (rowsL wide n).idxOf r = numR wide r := by
  have h1 := rowsL_num hl h
  have h2 : numR wide r < (rowsL wide n).length := by rw [rowsL_length, ← hl]; exact numR_lt h
  rw [List.getElem?_eq_getElem h2] at h1
  have h3 := (rowsL_nodup wide n).idxOf_getElem (numR wide r) h2
  rw [Option.some.inj h1] at h3
  exact h3
end Ev
/-! text M4 -/
set_option Elab.async false
set_option linter.all false
set_option maxRecDepth 100000
namespace Ev
open PySem
mutual
theorem tupD_lstD : ∀ (d : D), tupD (lstD d) = tupD d
  | .list ds => by rw [lstD, tupD, tupD, tupDs_lstDs ds]
  | .tuple ds => by rw [lstD, tupD, tupD, tupDs_lstDs ds]
  | .none => rfl
  | .int _ => rfl
  | .bool _ => rfl
  | .str _ => rfl
  | .dict _ => rfl
theorem tupDs_lstDs : ∀ (ds : List D), tupDs (lstDs ds) = tupDs ds
  | [] => rfl
  | d :: ds => by rw [lstDs, tupDs, tupDs, tupD_lstD d, tupDs_lstDs ds]
end
theorem fits_lstD : ∀ (n : Nat) (d : D), fits n d → fits n (lstD d)
  | 0, d, h => by cases d <;> first | (simp [fits] at h; done) | simp [lstD, fits]
  | n + 1, d, h => by
    cases d with
    | list ds =>
      rw [lstD_list, fits_list, List.length_map]
      rw [fits_list] at h
      refine ⟨h.1, fun d hd => ?_⟩
      obtain ⟨x, hx, rfl⟩ := List.mem_map.1 hd
      exact fits_lstD n x (h.2 x hx)
    | tuple ds =>
      rw [lstD_tuple, fits_list, List.length_map]
      rw [fits_tuple] at h
      refine ⟨h.1, fun d hd => ?_⟩
      obtain ⟨x, hx, rfl⟩ := List.mem_map.1 hd
      exact fits_lstD n x (h.2 x hx)
    | _ => simp [lstD, fits]
/-- what comes in as x: itself, or with lists in it -/
def Is (n : Nat) (d x : D) : Prop := tupD d = x ∧ fits n d
theorem Is.lst {n : Nat} {d x : D} (h : Is n d x) : Is n (lstD d) x := ⟨(tupD_lstD d).trans h.1, fits_lstD n d h.2⟩
theorem is_encW (w : List Int) (h : w.length ≤ sz) : Is 1 (encW w) (encW w) := ⟨by simp [Function.comp_def], by simp [h]⟩
theorem is_encN (r : List Nat) (h : r.length ≤ sz) : Is 1 (encN r) (encN r) := ⟨by simp [Function.comp_def], by simp [h]⟩
theorem Mac.Ok.is {m : Mac} (M : m.Ok) : Is 4 (encM m) (encM m) := by
  have h1 : m.sts.length ≤ sz := Nat.le_trans M.n12 (by decide)
  have h2 : ∀ s ∈ m.sts, s.1.length ≤ sz ∧ s.2.length ≤ sz := fun s hs => by
    have := M.st s hs
    rw [this.ol, this.tl]
    have := range_lt_sz M.w5
    omega
  refine ⟨by simp [Function.comp_def], ?_⟩
  simp [h1]
  rintro _ a b hs rfl
  simp [h2 (a, b) hs]
section
variable {m : Mac} (M : m.Ok)
include M
theorem sure_machine_run (k : Nat) (d : D) (h : Is 4 d (encM m)) : run T (k + 6) F_sure_machine [] [d] = .ok (encM m) false [] := by
  have h1 := tupled_run 4 k d h.2
  rw [h.1] at h1
  rw [run_sure_machine, b_sure_machine]
  simp [h1, is_machine_in_ok M]
@[simp] theorem sure_machine_ok (k : Nat) : run T (k + 6) F_sure_machine [] [encM m] = .ok (encM m) false [] := sure_machine_run M k _ M.is
theorem sure_machine_lst (k : Nat) : run T (k + 6) F_sure_machine [] [lstD (encM m)] = .ok (encM m) false [] := sure_machine_run M k _ M.is.lst
theorem is_word_of_ok (k : Nat) (w : List Int) (hw : WdOk m w) (hl : w.length ≤ sz) : run T (k + 3) F_is_word_of [] [encM m, encW w] = .ok (.bool true) false [] := by
  have e : ∀ a, InL a w → ¬ a = 0 := fun a ha => (hw a ha.mem).1
  have e2 : ∀ a, InL a w → (if a < 0 then -a else a) ≤ (m.sts.length : Int) := fun a ha => by
    have := (hw a ha.mem).2
    unfold Mac.n at this
    split <;> omega
  rw [run_is_word_of, b_is_word_of]
  simp +contextual [hl, e, e2]
theorem sure_word_run (k : Nat) (d : D) (w : List Int) (h : Is 1 d (encW w)) (hw : WdOk m w) (hl : w.length ≤ 40) : run T (k + 5) F_sure_word [] [encM m, d] = .ok (encW w) false [] := by
  have h1 := tupled_run 1 (k + 2) d h.2
  rw [h.1] at h1
  have h2 := is_word_of_ok M (k + 1) w hw (Nat.le_trans hl (by decide))
  rw [run_sure_word, b_sure_word]
  simp [h1, h2, show ¬ (40 : Int) < (w.length : Int) by omega]
@[simp] theorem sure_word_ok (k : Nat) (w : List Int) (hw : WdOk m w) (hl : w.length ≤ 40) : run T (k + 5) F_sure_word [] [encM m, encW w] = .ok (encW w) false [] := sure_word_run M k _ w (is_encW w (Nat.le_trans hl (by decide))) hw hl
omit M in
theorem is_row_of_ok (k : Nat) (wide : Nat) (r : List Nat) (hr : ROk wide r) (hl : r.length ≤ sz) : run T (k + 3) F_is_row_of [] [nI wide, encN r] = .ok (.bool true) false [] := by
  have e : ∀ a, InL a r → (a : Int) ≤ (wide : Int) - 1 := fun a ha => by
    have := hr a ha.mem
    omega
  rw [run_is_row_of, b_is_row_of]
  simp +contextual [hl, e]
theorem sure_row_run (k : Nat) (d : D) (r : List Nat) (h : Is 1 d (encN r)) (hr : ROk m.wide r) (hl : r.length ≤ 40) : run T (k + 5) F_sure_row [] [encM m, d] = .ok (encN r) false [] := by
  have h1 := tupled_run 1 (k + 2) d h.2
  rw [h.1] at h1
  have h2 := is_row_of_ok (k + 1) m.wide r hr (Nat.le_trans hl (by decide))
  rw [run_sure_row, b_sure_row]
  simp [h1, h2, show ¬ (40 : Int) < (r.length : Int) by omega]
@[simp] theorem sure_row_ok (k : Nat) (r : List Nat) (hr : ROk m.wide r) (hl : r.length ≤ 40) : run T (k + 5) F_sure_row [] [encM m, encN r] = .ok (encN r) false [] := sure_row_run M k _ r (is_encN r (Nat.le_trans hl (by decide))) hr hl
/-! ### led -/
@[simp] theorem letters_led_ok (k : Nat) (w : List Int) (hw : WdOk m w) (hz : w.length < sz) :
    run T (k + 3) F_letters_led [] [encM m, encW w] = .ok (encN ((List.range m.wide).map (m.leadW w))) false [] := by
  have hs : m.wide ≤ sz := Nat.le_trans M.w5 (by decide)
  rw [run_letters_led, b_letters_led]
  simp +contextual [hs, step_in_ok M _ w _ hw hz]
omit M in
theorem ledS_snoc (m : Mac) (w : List Int) (r : List Nat) (x : Nat) : m.ledS w (r ++ [x]) = m.ledS w r ++ [m.leadW (m.partS w r) x] ∧ m.partS w (r ++ [x]) = short (m.nextW (m.partS w r) x) := by
  induction r generalizing w with
  | nil => exact ⟨rfl, rfl⟩
  | cons y r ih => exact ⟨congrArg (m.leadW w y :: ·) (ih _).1, (ih _).2⟩
theorem partS_ok : ∀ (r : List Nat) (w : List Int), WdOk m w → ROk m.wide r → WdOk m (m.partS w r) ∧ (m.partS w r).length ≤ w.length
  | [], w, hw, _ => ⟨hw, Nat.le_refl _⟩
  | x :: r, w, hw, hr => by
    have h := partS_ok r (short (m.nextW w x)) (short_ok (M.nextW_ok hw hr.head)) hr.tail
    refine ⟨h.1, Nat.le_trans h.2 ?_⟩
    have := short_len (m.nextW w x)
    simpa using this
@[simp] theorem led_in_ok (k : Nat) (w : List Int) (r : List Nat) (hw : WdOk m w) (hz : w.length < sz) (hr : ROk m.wide r) (hl : r.length < sz) :
    run T (k + 3) F_led_in [] [encM m, encW w, encN r] = .ok (.tuple [encN (m.ledU w r), encW (short (m.partU w r))]) false [] := by
  have hs : (short w).length < sz := Nat.lt_of_le_of_lt (short_len w) hz
  rw [run_led_in, b_led_in]
  simp [hz]
  generalize hF : forL _ _ _ _ = o
  obtain ⟨e', rfl, j1, j2, rfl⟩ := forL_wp hF (fun pre e => ∃ j1 j2, e = [.im (encM m), .im (encW w), .im (encN r), J j1, .ow (.list ((m.ledS (short w) pre).map nI)), .im (encW (m.partS (short w) pre)), J j2]) ⟨none, none, rfl⟩ (by
      rintro pre x post hl2 e ⟨j1, j2, rfl⟩
      clear hF
      have hpre : ROk m.wide pre := fun b hb => hr b (hl2 ▸ List.mem_append_left _ hb)
      have hx : x < m.wide := hr x (hl2 ▸ by simp)
      obtain ⟨h1, h2⟩ := partS_ok M pre (short w) (short_ok hw) hpre
      have h3 : (m.partS (short w) pre).length < sz := by omega
      have h4 : (m.ledS (short w) pre).length = pre.length := by
        rw [(led_eq M hw hpre).1, ledU_length]
      have h5 : pre.length < sz := by
        have := congrArg List.length hl2
        simp at this; omega
      rw [(ledS_snoc m (short w) pre x).1, (ledS_snoc m (short w) pre x).2]
      simp [M, h1, h3, hx, h4, h5])
  simp [(led_eq M hw hr).1, (led_eq M hw hr).2]
@[simp] theorem row_led_ok (k : Nat) (w : List Int) (r : List Nat) (hw : WdOk m w) (hwl : w.length ≤ 40) (hr : ROk m.wide r) (hl : r.length ≤ 40) :
    run T (k + 7) F_row_led [] [encM m, encW w, encN r] = .ok (encN (m.ledU w r)) false [] := by
  rw [run_row_led, b_row_led]
  simp [M, hw, hwl, hr, hl, Nat.lt_of_le_of_lt hwl (show 40 < sz by decide), Nat.lt_of_le_of_lt hl (show 40 < sz by decide)]
@[simp] theorem part_at_ok (k : Nat) (w : List Int) (r : List Nat) (hw : WdOk m w) (hwl : w.length ≤ 40) (hr : ROk m.wide r) (hl : r.length ≤ 40) :
    run T (k + 7) F_part_at [] [encM m, encW w, encN r] = .ok (encW (short (m.partU w r))) false [] := by
  rw [run_part_at, b_part_at]
  simp [M, hw, hwl, hr, hl, Nat.lt_of_le_of_lt hwl (show 40 < sz by decide), Nat.lt_of_le_of_lt hl (show 40 < sz by decide)]
/-! ### the law's own steps -/
theorem law_one_ok (k : Nat) (a : Int) (x : Nat) (h0 : a ≠ 0) (ha : a.natAbs ≤ m.n) (hx : x < m.wide) : run T (k + 1) F_law_one [] [encM m, .int a, nI x] = .ok (.tuple [nI (m.lead a x), .int (m.next a x)]) false [] := by
  have hs : a.natAbs - 1 < m.n := by omega
  have hwz : m.wide ≤ sz := Nat.le_of_lt (range_lt_sz M.w5)
  rw [run_law_one, b_law_one]
  rcases Int.lt_or_le 0 a with hp | hp
  · simp [ixN_abs h0 (show a.natAbs ≤ m.sts.length from ha), mac_get hs, M.outs_len hs, M.nexts_len hs, hx, M.outs_getE hs hx, M.nexts_getE hs hx, hp, Mac.lead, Mac.next]
  · simp [ixN_abs h0 (show a.natAbs ≤ m.sts.length from ha), mac_get hs, M.outs_len hs, M.nexts_len hs, hx, Int.not_lt.2 hp, hwz]
    generalize hF : forL _ _ _ _ = o
    obtain ⟨f, e', rfl, hf⟩ := forL_wp2 hF (fun pre e => (∀ y ∈ pre, m.o (a.natAbs - 1) y ≠ x) ∧ ∃ j, e = [.im (encM m), .im (.int a), .im (nI x), J j, .im (encN (m.outs (a.natAbs - 1))), .im (encN (m.nexts (a.natAbs - 1)))])
      (fun f _ => f = .ret (.tuple [nI (m.lead a x), .int (m.next a x)]) false) ⟨by simp, none, rfl⟩ (by
        rintro pre y post hl e ⟨hpre, j, rfl⟩
        clear hF
        have hy : y < m.wide := List.mem_range.1 (hl ▸ by simp)
        simp [hy, M.outs_len hs, M.outs_getE hs hy]
        by_cases e : m.o (a.natAbs - 1) y = x
        · have e2 : m.oi (a.natAbs - 1) x = y := by rw [← e]; exact M.oi_o hs hy
          simp [e, M.nexts_len hs, hy, M.nexts_getE hs hy, Mac.lead, Mac.next, Int.not_lt.2 hp, e2]
        · have e' : ¬ ((m.o (a.natAbs - 1) y : Nat) : Int) = (x : Int) := by omega
          simp [e']
          intro z hz
          rcases hz with hz | rfl
          · exact hpre z hz
          · exact e) (by
        rintro e ⟨h, _⟩
        exact absurd (M.o_oi hs hx) (h _ (List.mem_range.2 (M.oi_lt hs hx))))
    subst hf
    simp
@[simp] theorem law_step_ok (k : Nat) (w : List Int) (x : Nat) (hw : WdOk m w) (hz : w.length < sz) (hx : x < m.wide) :
    run T (k + 2) F_law_step [] [encM m, encW w, nI x] = .ok (.tuple [nI (m.leadW w x), encW (m.nextW w x)]) false [] := by
  rw [run_law_step, b_law_step]
  simp
  generalize hF : forL _ _ _ _ = o
  obtain ⟨e', rfl, j1, j2, rfl⟩ := forL_wp hF (fun pre e => ∃ j1 j2, e = [.im (encM m), .im (encW w), .im (nI (m.leadW pre x)), .ow (.list ((m.nextW pre x).map .int)), J j1, J j2]) ⟨none, none, rfl⟩ (by
      rintro pre a post hl e ⟨j1, j2, rfl⟩
      clear hF
      have hpre : WdOk m pre := fun b hb => hw b (hl ▸ List.mem_append_left _ hb)
      have ha := hw a (hl ▸ by simp)
      have hx' := M.leadW_lt hpre hx
      have hzl : pre.length < sz := by
        have := congrArg List.length hl
        simp at this; omega
      rw [m.leadW_append, m.nextW_append]
      simp [law_one_ok M k a _ ha.1 ha.2 hx', hzl, Mac.leadW, Mac.nextW])
  simp
omit M in
theorem partU_snoc (m : Mac) (w : List Int) (r : List Nat) (x : Nat) : m.partU w (r ++ [x]) = m.nextW (m.partU w r) x := partU_rows m r [x] w
@[simp] theorem law_part_ok (k : Nat) (w : List Int) (r : List Nat) (hw : WdOk m w) (hz : w.length < sz) (hr : ROk m.wide r) :
    run T (k + 3) F_law_part [] [encM m, encW w, encN r] = .ok (encW (m.partU w r)) false [] := by
  rw [run_law_part, b_law_part]
  simp
  generalize hF : forL _ _ _ _ = o
  obtain ⟨e', rfl, j1, rfl⟩ := forL_wp hF (fun pre e => ∃ j1, e = [.im (encM m), .im (encW (m.partU w pre)), .im (encN r), J j1]) ⟨none, rfl⟩ (by
      rintro pre x post hl e ⟨j1, rfl⟩
      clear hF
      have hpre : ROk m.wide pre := fun b hb => hr b (hl ▸ List.mem_append_left _ hb)
      have hx : x < m.wide := hr x (hl ▸ by simp)
      rw [partU_snoc]
      simp [M, partU_ok M pre w hw hpre, hz, hx])
  simp
end
/-! ### rows -/
theorem pow_mono {a b : Nat} (wide : Nat) (h : a ≤ b) (hw : 1 ≤ wide) : wide ^ a ≤ wide ^ b := Nat.pow_le_pow_right hw h
@[simp] theorem number_in_ok (k : Nat) (wide : Nat) (r : List Nat) (hw : wide < 2 ^ 32) : run T (k + 1) F_number_in [] [nI wide, encN r] = .ok (nI (numR wide r)) false [] := by
  have hi : inW (wide : Int) = true := inW_ofL (by omega) (by omega)
  rw [run_number_in, b_number_in]
  simp
  generalize hF : forL _ _ _ _ = o
  obtain ⟨e', rfl, j1, rfl⟩ := forL_wp hF (fun pre e => ∃ j1, e = [.im (nI wide), .im (encN r), .im (nI (numR wide pre)), J j1]) ⟨none, rfl⟩ (by
      rintro pre x post hl e ⟨j1, rfl⟩
      clear hF
      rw [numR_snoc]
      simp [op2_mul_int _ _ (Or.inr hi)])
  simp
theorem rowsL_le {wide n N : Nat} (hw : 1 ≤ wide) (h : n ≤ N) : (rowsL wide n).length ≤ wide ^ N := by rw [rowsL_length]; exact pow_mono wide h hw
@[simp] theorem how_many_rows_ok (k : Nat) (wide n : Nat) (hw : wide < 2 ^ 32) (hn : n ≤ sz) : run T (k + 1) F_how_many_rows [] [nI wide, nI n] = .ok (nI (wide ^ n)) false [] := by
  have hi : inW (wide : Int) = true := inW_ofL (by omega) (by omega)
  rw [run_how_many_rows, b_how_many_rows]
  simp [hn]
  generalize hF : forL _ _ _ _ = o
  obtain ⟨e', rfl, j1, rfl⟩ := forL_wp hF (fun pre e => ∃ j1, e = [.im (nI wide), .im (nI n), .im (nI (wide ^ pre.length)), J j1]) ⟨none, rfl⟩ (by
      rintro pre x post hl e ⟨j1, rfl⟩
      clear hF
      simp [op2_mul_int _ _ (Or.inr hi), Nat.pow_succ])
  simp
theorem rowsL_nil (wide : Nat) (h : wide = 0) (n : Nat) : rowsL wide (n + 1) = [] := by subst h; simp [rowsL]
theorem rows_in_run (k : Nat) (wide n : Nat) (hw : 1 ≤ wide) (hn : wide ^ n ≤ sz) (hn2 : n ≤ sz) (hw2 : wide ≤ sz) : run T (k + 1) F_rows_in [] [nI wide, nI n] = .ok (.list ((rowsL wide n).map encN)) (decide (n = 0)) [] := by
  rw [run_rows_in, b_rows_in]
  simp [hn2]
  generalize hF : forL _ _ _ _ = o
  obtain ⟨e', rfl, j1, j2, j3, j4, rfl⟩ := forL_wp hF (fun pre e => ∃ j1 j2 j3 j4, e = [.im (nI wide), .im (nI n), (if pre.length = 0 then .ow (.list ((rowsL wide pre.length).map encN)) else .im (.list ((rowsL wide pre.length).map encN))), J j1, J j2, J j3, J j4]) ⟨none, none, none, none, rfl⟩ (by
      rintro pre0 x post hl e ⟨j1, j2, j3, j4, rfl⟩
      clear hF
      have hlen : pre0.length < n := by
        have := congrArg List.length hl
        simp at this; omega
      have hsz : (rowsL wide (pre0.length + 1)).length ≤ sz := Nat.le_trans (rowsL_le hw (by omega : pre0.length + 1 ≤ n)) hn
      simp only [List.length_append, List.length_singleton, Nat.add_eq_zero_iff, Nat.one_ne_zero, and_false, if_false]
      generalize hs : (if pre0.length = 0 then Slot.ow (.list ((rowsL wide pre0.length).map encN)) else .im (.list ((rowsL wide pre0.length).map encN))) = s
      have hs' : Hd (.list ((rowsL wide pre0.length).map encN)) s := by rw [← hs]; split <;> simp
      generalize hL : rowsL wide pre0.length = L at hs'
      have e1 : rowsL wide (pre0.length + 1) = L.flatMap fun r => (List.range wide).map fun x => r ++ [x] := by rw [← hL]; rfl
      rw [e1] at hsz ⊢
      clear hs
      -- the inner loop
      have inner : ∀ (s2 : Slot), JO s2 → ∀ j2 j3 j4, Wp (forL (.nm 5) (evSs (run T k) [.ex (.ext 4 (.comp (.bin .add (.var 5) (.tup [(.var 6)])) (.nm 6) (.rng1 (.var 0)) none [6]))]) (L.map encN) [.im (nI wide), .im (nI n), s2, J j2, .ow (.list []), J j3, J j4])
          fun f e' => f = .nx ∧ ∃ j3 j4, e' = [.im (nI wide), .im (nI n), s2, J j2, .ow (.list ((L.flatMap fun r => (List.range wide).map fun x => r ++ [x]).map encN)), J j3, J j4] := by
        intro s2 hs2 j2 j3 j4
        generalize hF : forL _ _ _ _ = o
        obtain ⟨e', rfl, j3, j4, rfl⟩ := forL_wp hF (fun pre e => ∃ j3 j4, e = [.im (nI wide), .im (nI n), s2, J j2, .ow (.list ((pre.flatMap fun r => (List.range wide).map fun x => r ++ [x]).map encN)), J j3, J j4]) ⟨_, _, rfl⟩ (by
          rintro pre r post hl e ⟨j3, j4, rfl⟩
          clear hF
          have hr : r.length + 1 ≤ sz := by
            have : r ∈ rowsL wide pre0.length := by rw [hL, hl]; simp
            have := (mem_rowsL.1 this).1
            omega
          have hz : (pre.flatMap fun r => (List.range wide).map fun x => r ++ [x]).length + wide ≤ sz := by
            rw [hl] at hsz
            simp at hsz ⊢
            omega
          simp at hz
          simp [hw2, hr, hz, Function.comp_def])
        exact ⟨rfl, _, _, rfl⟩
      obtain ⟨f, e', h1, rfl, k3, k4, rfl⟩ := (inner (.im (.list (L.map encN))) (by simp) (some (.int x)) j3 j4).ex
      rcases hs' with rfl | rfl
      · simp at h1
        simp [h1]
      · simp at h1
        simp [h1])
  have e : (if (List.range n).length = 0 then Slot.ow (.list ((rowsL wide (List.range n).length).map encN)) else .im (.list ((rowsL wide (List.range n).length).map encN))) = if n = 0 then Slot.ow (.list ((rowsL wide n).map encN)) else .im (.list ((rowsL wide n).map encN)) := by rw [List.length_range]
  rw [e]
  by_cases h : n = 0
  · simp [h]
  · simp [h]
end Ev
/-! text M5 -/
set_option Elab.async false
set_option linter.all false
set_option maxRecDepth 100000
namespace Ev
open PySem
theorem pow_le_sz {wide n : Nat} (h : wide ^ n ≤ 1024) : wide ^ n ≤ sz := Nat.le_trans h (by decide)
theorem exp_lt_pow {wide n : Nat} (hw : 2 ≤ wide) : n < wide ^ n := Nat.lt_pow_self hw
section
variable {m : Mac} (M : m.Ok)
include M
theorem Mac.Ok.wide_lt : m.wide < 2 ^ 32 := Nat.lt_of_le_of_lt M.w5 (by decide)
theorem Mac.Ok.wide_sz : m.wide ≤ sz := Nat.le_trans M.w5 (by decide)
theorem rows_in_ok (k : Nat) (n : Nat) (hn : m.wide ^ n ≤ 1024) : run T (k + 1) F_rows_in [] [nI m.wide, nI n] = .ok (.list ((rowsL m.wide n).map encN)) (decide (n = 0)) [] :=
  rows_in_run k m.wide n (by have := M.w2; omega) (pow_le_sz hn) (by have := exp_lt_pow (n := n) M.w2; have := pow_le_sz hn; omega) M.wide_sz
/-- what a word does to the positions of a level -/
def lvS (m : Mac) (w : List Int) (n : Nat) : List Nat := (rowsL m.wide n).map fun r => numR m.wide (m.ledU w r)
theorem shuffle_in_ok (k : Nat) (w : List Int) (n : Nat) (hw : WdOk m w) (hz : w.length < sz) (hn : m.wide ^ n ≤ 1024) : run T (k + 4) F_shuffle_in [] [encM m, encW w, nI n] = .ok (encN (lvS m w n)) false [] := by
  have e : ∀ r, InL r (rowsL m.wide n) → ROk m.wide r ∧ r.length < sz := fun r hr => by
    have := mem_rowsL.1 hr.mem
    have h2 := exp_lt_pow (n := n) M.w2
    have h3 := pow_le_sz hn
    exact ⟨this.2, by omega⟩
  have e1 : ∀ r, InL r (rowsL m.wide n) → ROk m.wide r := fun r hr => (e r hr).1
  have e2 : ∀ r, InL r (rowsL m.wide n) → r.length < sz := fun r hr => (e r hr).2
  have hl : (rowsL m.wide n).length ≤ sz := by rw [rowsL_length]; exact pow_le_sz hn
  rw [run_shuffle_in, b_shuffle_in]
  simp +contextual [M, rows_in_ok, hn, hw, hz, e1, e2, M.wide_lt, hl, lvS, Function.comp_def]
omit M in
@[simp] theorem sure_height_ok (k : Nat) (n : Nat) (h : n ≤ 10) : run T (k + 4) F_sure_height [] [nI n] = .ok (nI n) false [] := by
  rw [run_sure_height, b_sure_height]
  simp [run_sure_within, b_sure_within, show (n : Int) ≤ 10 by omega]
theorem sure_few_ok (k : Nat) (n : Nat) (most : Int) (hn : ((m.wide ^ n : Nat) : Int) ≤ most) (hs : n ≤ sz) : run T (k + 2) F_sure_few [] [encM m, nI n, .int most] = .ok (nI n) false [] := by
  have h : ¬ most < (m.wide : Int) ^ n := by
    have : ((m.wide ^ n : Nat) : Int) = (m.wide : Int) ^ n := by simp
    omega
  rw [run_sure_few, b_sure_few]
  simp [M.wide_lt, hs, h]
theorem sure_at_run (k : Nat) (d : D) (n : Nat) (hd : run T (k + 7) F_sure_machine [] [d] = .ok (encM m) false []) (hn : m.wide ^ n ≤ 1024) (h : n ≤ 10) : run T (k + 8) F_sure_at [] [d, nI n] = .ok (.tuple [encM m, nI n]) false [] := by
  have := sure_few_ok M (k + 5) n 1024 (by omega) (Nat.le_trans h (by decide))
  rw [run_sure_at, b_sure_at]
  simp [hd, h, this]
theorem sure_word_at_run (k : Nat) (d : D) (w : List Int) (n : Nat) (hd : run T (k + 7) F_sure_machine [] [d] = .ok (encM m) false []) (hw : WdOk m w) (hl : w.length ≤ 40) (hn : m.wide ^ n ≤ 1024) (h : n ≤ 10) : run T (k + 8) F_sure_word_at [] [d, encW w, nI n] = .ok (.tuple [encM m, encW w, nI n]) false [] := by
  have := sure_few_ok M (k + 5) n 1024 (by omega) (Nat.le_trans h (by decide))
  rw [run_sure_word_at, b_sure_word_at]
  simp [hd, h, this, M, hw, hl]
theorem level_shuffle_run (k : Nat) (d : D) (w : List Int) (n : Nat) (hd : run T (k + 7) F_sure_machine [] [d] = .ok (encM m) false []) (hw : WdOk m w) (hl : w.length ≤ 40) (hn : m.wide ^ n ≤ 1024) (h : n ≤ 10) : run T (k + 9) F_level_shuffle [] [d, encW w, nI n] = .ok (encN (lvS m w n)) false [] := by
  have h1 := sure_word_at_run M k d w n hd hw hl hn h
  have h2 := shuffle_in_ok M (k + 4) w n hw (Nat.lt_of_le_of_lt hl (by decide)) hn
  rw [run_level_shuffle, b_level_shuffle]
  simp [h1, h2]
@[simp] theorem level_shuffle_ok (k : Nat) (w : List Int) (n : Nat) (hw : WdOk m w) (hl : w.length ≤ 40) (hn : m.wide ^ n ≤ 1024) (h : n ≤ 10) : run T (k + 9) F_level_shuffle [] [encM m, encW w, nI n] = .ok (encN (lvS m w n)) false [] := level_shuffle_run M k _ w n (sure_machine_ok M (k + 1)) hw hl hn h
/-- all states' -/
def allS (m : Mac) (n : Nat) : List (List Nat) := (List.range m.n).map fun (s : Nat) => lvS m [(s : Int) + 1] n
theorem all_shuffles_ok (k : Nat) (n : Nat) (hn : m.wide ^ n ≤ 1024) : run T (k + 5) F_all_shuffles [] [encM m, nI n] = .ok (.list ((allS m n).map encN)) true [] := by
  have hl : m.sts.length ≤ sz := Nat.le_trans M.n12 (by decide)
  have e : ∀ s, InL s (List.range m.sts.length) → run T (k + 4) F_shuffle_in [] [encM m, .tuple [.int ((s : Int) + 1)], nI n] = .ok (encN (lvS m [(s : Int) + 1] n)) false [] := fun s hs =>
    shuffle_in_ok M k [(s : Int) + 1] n (fun a ha => by
      have := List.mem_range.1 hs.mem
      simp at ha
      subst ha
      have h2 : m.n = m.sts.length := rfl
      omega) (by simp) hn
  rw [run_all_shuffles, b_all_shuffles]
  simp +contextual [hl, e, allS, Mac.n, Function.comp_def]
end
end Ev
/-! text M6 -/
set_option Elab.async false
set_option linter.all false
set_option maxRecDepth 100000
namespace Ev
open PySem
/-! ### shuffles, undone -/
def sortN (l : List Nat) : List Nat := l.mergeSort fun a b => decide (a ≤ b)
theorem sortN_perm (l : List Nat) : (sortN l).Perm l := List.mergeSort_perm l _
theorem sortN_sorted (l : List Nat) : (sortN l).Pairwise (· ≤ ·) := by
  have := List.pairwise_mergeSort (le := fun a b : Nat => decide (a ≤ b)) (fun a b c h1 h2 => by simp at *; omega) (fun a b => by simp; omega) l
  exact this.imp fun h => by simpa using h
@[simp] theorem sortN_length (l : List Nat) : (sortN l).length = l.length := (sortN_perm l).length_eq
theorem sortN_eq {l m : List Nat} (p : l.Perm m) (h : m.Pairwise (· ≤ ·)) : sortN l = m :=
  List.Perm.eq_of_pairwise (fun a b _ _ h1 h2 => Nat.le_antisymm h1 h2) (sortN_sorted l) h ((sortN_perm l).trans p)
@[simp] theorem sortD_natS (l : List Nat) : sortD (l.map nI) = (sortN l).map nI := sortD_nats l _ (sortN_perm l).symm (sortN_sorted l)
@[simp] theorem sortOk_natS (l : List Nat) (h : l.length < sz) : sortOk (l.map nI) = true := sortOk_nats l h
def isShuf (n : Nat) (l : List Nat) : Bool := decide (sortN l = List.range n)
theorem isShuf_perm {n : Nat} {l : List Nat} : isShuf n l = true ↔ l.Perm (List.range n) := by
  unfold isShuf
  rw [decide_eq_true_iff]
  exact ⟨fun h => h ▸ (sortN_perm l).symm, fun h => sortN_eq h List.pairwise_le_range⟩
theorem is_shuffle_of_nat (k : Nat) (l : List Nat) (n : Nat) (hn : n < sz) (hl : l.length < sz) : run T (k + 3) F_is_shuffle_of [] [nI n, encN l] = .ok (.bool (isShuf n l)) false [] := by
  rw [run_is_shuffle_of, b_is_shuffle_of]
  have e : (isShuf n l) = (decide (l.length = n) && isShuf n l) := by
    by_cases h : l.length = n
    · simp [h]
    · have : isShuf n l = false := by
        cases q : isShuf n l with
        | false => rfl
        | true => exact absurd ((isShuf_perm.1 q).length_eq.trans List.length_range) h
      rw [this]; simp
  rw [e]
  by_cases h : l.length = n
  · have h' : (l.length : Int) = (n : Int) := by omega
    simp [h', h, hn, Nat.le_of_lt hn, isShuf]
  · have h' : ¬ (l.length : Int) = (n : Int) := by omega
    simp [h', h]
/-- the list of places -/
def inv (l : List Nat) : List Nat := (List.range l.length).map fun y => l.idxOf y
@[simp] theorem inv_length (l : List Nat) : (inv l).length = l.length := by simp [inv]
theorem setD_list_nat (ds : List D) (i : Nat) (v : D) (h : i < ds.length) : setD (.int (i : Int)) v (.list ds) = some (.val .none, .list (ds.set i v)) := by simp [setD, h]
theorem map_range_set {α : Type} (n i : Nat) (f : Nat → α) (v : α) : ((List.range n).map f).set i v = (List.range n).map fun y => if y = i then v else f y := by
  apply List.ext_getElem
  · simp
  · intro j h1 h2
    rw [List.getElem_set]
    simp
    by_cases e : i = j
    · simp [e]
    · have e' : ¬ j = i := fun h => e h.symm
      simp [e, e']
theorem undone_ok (k : Nat) (l : List Nat) (hb : ∀ x ∈ l, x < l.length) (hd : l.Nodup) (hl : l.length ≤ sz) : run T (k + 1) F_undone [] [encN l] = .ok (encN (inv l)) false [] := by
  rw [run_undone, b_undone]
  have hm : op2 .mul (.list [.int 0]) (.int (l.length : Int)) = some (.fresh (.list ((List.range l.length).map fun _ => .int 0))) := by
    have : repOk 1 (l.length : Int) = true := by
      have h' : l.length ≤ 16777216 := hl
      simp only [repOk, Bool.and_eq_true, decide_eq_true_eq]
      refine ⟨⟨by simpa using hl, by omega⟩, by omega⟩
    simp [op2, mulD, this]
    rw [List.map_const', List.length_range]
  simp [hm]
  generalize hF : forL _ _ _ _ = o
  obtain ⟨e', rfl, j1, j2, rfl⟩ := forL_wp hF (fun pre e => ∃ j1 j2, e = [.im (encN l), .ow (.list ((List.range l.length).map fun y => nI (if y ∈ pre.map (·.1) then l.idxOf y else 0))), J j1, J j2]) ⟨none, none, by simp⟩ (by
    rintro pre ⟨x, i⟩ post hl2 e ⟨j1, j2, rfl⟩
    clear hF
    have hx : l[i]? = some x := by
      have : (x, i) ∈ l.zipIdx := by rw [hl2]; simp
      simpa using (List.mem_zipIdx_iff_getElem?.1 this)
    have hxm : x ∈ l := List.mem_of_getElem? hx
    have hxl := hb x hxm
    have hi : l.idxOf x = i := by
      obtain ⟨h1, h2⟩ := List.getElem?_eq_some_iff.1 hx
      rw [← h2]; exact hd.idxOf_getElem i h1
    simp [setD_list_nat, hxl, map_range_set]
    intro y hy
    by_cases e : y = x
    · simp [e, hi]
    · rw [if_neg e]; simp only [List.map_append, List.mem_append, List.map_cons, List.map_nil, List.mem_singleton, e, or_false])
  have e2 : ((List.range l.length).map fun y => nI (if y ∈ l.zipIdx.map (·.1) then l.idxOf y else 0)) = (inv l).map nI := by
    rw [inv, List.map_map]
    apply List.map_congr_left
    intro y hy
    have : y ∈ l := nodup_has l.length l hd hb rfl y (List.mem_range.1 hy)
    simp [List.zipIdx_map_fst, this]
  rw [e2]
  simp

/-! ### told back, mirrored -/
def nth (l : List Nat) (i : Nat) : Nat := l.getD i 0
theorem nth_get {l : List Nat} {i : Nat} (h : i < l.length) : l[i]? = some (nth l i) := by simp [nth, h]
theorem nth_mem {l : List Nat} {i : Nat} (h : i < l.length) : nth l i ∈ l := List.mem_of_getElem? (nth_get h)
def Mac.back (m : Mac) : Mac := ⟨m.wide, m.sts.map fun s => (inv s.1, (inv s.1).map fun x => nth s.2 x)⟩
def Mac.mirror (m : Mac) : Mac := ⟨m.n, (List.range m.wide).map fun x => (m.sts.map fun s => nth s.2 x, m.sts.map fun s => nth s.1 x)⟩
theorem inv_mem_lt {l : List Nat} (hb : ∀ x ∈ l, x < l.length) (hd : l.Nodup) : ∀ x ∈ inv l, x < l.length := fun x hx => by
  obtain ⟨y, hy, rfl⟩ := List.mem_map.1 hx
  exact List.idxOf_lt_length_of_mem (nodup_has l.length l hd hb rfl y (List.mem_range.1 hy))
theorem inv_nodup {l : List Nat} (hb : ∀ x ∈ l, x < l.length) (hd : l.Nodup) : (inv l).Nodup := by
  rw [inv, List.Nodup, List.pairwise_map]
  refine List.nodup_range.imp_of_mem fun {a b} ha hb2 h e => h ?_
  have h1 := nodup_has l.length l hd hb rfl a (List.mem_range.1 ha)
  have h2 := nodup_has l.length l hd hb rfl b (List.mem_range.1 hb2)
  have e1 := List.getElem_idxOf (List.idxOf_lt_length_of_mem h1)
  have e2 := List.getElem_idxOf (List.idxOf_lt_length_of_mem h2)
  rw [← e1, ← e2]
  congr 1
theorem Mac.Ok.back {m : Mac} (M : m.Ok) : m.back.Ok where
  w2 := M.w2
  w5 := M.w5
  n1 := by have := M.n1; simpa [Mac.n, Mac.back] using this
  n12 := by have := M.n12; simpa [Mac.n, Mac.back] using this
  st := fun s hs => by
    obtain ⟨s, hs', rfl⟩ := List.mem_map.1 hs
    have h := M.st s hs'
    have hb : ∀ x ∈ s.1, x < s.1.length := fun x hx => by rw [h.ol]; exact h.ob x hx
    have hn : m.back.n = m.n := by simp [Mac.n, Mac.back]
    refine ⟨by simp [h.ol, Mac.back], inv_nodup hb h.ond, fun x hx => ?_, by simp [h.ol, Mac.back], fun x hx => ?_⟩
    · have := inv_mem_lt hb h.ond x hx
      rw [h.ol] at this; exact this
    · obtain ⟨y, hy, rfl⟩ := List.mem_map.1 hx
      have hy2 := inv_mem_lt hb h.ond y hy
      rw [h.ol, ← h.tl] at hy2
      rw [hn]
      exact h.tb _ (nth_mem hy2)
section
variable {m : Mac} (M : m.Ok)
include M
theorem back_of_ok (k : Nat) : run T (k + 2) F_back_of [] [encM m] = .ok (encM m.back) false [] := by
  have hsz : m.sts.length ≤ sz := Nat.le_trans M.n12 (by decide)
  rw [run_back_of, b_back_of]
  simp
  generalize hF : forL _ _ _ _ = o
  obtain ⟨e', rfl, j1, j2, j3, j4, rfl⟩ := forL_wp hF (fun pre e => ∃ j1 j2 j3 j4, e = [.im (encM m), .ow (.list ((pre.map fun s => (inv s.1, (inv s.1).map fun x => nth s.2 x)).map encS)), J j1, J j2, J j3, J j4]) ⟨none, none, none, none, rfl⟩ (by
    rintro pre ⟨a, b⟩ post hl e ⟨j1, j2, j3, j4, rfl⟩
    clear hF
    have h := M.st (a, b) (hl ▸ by simp)
    have hb : ∀ x ∈ a, x < a.length := fun x hx => by rw [h.ol]; exact h.ob x hx
    have h1 := undone_ok k a hb h.ond (by rw [h.ol]; exact M.wide_sz)
    have hlen : pre.length < sz := by
      have := congrArg List.length hl
      simp at this; omega
    have hx : ∀ x, InL x (inv a) → x < b.length := fun x hx => by
      have := inv_mem_lt hb h.ond x hx.mem
      rw [h.ol, ← h.tl] at this; exact this
    have hal : a.length ≤ sz := by rw [h.ol]; exact M.wide_sz
    have hx2 : ∀ x, InL x (inv a) → b[x]? = some (nth b x) := fun x hxx => nth_get (hx x hxx)
    simp +contextual [h1, hlen, hx, hx2, hal, -getElem?_pos, Function.comp_def])
  simp [Mac.back]
@[simp] theorem machine_back_ok (k : Nat) : run T (k + 7) F_machine_back [] [encM m] = .ok (encM m.back) false [] := by
  have := back_of_ok M (k + 4)
  rw [run_machine_back, b_machine_back]
  simp [M, this]
theorem Mac.Ok.n_sz : m.sts.length ≤ sz := Nat.le_trans M.n12 (by decide)
theorem mirror_of_ok (k : Nat) : run T (k + 1) F_mirror_of [] [encM m] = .ok (encM m.mirror) false [] := by
  have hsz := M.n_sz
  rw [run_mirror_of, b_mirror_of]
  simp [M.wide_sz]
  generalize hF : forL _ _ _ _ = o
  obtain ⟨e', rfl, j1, j2, rfl⟩ := forL_wp hF (fun pre e => ∃ j1 j2, e = [.im (encM m), .ow (.list ((pre.map fun x => (m.sts.map fun s => nth s.2 x, m.sts.map fun s => nth s.1 x)).map encS)), J j1, J j2]) ⟨none, none, rfl⟩ (by
    rintro pre x post hl e ⟨j1, j2, rfl⟩
    clear hF
    have hx : x < m.wide := List.mem_range.1 (hl ▸ by simp)
    have hlen : pre.length < sz := by
      have := congrArg List.length hl
      have := M.wide_sz
      simp at *; omega
    have h1 : ∀ s, InL s m.sts → x < s.1.length := fun s hs => by rw [(M.st s hs.mem).ol]; exact hx
    have h2 : ∀ s, InL s m.sts → x < s.2.length := fun s hs => by rw [(M.st s hs.mem).tl]; exact hx
    have h3 : ∀ s, InL s m.sts → s.1[x]? = some (nth s.1 x) := fun s hs => nth_get (h1 s hs)
    have h4 : ∀ s, InL s m.sts → s.2[x]? = some (nth s.2 x) := fun s hs => nth_get (h2 s hs)
    simp (config := {maxSteps := 400000, contextual := true}) [hlen, h1, h2, h3, h4, hsz, -getElem?_pos, List.getElem?_cons_zero, Function.comp_def])
  simp [Mac.mirror, Mac.n, Function.comp_def]
/-- whether each letter shuffles the states -/
def Mac.canMir (m : Mac) : Bool := (List.range m.wide).all fun x => isShuf m.n (m.sts.map fun s => nth s.2 x)
theorem can_mirror_ok (k : Nat) : run T (k + 4) F_can_mirror [] [encM m] = .ok (.bool m.canMir) false [] := by
  have hsz := M.n_sz
  have hn : m.sts.length < sz := Nat.lt_of_le_of_lt M.n12 (by decide)
  have h1 := mirror_of_ok M (k + 2)
  have e : ∀ x, InL x (List.range m.wide) → run T (k + 3) F_is_shuffle_of [] [.int (m.sts.length : Int), encN (m.sts.map fun s => nth s.2 x)] = .ok (.bool (isShuf m.n (m.sts.map fun s => nth s.2 x))) false [] := fun x hx =>
    is_shuffle_of_nat k _ m.sts.length hn (by simpa using hn)
  have e2 : ∀ ds : List (Nat), (ds.map fun x => encS ((m.sts.map fun s => nth s.2 x), (m.sts.map fun s => nth s.1 x))) = ds.map fun x => PyData.tuple [encN (m.sts.map fun s => nth s.2 x), encN (m.sts.map fun s => nth s.1 x)] := fun _ => rfl
  rw [run_can_mirror, b_can_mirror]
  simp [h1, Mac.mirror, Mac.n, Function.comp_def]
  have e3 := fun ws tg cond elt e => compM_map (fun x => PyData.tuple [encN (m.sts.map fun s => nth s.2 x), encN (m.sts.map fun s => nth s.1 x)]) (List.range m.wide) ws tg cond elt e
  simp at e3
  simp +contextual [e3, M.wide_sz, e, Mac.canMir]
end
end Ev
/-! text M7 -/
set_option Elab.async false
set_option linter.all false
set_option maxRecDepth 100000
namespace Ev
open PySem
section
variable {m : Mac} (M : m.Ok)
include M
@[simp] theorem is_turnable_ok (k : Nat) : run T (k + 7) F_is_turnable [] [encM m] = .ok (.bool m.canMir) false [] := by
  rw [run_is_turnable, b_is_turnable]
  simp [M, can_mirror_ok M (k + 2)]
@[simp] theorem is_both_ways_ok (k : Nat) : run T (k + 7) F_is_both_ways [] [encM m] = .ok (.bool (m.canMir && m.back.canMir)) false [] := by
  have h1 := can_mirror_ok M (k + 2)
  have h2 := can_mirror_ok M.back (k + 2)
  have h3 := back_of_ok M (k + 4)
  rw [run_is_both_ways, b_is_both_ways]
  simp [M, h1]
  cases m.canMir <;> simp [h3, h2]
theorem canMir_iff : m.canMir = true ↔ ∀ x, x < m.wide → (m.sts.map fun s => nth s.2 x).Nodup := by
  unfold Mac.canMir
  rw [List.all_eq_true]
  refine ⟨fun h x hx => ?_, fun h x hx => ?_⟩
  · have := isShuf_perm.1 (h x (List.mem_range.2 hx))
    exact this.nodup_iff.2 List.nodup_range
  · rw [isShuf_perm]
    have hx' := List.mem_range.1 hx
    have hb : ∀ y ∈ (m.sts.map fun s => nth s.2 x), y < m.n := fun y hy => by
      obtain ⟨s, hs, rfl⟩ := List.mem_map.1 hy
      have := M.st s hs
      exact this.tb _ (nth_mem (by rw [this.tl]; exact hx'))
    exact (List.perm_ext_iff_of_nodup (h x hx') List.nodup_range).2 fun a => ⟨fun h => List.mem_range.2 (hb a h), fun ha => nodup_has m.n _ (h x hx') hb (by simp [Mac.n]) a (List.mem_range.1 ha)⟩
theorem mirror_ok (h : m.canMir = true) (h2 : 2 ≤ m.n) (h5 : m.n ≤ 5) : m.mirror.Ok where
  w2 := h2
  w5 := h5
  n1 := by have := M.w2; simp [Mac.mirror, Mac.n]; omega
  n12 := by have := M.w5; simp [Mac.mirror, Mac.n]; omega
  st := fun s hs => by
    obtain ⟨x, hx, rfl⟩ := List.mem_map.1 hs
    have hx' := List.mem_range.1 hx
    refine ⟨by simp [Mac.mirror, Mac.n], (canMir_iff M).1 h x hx', fun y hy => ?_, by simp [Mac.mirror, Mac.n], fun y hy => ?_⟩
    · obtain ⟨s, hs, rfl⟩ := List.mem_map.1 hy
      have := M.st s hs
      exact this.tb _ (nth_mem (by rw [this.tl]; exact hx'))
    · obtain ⟨s, hs, rfl⟩ := List.mem_map.1 hy
      have := M.st s hs
      have e : m.mirror.n = m.wide := by simp [Mac.mirror, Mac.n]
      rw [e]
      exact this.ob _ (nth_mem (by rw [this.ol]; exact hx'))
theorem machine_mirrored_run (k : Nat) (d : D) (hd : run T (k + 7) F_sure_machine [] [d] = .ok (encM m) false []) (h : m.canMir = true) (h2 : 2 ≤ m.n) (h5 : m.n ≤ 5) : run T (k + 8) F_machine_mirrored [] [d] = .ok (encM m.mirror) false [] := by
  have e1 := can_mirror_ok M (k + 3)
  have e2 := mirror_of_ok M (k + 6)
  unfold Mac.n at h2 h5
  rw [run_machine_mirrored, b_machine_mirrored]
  simp [hd, e1, e2, h, show (2 : Int) ≤ (m.sts.length : Int) by omega, show (m.sts.length : Int) ≤ 5 by omega]
theorem mirror_mirror : m.mirror.mirror = m := by
  have e1 : m.mirror.n = m.wide := by simp [Mac.mirror, Mac.n]
  have e2 : m.mirror.wide = m.n := rfl
  cases m with
  | mk wide sts =>
  unfold Mac.mirror at *
  simp only [Mac.n, List.length_map, List.length_range] at *
  congr 1
  apply List.ext_getElem
  · simp
  · intro i h1 h2
    have hs := M.st sts[i] (List.getElem_mem h2)
    simp only [List.getElem_map, List.getElem_range, List.map_map]
    have key : ∀ (l : List Nat) (f : MSt → List Nat), l = f sts[i] → l.length = wide → (List.range wide).map (fun x => nth (sts.map fun s => nth (f s) x) i) = l := by
      intro l f hl hlen
      apply List.ext_getElem
      · simp [hlen]
      · intro j h3 h4
        simp only [List.getElem_map, List.getElem_range]
        have h5 : nth (sts.map fun s => nth (f s) j) i = nth (f sts[i]) j := by simp [nth, h2]
        rw [h5, ← hl]
        simp [nth, h4]
    refine Prod.ext ?_ ?_
    · exact key _ (·.1) rfl hs.ol
    · exact key _ (·.2) rfl hs.tl
end
/-! ### the law's helpers -/
@[simp] theorem law_flat_ok {α : Type} (k : Nat) (f : α → List D) (l : List α) (mk : List D → D) (hmk : mk = .list ∨ mk = .tuple) (hz : (l.flatMap f).length ≤ sz) : run T (k + 1) F_law_flat [] [.list (l.map fun a => mk (f a))] = .ok (.list (l.flatMap f)) true [] := by
  rw [run_law_flat, b_law_flat]
  simp
  generalize hF : forL _ _ _ _ = o
  obtain ⟨e', rfl, j1, rfl⟩ := forL_wp hF (fun pre e => ∃ j1, e = [.im (.list (l.map fun a => mk (f a))), .ow (.list (pre.flatMap f)), J j1]) ⟨none, rfl⟩ (by
    rintro pre a post hl e ⟨j1, rfl⟩
    clear hF
    have h : (pre.flatMap f).length + (f a).length ≤ sz := by
      rw [hl] at hz
      simp at hz ⊢
      omega
    simp at h
    rcases hmk with rfl | rfl <;> simp [h])
  simp
theorem law_rows_ok (k : Nat) (wide n : Nat) (hw : 1 ≤ wide) (hn : wide ^ n ≤ sz) (hn2 : n ≤ sz) (hw2 : wide ≤ sz) : run T (k + 2) F_law_rows [] [nI wide, nI n] = .ok (.list ((rowsL wide n).map encN)) true [] := by
  rw [run_law_rows, b_law_rows]
  simp [hn2]
  generalize hF : forL _ _ _ _ = o
  obtain ⟨e', rfl, j1, j2, j3, rfl⟩ := forL_wp hF (fun pre e => ∃ j1 j2 j3, e = [.im (nI wide), .im (nI n), .ow (.list ((rowsL wide pre.length).map encN)), J j1, J j2, J j3]) ⟨none, none, none, rfl⟩ (by
    rintro pre x post hl e ⟨j1, j2, j3, rfl⟩
    clear hF
    have hlen : pre.length < n := by
      have := congrArg List.length hl
      simp at this; omega
    have hsz : (rowsL wide (pre.length + 1)).length ≤ sz := Nat.le_trans (rowsL_le hw (by omega : pre.length + 1 ≤ n)) hn
    have hsz0 : (rowsL wide pre.length).length ≤ sz := Nat.le_trans (rowsL_le hw (by omega : pre.length ≤ n)) hn
    have hr : ∀ r, InL r (rowsL wide pre.length) → r.length + 1 ≤ sz := fun r hr => by
      have := (mem_rowsL.1 hr.mem).1
      omega
    have e1 : rowsL wide (pre.length + 1) = (rowsL wide pre.length).flatMap fun r => (List.range wide).map fun x => r ++ [x] := rfl
    have e2 : (rowsL wide (pre.length + 1)).map encN = (rowsL wide pre.length).flatMap fun r => (List.range wide).map fun x => .tuple (r.map nI ++ [nI x]) := by
      rw [e1, List.map_flatMap]
      congr 1
      funext r
      simp [Function.comp_def]
    have h3 := law_flat_ok k (fun r : List Nat => (List.range wide).map fun x => PyData.tuple (r.map nI ++ [nI x])) (rowsL wide pre.length) .list (.inl rfl) (by rw [← e2, List.length_map]; exact hsz)
    rw [← e2] at h3
    simp +contextual [hr, hsz0, hw2, h3])
  simp
end Ev
/-! text M8 -/
set_option Elab.async false
set_option linter.all false
set_option maxRecDepth 100000
namespace Ev
open PySem
/-! ### draws -/
/-- the source of draws, good for n more -/
def Tin (n : Nat) (d : D) : Prop := ∃ a b c : Int, d = .list [.int a, .int b, .int c] ∧ 0 ≤ a ∧ 0 ≤ b ∧ b < 2 ^ 62 ∧ 0 ≤ c ∧ c + n ≤ 2 ^ 40
theorem Tin.mono {n m : Nat} {d : D} (h : Tin n d) (hm : m ≤ n) : Tin m d := by
  obtain ⟨a, b, c, rfl, h1, h2, h3, h4, h5⟩ := h
  exact ⟨a, b, c, rfl, h1, h2, h3, h4, by omega⟩
@[simp] theorem setD_list (ds : List D) (i : Int) (v : D) : setD (.int i) v (.list ds) = (ixN ds.length i).map fun j => (.val .none, .list (ds.set j v)) := by simp [setD]
theorem mulL {i j : Int} (h : inW i = true) : op2 .mul (.int i) (.int j) = some (.val (.int (i * j))) := op2_mul_int i j (.inl h)
theorem mulR {i j : Int} (h : inW j = true) : op2 .mul (.int i) (.int j) = some (.val (.int (i * j))) := op2_mul_int i j (.inr h)
theorem inW_nn {i : Int} (h : 0 ≤ i) (h2 : i < 2 ^ 64) : inW i = true := inW_ofL (by omega) h2
theorem law_take_ok (k : Nat) (d : D) (n b : Nat) (hb : 0 < b) (hb2 : b < 2 ^ 30) (h : Tin (n + 1) d) : ∃ (r : Nat) (d' : D), run T (k + 1) F_law_take [0] [d, nI b] = .ok (nI r) false [d'] ∧ r < b ∧ Tin n d' := by
  obtain ⟨a, s, c, rfl, h1, h2, h3, h4, h5⟩ := h
  have hb' : (0 : Int) < (b : Int) := by omega
  have hb2' : (b : Int) < 1073741824 := by omega
  rw [run_law_take, b_law_take]
  by_cases ha : 0 < a
  · have h6 := Int.emod_nonneg a (show (b : Int) ≠ 0 by omega)
    have h7 := Int.emod_lt_of_pos a hb'
    obtain ⟨r, hr⟩ := Int.eq_ofNat_of_zero_le h6
    refine ⟨r, .list [.int (a / (b : Int)), .int s, .int c], ?_, by omega, ⟨_, _, _, rfl, Int.ediv_nonneg h1 (by omega), h2, h3, h4, by omega⟩⟩
    simp [ha, hb, hb2', setD_list, hr]
  · have m1 := mulL (i := 48271) (j := c + 1) (by decide)
    have m2 := mulR (i := s + 48271 * (c + 1)) (j := 39373 + (c + 1)) (inW_nn (by omega) (by omega))
    generalize he : (s + 48271 * (c + 1)) * (39373 + (c + 1)) % 2147483647 = once at *
    have m3 := mulR (i := once + (c + 1) + s / 1000003) (j := once % 40009 + 7) (inW_nn (by omega) (by omega))
    generalize hf : (once + (c + 1) + s / 1000003) * (once % 40009 + 7) % 2147483629 = twice at *
    have m4 := mulR (i := twice) (j := 48271) (by decide)
    generalize hz : (twice * 48271 + once) % 2147483587 / 64 = z
    have h6 := Int.emod_nonneg z (show (b : Int) ≠ 0 by omega)
    have h7 := Int.emod_lt_of_pos z hb'
    obtain ⟨r, hr⟩ := Int.eq_ofNat_of_zero_le h6
    refine ⟨r, .list [.int a, .int s, .int (c + 1)], ?_, by omega, ⟨_, _, _, rfl, h1, h2, h3, by omega, by omega⟩⟩
    simp [ha, m1, m2, he, m3, hf, m4, hb, hz, hr]
theorem law_box_ok (k : Nat) (c : Int) : ∃ d, run T (k + 1) F_law_box [] [.list [.int c], .int 0] = .ok d true [] ∧ Tin (2 ^ 39) d := by
  have hp : op2 .pow (.int 10) (.int 18) = some (.val (.int 1000000000000000000)) := by
    have : powD (.int 10) (.int 18) = some (.val (.int (10 ^ (18 : Nat)))) := by
      show (if decide ((0 : Int) ≤ 18) && decide ((18 : Int) ≤ 1000) && inW 10 then some (R.val (.int (10 ^ (Int.toNat 18)))) else none) = _
      rw [if_pos (by decide)]; rfl
    simpa [op2] using this
  rw [run_law_box, b_law_box]
  generalize hq : (if (1000000000000000000 : Int) ≤ (if c < 0 then -c else c) then (1 : Int) else 0) = q
  have hq1 : 0 ≤ q ∧ q ≤ 1 := by rw [← hq]; split <;> omega
  have m1 := mulR (i := if c < 0 then -c else c) (j := q) (inW_nn hq1.1 (by omega))
  have m2 := mulL (i := 39373) (j := 0) (by decide)
  simp [hp, hq, m1, m2]
  refine ⟨_, _, _, rfl, ?_, by omega, by omega, by omega, by omega⟩
  refine Int.mul_nonneg ?_ hq1.1
  split <;> omega
theorem law_cells_ok (k : Nat) (ns : List Int) (h : ns.length ≤ 63) : ∃ c : Int, run T (k + 1) F_law_cells [] [.list (ns.map .int), .int 1] = .ok (.list [.int c]) true [] := by
  rw [run_law_cells, b_law_cells]
  have key : ∀ (c : Int) (rest : List Int), rest.length ≤ 63 → ∃ c', forL (.tp [.nm 3, .nm 4]) (evSs (run T k) [.asg (.nm 5) (.bin .mod (.bi .int [.var 3]) (.var 1)), .setI 2 (.var 5) (.bin .add (.idx (.var 2) (.var 5)) (.bin .mul (.var 4) (.bin .add (.var 3) (.cst (.int 2)))))])
      (rest.zipIdx.map fun p => PyData.tuple [nI p.2, .int p.1]) [.im (.list (ns.map .int)), .im (.int 1), .ow (.list [.int c]), .no, .no, .no] = .ok .nx c' ∧ ∃ (c'' : Int) (j1 j2 j3 : Option D), c' = [.im (.list (ns.map .int)), .im (.int 1), .ow (.list [.int c'']), J j1, J j2, J j3] := by
    intro c rest hr
    generalize hF : forL _ _ _ _ = o
    obtain ⟨e', rfl, hI⟩ := forL_wp hF (fun pre e => ∃ (c'' : Int) (j1 j2 j3 : Option D), e = [.im (.list (ns.map .int)), .im (.int 1), .ow (.list [.int c'']), J j1, J j2, J j3]) ⟨c, none, none, none, rfl⟩ (by
      rintro pre ⟨z, i⟩ post hl e ⟨c, j1, j2, j3, rfl⟩
      clear hF
      have hi : i < 63 := by
        have : (z, i) ∈ rest.zipIdx := by rw [hl]; simp
        have := List.mem_zipIdx_iff_getElem?.1 this
        have := (List.getElem?_eq_some_iff.1 this).1
        omega
      have m1 := mulR (i := z) (j := (i : Int) + 2) (inW_nn (by omega) (by omega))
      simp [m1, Int.emod_one])
    exact ⟨e', rfl, hI⟩
  cases ns with
  | nil =>
    obtain ⟨c', h1, c'', j1, j2, j3, rfl⟩ := key 0 [] (by simp)
    simp at h1
    simp [cut, sIx, h1]
  | cons a ns =>
    obtain ⟨c', h1, c'', j1, j2, j3, rfl⟩ := key a (ns.take 62) (by simp; omega)
    have e : cut ((a :: ns).map PyData.int) (some 1) (some 63) = (ns.take 62).map .int := by
      simp [cut, sIx]
      omega
    generalize ns.take 62 = rest at e h1
    simp only [List.map_cons] at e h1
    simp [e, h1]
end Ev
/-! text M9 -/
set_option Elab.async false
set_option linter.all false
set_option maxRecDepth 100000
namespace Ev
open PySem
/-! ### picks, drawn shuffles, rows -/
theorem map_eraseIdx {α β : Type} (f : α → β) : ∀ (r : Nat) (l : List α), (l.map f).eraseIdx r = (l.eraseIdx r).map f
  | _, [] => by simp
  | 0, a :: l => by simp
  | r + 1, a :: l => by simp [map_eraseIdx f r l]
theorem perm_erase {α : Type} : ∀ (r : Nat) (l : List α) (h : r < l.length), l.Perm (l[r] :: l.eraseIdx r)
  | _, [], h => by simp at h
  | 0, a :: l, _ => by simp
  | r + 1, a :: l, h => by
    simp only [List.getElem_cons_succ, List.eraseIdx_cons_succ]
    exact ((perm_erase r l (by simpa using h)).cons a).trans (List.Perm.swap _ _ _)
theorem law_pick_ok {α : Type} (k : Nat) (d dl : D) (en : α → D) (goods : List α) (c : Nat) (n : Nat) (hg : goods.length < 2 ^ 20) (hc : c ≤ sz) (hd : dl = .list (goods.map en) ∨ dl = .tuple (goods.map en)) (h : Tin (n + goods.length) d) :
    ∃ (l : List α) (d' : D), run T (k + 2) F_law_pick [0] [d, dl, nI c] = .ok (.list (l.map en)) true [d'] ∧ Tin n d' ∧ l.length = min c goods.length ∧ ∃ rest, goods.Perm (l ++ rest) := by
  have hsz : goods.length ≤ sz := Nat.le_trans (Nat.le_of_lt hg) (by decide)
  have hmin : (if goods.length < c then (goods.length : Int) else (c : Int)) = ((min c goods.length : Nat) : Int) := by split <;> omega
  have hb : biF .list [dl] = some (.fresh (.list (goods.map en))) := by rcases hd with rfl | rfl <;> simp
  rw [run_law_pick, b_law_pick]
  have hr2 := rng2D_nat (min c goods.length) (Nat.le_trans (Nat.min_le_right _ _) hsz)
  simp [hb, hmin, hr2]
  generalize hF : forL _ _ _ _ = o
  obtain ⟨e', rfl, rest, l, d', j, h1, h2, h3, rfl⟩ := forL_wp hF (fun pre e => ∃ (rest l : List α) (d' : D) (j : Option D), goods.Perm (l ++ rest) ∧ l.length = pre.length ∧ Tin (n + rest.length) d' ∧ e = [.io d', .im dl, .im (nI c), J j, .ow (.list (rest.map en)), .ow (.list (l.map en))]) ⟨goods, [], d, none, List.Perm.refl _, rfl, h, rfl⟩ (by
    rintro pre x post hl e ⟨rest, l, d', j, h1, h2, h3, rfl⟩
    clear hF
    have hlen := h1.length_eq
    simp at hlen
    have hpre : pre.length < min c goods.length := by
      have := congrArg List.length hl
      simp at this; omega
    have hr : 0 < rest.length := by omega
    obtain ⟨q, hq⟩ : ∃ q, rest.length = q + 1 := ⟨rest.length - 1, by omega⟩
    have h3' : Tin (n + q + 1) d' := by rw [hq] at h3; exact h3
    obtain ⟨r, d2, e1, e2, e3⟩ := law_take_ok k d' (n + q) rest.length hr (by omega) h3'
    have hlz : l.length < sz := by
      have : goods.length < 2 ^ 24 := by omega
      simp [sz_val]; omega
    simp [e1, e2, hlz]
    refine ⟨rest.eraseIdx r, l ++ [rest[r]], ?_, by simp [h2], d2, ?_, rfl, map_eraseIdx en r rest, by simp⟩
    · rw [List.append_assoc]; exact h1.trans ((perm_erase r rest e2).append_left l)
    · rw [List.length_eraseIdx_of_lt e2, hq]; exact e3)
  refine ⟨l, d', by simp, Tin.mono h3 (by omega), by simpa using h2, rest, h1⟩
end Ev
/-! text M10 -/
set_option Elab.async false
set_option linter.all false
set_option maxRecDepth 100000
namespace Ev
open PySem
/-! ### the law's comparison -/
def sm : Nat → D → Prop
  | _, .dict _ => False
  | 0, .list _ => False
  | 0, .tuple _ => False
  | n + 1, .list ds => ds.length ≤ sz ∧ ∀ d ∈ ds, sm n d
  | n + 1, .tuple ds => ds.length ≤ sz ∧ ∀ d ∈ ds, sm n d
  | _, _ => True
@[simp] theorem sm_int (n : Nat) (i : Int) : sm n (.int i) := by cases n <;> simp [sm]
@[simp] theorem sm_bool (n : Nat) (i : Bool) : sm n (.bool i) := by cases n <;> simp [sm]
@[simp] theorem sm_str (n : Nat) (i : Str) : sm n (.str i) := by cases n <;> simp [sm]
@[simp] theorem sm_none (n : Nat) : sm n .none := by cases n <;> simp [sm]
@[simp] theorem sm_list (n : Nat) (ds : List D) : sm (n + 1) (.list ds) ↔ ds.length ≤ sz ∧ ∀ d ∈ ds, sm n d := by simp [sm]
@[simp] theorem sm_tuple (n : Nat) (ds : List D) : sm (n + 1) (.tuple ds) ↔ ds.length ≤ sz ∧ ∀ d ∈ ds, sm n d := by simp [sm]
theorem zip_self {α : Type} : ∀ (l : List α), l.zip l = l.map fun a => (a, a)
  | [] => rfl
  | a :: l => by simp [zip_self l]
@[simp] theorem zip2D_self_list (as : List D) : zip2D [.list as, .list as] = some (as.map fun a => .tuple [a, a]) := by
  rw [zip2D_list, zip_self, List.map_map]; rfl
@[simp] theorem zip2D_self_tuple (as : List D) : zip2D [.tuple as, .tuple as] = some (as.map fun a => .tuple [a, a]) := by
  rw [zip2D_tuple, zip_self, List.map_map]; rfl
theorem all_true {α : Type} (l : List α) : (l.all fun _ => true) = true := by simp
theorem law_same_refl : ∀ (n k : Nat) (d : D), sm n d → run T (k + n + 1) F_law_same [] [d, d] = .ok (.bool true) false []
  | 0, k, d, h => by
    rw [run_law_same, b_law_same]
    cases d <;> first | (simp [sm] at h; done) | simp [isTy]
  | n + 1, k, d, h => by
    have ih := law_same_refl n k
    rw [run_law_same, b_law_same]
    cases d with
    | list ds =>
      simp at h
      have e : ∀ p, InL p (ds.zip ds) → run T (k + (n + 1)) F_law_same [] [p.1, p.2] = .ok (.bool true) false [] := fun p hp => by
        have := hp.mem
        rw [zip_self] at this
        obtain ⟨a, ha, rfl⟩ := List.mem_map.1 this
        exact ih a (h.2 a ha)
      have ha := bi_all (fun _ : D × D => true) (ds.zip ds)
      simp (config := {maxSteps := 2000000}) +contextual [e, h.1]
    | tuple ds =>
      simp at h
      have e : ∀ p, InL p (ds.zip ds) → run T (k + (n + 1)) F_law_same [] [p.1, p.2] = .ok (.bool true) false [] := fun p hp => by
        have := hp.mem
        rw [zip_self] at this
        obtain ⟨a, ha, rfl⟩ := List.mem_map.1 this
        exact ih a (h.2 a ha)
      have ha := bi_all (fun _ : D × D => true) (ds.zip ds)
      simp (config := {maxSteps := 2000000}) +contextual [e, h.1]
    | dict _ => simp [sm] at h
    | _ => simp [isTy]
/-! ### drawn shuffles, rows, machines -/
theorem law_shuffle_ok (k : Nat) (d : D) (c n : Nat) (hc : c < 2 ^ 20) (h : Tin (n + c) d) : ∃ (l : List Nat) (d' : D), run T (k + 3) F_law_shuffle [0] [d, nI c] = .ok (encN l) false [d'] ∧ Tin n d' ∧ l.Perm (List.range c) := by
  have hcz : c ≤ sz := Nat.le_trans (Nat.le_of_lt hc) (by decide)
  obtain ⟨l, d', h1, h2, h3, rest, h4⟩ := law_pick_ok k d (.list ((List.range c).map nI)) nI (List.range c) c n (by simpa using hc) hcz (.inl rfl) (by simpa using h)
  have h5 : rest = [] := by
    have := h4.length_eq
    simp at this h3
    exact List.length_eq_zero_iff.1 (by omega)
  subst h5
  refine ⟨l, d', ?_, h2, by simpa using h4.symm⟩
  rw [run_law_shuffle, b_law_shuffle]
  simp [hcz, h1]
/-- a comprehension of draws -/
theorem comp_draw {α β : Type} {en0 : β → D} {l : List β} {ws : List Nat} {tg : Tg} {cond : M Bool} {elt : M D} {e e0 : VEnv} {o : O R} (hF : compM ws tg cond elt (l.map en0) e = o) (env : D → VEnv) (n cost : Nat) (P : β → α → Prop) (en : α → D) (d : D) (hf : fzAll ws e = some e0) (hw : wipeE ws e0 = env d) (hl : l.length ≤ sz) (ht : Tin (n + l.length * cost) d)
    (h : ∀ b ∈ l, ∀ d N, Tin (N + cost) d → ∃ a d' e', stepO tg cond elt (en0 b) (env d) = .ok (some (en a)) e' ∧ wipeE ws e' = env d' ∧ P b a ∧ Tin N d') :
    ∃ (as : List α) (d' : D), o = .ok (.fresh (.list (as.map en))) (back ws e0 (env d')) ∧ Tin n d' ∧ as.length = l.length ∧ ∀ (i : Nat) (b : β) (a : α), l[i]? = some b → as[i]? = some a → P b a := by
  obtain ⟨acc, e', rfl, as, d', rfl, h1, h2, h3, rfl⟩ := compM_wpi hF hl (fun pre acc e => ∃ (as : List α) (d' : D), acc = as.map en ∧ as.length = pre.length ∧ (∀ (i : Nat) (b : β) (a : α), pre[i]? = some b → as[i]? = some a → P b a) ∧ Tin (n + (l.length - pre.length) * cost) d' ∧ e = env d') hf ⟨[], d, rfl, rfl, by simp, by simpa using ht, hw⟩ (by
    rintro pre b post hl acc e ⟨as, d', rfl, h1, h2, h3, rfl⟩
    have hlen := congrArg List.length hl
    simp at hlen
    have e1 : n + (l.length - pre.length) * cost = n + (l.length - (pre.length + 1)) * cost + cost := by
      have : l.length - pre.length = (l.length - (pre.length + 1)) + 1 := by omega
      rw [this, Nat.add_mul, Nat.one_mul]
      omega
    rw [e1] at h3
    obtain ⟨a, d2, e', q1, q2, q3, q4⟩ := h b (hl ▸ by simp) d' _ h3
    rw [q1]
    refine ⟨as ++ [a], d2, by simp, by simp [h1], fun i b' a' hb ha => ?_, by simpa using q4, q2⟩
    by_cases hi : i < pre.length
    · rw [List.getElem?_append_left hi] at hb
      rw [List.getElem?_append_left (by omega)] at ha
      exact h2 i b' a' hb ha
    · rw [List.getElem?_append_right (by omega)] at hb ha
      have : i - pre.length = 0 := by
        have := (List.getElem?_eq_some_iff.1 hb).1
        simp at this; omega
      rw [h1] at ha
      rw [this] at hb ha
      simp at hb ha
      subst hb; subst ha
      exact q3)
  exact ⟨as, d', rfl, by simpa using h3, h1, h2⟩
theorem law_row_ok {m : Mac} (M : m.Ok) (k : Nat) (d : D) (c n : Nat) (hc : c < 2 ^ 20) (h : Tin (n + c) d) : ∃ (l : List Nat) (d' : D), run T (k + 2) F_law_row [0] [d, encM m, nI c] = .ok (encN l) false [d'] ∧ Tin n d' ∧ l.length = c ∧ ROk m.wide l := by
  have hcz : c ≤ sz := Nat.le_trans (Nat.le_of_lt hc) (by decide)
  have hw := M.w2
  have hw5 := M.w5
  rw [run_law_row, b_law_row]
  simp [hcz, -compM_map]
  generalize hF : compM _ _ _ _ _ _ = o
  obtain ⟨as, d', rfl, h1, h2, h3⟩ := comp_draw hF (fun d => [.io d, .im (encM m), .im (nI c), .no]) n 1 (fun _ x => x < m.wide) nI d rfl rfl (by simpa using hcz) (by simpa using h) (by
    intro b hb d N ht
    obtain ⟨r, d2, e1, e2, e3⟩ := law_take_ok k d N m.wide (by omega) (by omega) ht
    refine ⟨r, d2, [.io d2, .im (encM m), .im (nI c), .im (nI b)], ?_, rfl, e2, e3⟩
    simp [e1])
  refine ⟨as, d', by simp, h1, by simpa using h2, fun x hx => ?_⟩
  obtain ⟨i, hi, rfl⟩ := List.mem_iff_getElem.1 hx
  exact h3 i i _ (List.getElem?_range (by rw [h2] at hi; simpa using hi)) (List.getElem?_eq_getElem hi)
/-- drawn machines whose letters shuffle states -/
theorem law_turned_ok (k : Nat) (d : D) (n : Nat) (h : Tin (n + 100) d) : ∃ (m : Mac) (d' : D), run T (k + 5) F_law_turned [0] [d] = .ok (encM m) false [d'] ∧ Tin n d' ∧ m.Ok ∧ m.canMir = true ∧ m.wide ≤ 3 ∧ 2 ≤ m.n ∧ m.n ≤ 3 := by
  obtain ⟨r1, d1, e1, e2, e3⟩ := law_take_ok (k + 3) d (n + 99) 2 (by decide) (by decide) (by simpa using h)
  obtain ⟨r2, d2, f1, f2, f3⟩ := law_take_ok (k + 3) d1 (n + 98) 2 (by decide) (by decide) (by simpa using e3)
  rw [run_law_turned, b_law_turned]
  have e1' : run T (k + 4) F_law_take [0] [d, .int 2] = .ok (nI r1) false [d1] := e1
  have f1' : run T (k + 4) F_law_take [0] [d1, .int 2] = .ok (nI r2) false [d2] := f1
  have g1 : (2 : Int) + (r1 : Int) = ((2 + r1 : Nat) : Int) := by omega
  have g2 : (2 : Int) + (r2 : Int) = ((2 + r2 : Nat) : Int) := by omega
  simp only [evSs_cons, evS_pars]
  simp [-compM_map, e1', f1']
  rw [g1, g2]
  have hw : 2 ≤ 2 + r1 ∧ 2 + r1 ≤ 3 := by omega
  have hm : 2 ≤ 2 + r2 ∧ 2 + r2 ≤ 3 := by omega
  generalize 2 + r1 = wide at *
  generalize 2 + r2 = many at *
  have hwz : wide ≤ sz := Nat.le_trans hw.2 (by decide)
  have hmz : many ≤ sz := Nat.le_trans hm.2 (by decide)
  rw [rng2D_nat _ hwz]
  simp [-compM_map]
  generalize hF : compM _ _ _ _ _ _ = o
  obtain ⟨rows, d3, rfl, q1, q2, q3⟩ := comp_draw hF (fun d => [.io d, .no, .im (nI wide), .im (nI many), .no, .no]) (n + 80) 3 (fun _ (l : List Nat) => l.Perm (List.range many)) encN d2 rfl rfl (by simpa using hwz) (f3.mono (by simp; omega)) (by
    intro b hb d N ht
    obtain ⟨l, d2, e1, e2, e3⟩ := law_shuffle_ok (k + 1) d many N (by omega) (ht.mono (by omega))
    refine ⟨l, d2, [.io d2, .no, .im (nI wide), .im (nI many), .im (nI b), .no], ?_, rfl, e3, e2⟩
    simp [e1])
  simp [-compM_map, hmz]
  clear hF
  generalize hF : compM _ _ _ _ _ _ = o
  simp at q2
  have hrow : ∀ x, x < wide → ∃ l, rows[x]? = some l ∧ l.Perm (List.range many) := fun x hx => by
    have hx' : x < rows.length := by omega
    exact ⟨rows[x], List.getElem?_eq_getElem hx', q3 x x _ (by simp [hx]) (List.getElem?_eq_getElem hx')⟩
  obtain ⟨sts, d4, rfl, s1, s2, s3⟩ := comp_draw hF (fun d => [.io d, .ow (.list (rows.map encN)), .im (nI wide), .im (nI many), .no, .no]) n 3 (fun (j : Nat) (s : MSt) => s.1.Perm (List.range wide) ∧ s.2 = (List.range wide).map fun x => nth (rows.getD x []) j) encS d3 rfl rfl (by simpa using hmz) (q1.mono (by simp; omega)) (by
    intro j hj d N ht
    have hj' := List.mem_range.1 hj
    obtain ⟨l, d2, e1, e2, e3⟩ := law_shuffle_ok (k + 1) d wide N (by omega) (ht.mono (by omega))
    refine ⟨(l, (List.range wide).map fun x => nth (rows.getD x []) j), d2, [.io d2, .ow (.list (rows.map encN)), .im (nI wide), .im (nI many), .no, .im (nI j)], ?_, rfl, ⟨e3, rfl⟩, e2⟩
    have h1 : ∀ x, InL x (List.range wide) → rows[x]? = some (rows.getD x []) := fun x hx => by
      obtain ⟨l, h1, _⟩ := hrow x (List.mem_range.1 hx.mem)
      rw [List.getD_eq_getElem?_getD, h1]; rfl
    have h2 : ∀ x, InL x (List.range wide) → j < (rows.getD x []).length := fun x hx => by
      obtain ⟨l, h1, h2⟩ := hrow x (List.mem_range.1 hx.mem)
      rw [List.getD_eq_getElem?_getD, h1, Option.getD_some, h2.length_eq, List.length_range]; exact hj'
    have h3 : ∀ x, InL x (List.range wide) → (rows.getD x [])[j]? = some (nth (rows.getD x []) j) := fun x hx => nth_get (h2 x hx)
    simp +contextual [e1, hwz, q2, h1, h2, h3, -getElem?_pos, -List.getD_eq_getElem?_getD, Function.comp_def])
  simp at s2
  have hst : ∀ (i : Nat) (h : i < sts.length), sts[i].1.Perm (List.range wide) ∧ sts[i].2 = (List.range wide).map fun x => nth (rows.getD x []) i := fun i hi =>
    s3 i i _ (List.getElem?_range (by omega)) (List.getElem?_eq_getElem hi)
  have hrl : ∀ x, x < wide → (rows.getD x []).Perm (List.range many) := fun x hx => by
    obtain ⟨l, h1, h2⟩ := hrow x hx
    rw [List.getD_eq_getElem?_getD, h1]; exact h2
  have M : Mac.Ok ⟨wide, sts⟩ := {
    w2 := hw.1
    w5 := by show wide ≤ 5; omega
    n1 := by show 1 ≤ sts.length; omega
    n12 := by show sts.length ≤ 12; omega
    st := fun s hs => by
      obtain ⟨i, hi, rfl⟩ := List.mem_iff_getElem.1 hs
      obtain ⟨p1, p2⟩ := hst i hi
      refine ⟨by simpa using p1.length_eq, p1.nodup_iff.2 List.nodup_range, fun x hx => List.mem_range.1 (p1.mem_iff.1 hx), by rw [p2]; simp, fun y hy => ?_⟩
      rw [p2] at hy
      obtain ⟨x, hx, rfl⟩ := List.mem_map.1 hy
      have hx' := hrl x (List.mem_range.1 hx)
      have hi2 : i < sts.length := hi
      have hi' : i < (rows.getD x []).length := by rw [hx'.length_eq, List.length_range]; omega
      have := List.mem_range.1 (hx'.mem_iff.1 (nth_mem hi'))
      show _ < sts.length
      omega }
  refine ⟨⟨wide, sts⟩, d4, by simp, s1, M, (canMir_iff M).2 fun x hx => ?_, hw.2, by show 2 ≤ sts.length; omega, by show sts.length ≤ 3; omega⟩
  have hx' := hrl x hx
  have e : (sts.map fun s => nth s.2 x) = rows.getD x [] := by
    apply List.ext_getElem
    · rw [List.length_map, hx'.length_eq, List.length_range]; exact s2
    · intro i h1 h2
      rw [List.getElem_map]
      have hi : i < sts.length := by rw [List.length_map] at h1; exact h1
      rw [(hst i hi).2]
      have : nth ((List.range wide).map fun x => nth (rows.getD x []) i) x = nth (rows.getD x []) i := by
        have hx2 : x < wide := hx
        simp [nth, hx2]
      rw [this]
      have := nth_get h2
      rw [List.getElem?_eq_getElem h2] at this
      exact (Option.some.inj this).symm
  show (sts.map fun s => nth s.2 x).Nodup
  rw [e]
  exact hx'.nodup_iff.2 List.nodup_range
end Ev
/-! text Di -/
set_option Elab.async false
set_option linter.all false
set_option maxRecDepth 100000
/-! Di: dicts with keys that are tuples of numbers. -/
namespace Ev
open PySem
/-- an encoding of keys -/
structure KeyEn {α : Type} (en : α → D) : Prop where
  ok : ∀ a, keyF (en a) = true
  tup : ∀ a, isTup (en a) = true
  cn : ∀ a, cn (en a) = true
  inj : ∀ a b, en a = en b → a = b
theorem keyOkAll_ints : ∀ (l : List Int), keyOkAll (l.map .int) = true
  | [] => rfl
  | a :: l => by simp [keyOkAll, keyOk, keyOkAll_ints l]
theorem nkDepthAll_ints : ∀ (l : List Int), nkDepthAll (l.map .int) = 0
  | [] => rfl
  | a :: l => by simp [nkDepthAll, nkDepth, nkDepthAll_ints l]
theorem keyEn_ints : KeyEn fun l : List Int => PyData.tuple (l.map .int) where
  ok l := by simp [keyF, keyOk, nkDepth, keyOkAll_ints, nkDepthAll_ints]
  tup l := rfl
  cn l := cn_ints l
  inj a b h := by simpa using h
theorem KeyEn.comp {α β : Type} {en : α → D} (h : KeyEn en) (f : β → α) (hf : ∀ a b, f a = f b → a = b) : KeyEn fun b => en (f b) := ⟨fun b => h.ok _, fun b => h.tup _, fun b => h.cn _, fun a b e => hf a b (h.inj _ _ e)⟩
theorem keyEn_nats : KeyEn fun l : List Nat => PyData.tuple (l.map nI) where
  ok l := by
    have := keyEn_ints.ok (l.map fun n : Nat => (n : Int))
    rwa [List.map_map] at this
  tup l := rfl
  cn l := by
    have := keyEn_ints.cn (l.map fun n : Nat => (n : Int))
    rwa [List.map_map] at this
  inj a b h := by
    have : a.map nI = b.map nI := by simpa using h
    rwa [List.map_inj_right] at this
    intro x y e; exact Int.ofNat.inj (PyData.int.inj e)
section
variable {α β : Type} {en : α → D} (K : KeyEn en)
include K
theorem kOk_map (a : α) (l : List (α × β)) (f : β → D) : kOk (en a) (l.map fun p => (en p.1, f p.2)) = true := by
  simp [kOk, K.ok, K.tup]
theorem KeyEn.eqv [DecidableEq α] (a b : α) : PyData.eqv (en a) (en b) = decide (a = b) := by
  rw [eqv_cn _ _ (K.cn a) (K.cn b)]
  by_cases h : a = b
  · simp [h]
  · have : ¬ en a = en b := fun e => h (K.inj _ _ e)
    simp [h, this]
theorem dget_map [DecidableEq α] (a : α) (f : β → D) : ∀ (l : List (α × β)), dget (en a) (l.map fun p => (en p.1, f p.2)) = (l.lookup a).map f
  | [] => rfl
  | (b, v) :: l => by
    rw [List.map_cons, dget, K.eqv, dget_map a f l]
    by_cases h : b = a
    · subst h; simp [List.lookup]
    · have h' : ¬ a = b := fun e => h e.symm
      have h2 : (a == b) = false := by simp [h']
      simp [h, List.lookup, h2]
end
/-- a dict takes a value -/
def aput {α β : Type} [DecidableEq α] (a : α) (v : β) : List (α × β) → List (α × β)
  | [] => [(a, v)]
  | (b, u) :: r => if b = a then (b, v) :: r else (b, u) :: aput a v r
theorem dput_map {α β : Type} [DecidableEq α] {en : α → D} (K : KeyEn en) (a : α) (v : β) (f : β → D) : ∀ (l : List (α × β)), dput (en a) (f v) (l.map fun p => (en p.1, f p.2)) = (aput a v l).map fun p => (en p.1, f p.2)
  | [] => rfl
  | (b, u) :: l => by
    rw [List.map_cons, dput, K.eqv, aput]
    by_cases h : b = a
    · simp [h]
    · simp [h, dput_map K a v f l]
theorem aput_new {α β : Type} [DecidableEq α] (a : α) (v : β) : ∀ (l : List (α × β)), a ∉ l.map (·.1) → aput a v l = l ++ [(a, v)]
  | [], _ => rfl
  | (b, u) :: l, h => by
    simp at h
    rw [aput, if_neg fun e => h.1 e.symm, aput_new a v l (by simpa using h.2)]
    rfl
theorem aput_keys {α β : Type} [DecidableEq α] (a : α) (v : β) : ∀ (l : List (α × β)), a ∈ l.map (·.1) → (aput a v l).map (·.1) = l.map (·.1)
  | [], h => by simp at h
  | (b, u) :: l, h => by
    rw [aput]
    by_cases e : b = a
    · rw [if_pos e]; rfl
    · rw [if_neg e, List.map_cons, List.map_cons, aput_keys a v l]
      simp at h
      rcases h with h | h
      · exact absurd h.symm e
      · simpa using h
theorem lookup_isSome {α β : Type} [DecidableEq α] (a : α) : ∀ (l : List (α × β)), (l.lookup a).isSome = decide (a ∈ l.map (·.1))
  | [] => by simp
  | (b, u) :: l => by
    by_cases h : a = b
    · subst h; simp [List.lookup]
    · have h2 : (a == b) = false := by simp [h]
      simp [List.lookup, h2, lookup_isSome a l, h]
/-! sets of keys as dicts to True -/
section
variable {α : Type} {en : α → D} (K : KeyEn en)
include K
/-- a dict whose values are all one -/
theorem inB_set (a : α) (l : List α) (v : D) [dm : Decidable (a ∈ l)] : inB (en a) (.dict (l.map fun b => (en b, v))) = some (decide (a ∈ l)) := by
  have : DecidableEq α := fun _ _ => Classical.propDecidable _
  have h1 := kOk_map K a (l.map fun b => (b, ())) (fun _ => v)
  have h2 := dget_map K a (fun _ => v) (l.map fun b => (b, ()))
  rw [List.map_map] at h1 h2
  have h3 : (fun b => (en b, v)) = (fun p : α × Unit => (en p.1, v)) ∘ fun b => (b, ()) := rfl
  simp only [inB]
  rw [h3, h1, if_pos rfl, h2]
  congr 1
  rw [Option.isSome_map, lookup_isSome]
  by_cases q : a ∈ l <;> simp [q]
theorem setD_set (a : α) (l : List α) (v : D) (h : a ∉ l) (hl : l.length < sz) : setD (en a) v (.dict (l.map fun b => (en b, v))) = some (.val .none, .dict ((l ++ [a]).map fun b => (en b, v))) := by
  have : DecidableEq α := fun _ _ => Classical.propDecidable _
  have h1 := kOk_map K a (l.map fun b => (b, ())) (fun _ => v)
  have h2 := dput_map K a () (fun _ => v) (l.map fun b => (b, ()))
  rw [aput_new a () _ (by simpa using h)] at h2
  simp only [List.map_map, List.map_append] at h1 h2
  have h3 : (fun b => (en b, v)) = (fun p : α × Unit => (en p.1, v)) ∘ fun b => (b, ()) := rfl
  simp only [setD, List.length_map, hl, decide_true, Bool.and_true]
  rw [h3, h1, if_pos rfl, h2]
  simp
end
end Ev
/-! text M11 -/
set_option Elab.async false
set_option linter.all false
set_option maxRecDepth 100000
namespace Ev
open PySem
/-! ### lots of places -/
/-- what shuffles come to, from a place -/
inductive Rch (P : List (List Nat)) : Nat → Nat → Prop
  | refl (x : Nat) : Rch P x x
  | step {x y : Nat} (s : List Nat) : Rch P x y → s ∈ P → Rch P x (nth s y)
theorem Rch.trans {P : List (List Nat)} {x y z : Nat} (h : Rch P x y) (h2 : Rch P y z) : Rch P x z := by
  induction h2 with
  | refl => exact h
  | step s _ hs ih => exact .step s ih hs
/-- shuffles of so many -/
structure Shf (many : Nat) (P : List (List Nat)) : Prop where
  len : ∀ s ∈ P, s.length = many
  lt : ∀ s ∈ P, ∀ x ∈ s, x < many
  nd : ∀ s ∈ P, s.Nodup
theorem Shf.nth_lt {many : Nat} {P : List (List Nat)} (h : Shf many P) {s : List Nat} (hs : s ∈ P) {x : Nat} (hx : x < many) : nth s x < many := h.lt s hs _ (nth_mem (by rw [h.len s hs]; exact hx))
theorem nth_inj {s : List Nat} (hd : s.Nodup) {x y : Nat} (hx : x < s.length) (hy : y < s.length) (e : nth s x = nth s y) : x = y := by
  have h1 := nth_get hx
  have h2 := nth_get hy
  rw [List.getElem?_eq_getElem hx] at h1
  rw [List.getElem?_eq_getElem hy] at h2
  have h3 : s[x] = s[y] := by rw [Option.some.inj h1, Option.some.inj h2, e]
  have := hd.idxOf_getElem x hx
  rw [h3, hd.idxOf_getElem y hy] at this
  exact this.symm
/-- a list without twins within another, as long: the same things -/
theorem subset_perm {α : Type} [DecidableEq α] : ∀ (a b : List α), a.Nodup → (∀ x ∈ a, x ∈ b) → b.length ≤ a.length → a.Perm b
  | [], b, _, _, h => by
    have : b = [] := List.length_eq_zero_iff.1 (by simpa using h)
    subst this; exact List.Perm.refl _
  | x :: a, b, hd, hs, h => by
    have hx := hs x List.mem_cons_self
    have hd' := List.nodup_cons.1 hd
    have h1 : (b.erase x).length = b.length - 1 := List.length_erase_of_mem hx
    have ih := subset_perm a (b.erase x) hd'.2 (fun y hy => by
      have hne : y ≠ x := fun e => hd'.1 (e ▸ hy)
      exact (List.mem_erase_of_ne hne).2 (hs y (List.mem_cons_of_mem _ hy))) (by simp at h; omega)
    exact (ih.cons x).trans (List.perm_cons_erase hx).symm
theorem subset_len {α : Type} [DecidableEq α] {a b : List α} (h : a.Nodup) (h2 : ∀ x ∈ a, x ∈ b) : a.length ≤ b.length := by
  by_cases q : b.length ≤ a.length
  · exact Nat.le_of_eq (subset_perm a b h h2 q).length_eq
  · omega
theorem nodup_len {a : List Nat} {n : Nat} (h : a.Nodup) (h2 : ∀ x ∈ a, x < n) : a.length ≤ n := by
  simpa using subset_len (b := List.range n) h fun x hx => List.mem_range.2 (h2 x hx)
/-- what is closed under a shuffle has the places that lead into it -/
theorem closed_back {many : Nat} {P : List (List Nat)} (h : Shf many P) {S : List Nat} (hS : ∀ x ∈ S, x < many) (hd : S.Nodup) {s : List Nat} (hs : s ∈ P) (hc : ∀ x ∈ S, nth s x ∈ S) {x : Nat} (hx : x < many) (hm : nth s x ∈ S) : x ∈ S := by
  have h1 : (S.map (nth s)).Nodup := by
    rw [List.Nodup, List.pairwise_map]
    exact hd.imp_of_mem fun {a b} ha hb hab e => hab (nth_inj (h.nd s hs) (by rw [h.len s hs]; exact hS a ha) (by rw [h.len s hs]; exact hS b hb) e)
  have h2 := subset_perm (S.map (nth s)) S h1 (fun y hy => by
    obtain ⟨z, hz, rfl⟩ := List.mem_map.1 hy
    exact hc z hz) (by simp)
  obtain ⟨y, hy, e⟩ := List.mem_map.1 (h2.mem_iff.2 hm)
  have := nth_inj (h.nd s hs) (by rw [h.len s hs]; exact hS y hy) (by rw [h.len s hs]; exact hx) e
  exact this ▸ hy
/-- the lots -/
structure LotsOk (P : List (List Nat)) (many : Nat) (L : List (List Nat)) : Prop where
  srt : ∀ l ∈ L, l.Pairwise (· < ·)
  nd : L.flatten.Nodup
  lt : ∀ x ∈ L.flatten, x < many
  cl : ∀ l ∈ L, ∀ x ∈ l, ∀ s ∈ P, nth s x ∈ l
  rch : ∀ l ∈ L, ∃ x ∈ l, (∀ y ∈ l, Rch P x y) ∧ ∀ y ∈ l, x ≤ y
  ord : L.Pairwise fun a b => ∃ x ∈ a, ∃ y ∈ b, x < y ∧ (∀ z ∈ a, x ≤ z) ∧ ∀ z ∈ b, y ≤ z
def seenD (many : Nat) (S : List Nat) : D := .list ((List.range many).map fun x => .bool (decide (x ∈ S)))
theorem seenD_set (many : Nat) (S : List Nat) (x : Nat) (hx : x < many) : setD (nI x) (.bool true) (seenD many S) = some (.val .none, seenD many (S ++ [x])) := by
  simp only [seenD, setD_list, List.length_map, List.length_range, ixN_nat, if_pos hx, Option.map_some, map_range_set]
  congr 4
  funext y
  by_cases e : y = x
  · simp [e]
  · simp [e]
theorem seenD_congr (many : Nat) {S S' : List Nat} (h : ∀ y, y ∈ S ↔ y ∈ S') : seenD many S = seenD many S' := by
  simp [seenD, h]
theorem seenD_get (many : Nat) (S : List Nat) (x : Nat) (hx : x < many) : idxD (seenD many S) (nI x) = some (.val (.bool (decide (x ∈ S)))) := by
  simp [seenD, hx]
/-- the loop over shuffles -/
theorem lots_for (k : Nat) (P : List (List Nat)) (many : Nat) (hP : Shf many P) (hm : many < sz) (s0 s1 s2 s3 s5 s7 : Slot) (x : Nat) (hx : x < many) (h7 : s7 = .im (nI x)) (S ln : List Nat) (hln : ln.Nodup) (j8' j9' : Option D) (hS : ∀ y ∈ ln, y ∈ S) (hSd : S.Nodup) (hlt : ∀ y ∈ S, y < many) :
    ∃ (add : List Nat) (j8 j9 : Option D) , forL (.nm 8) (evSs (run T k) [.asg (.nm 9) (.idx (.var 8) (.var 7)), .ite (.not (.idx (.var 4) (.var 9))) [.setI 4 (.var 9) (.cst (.bool true)), .ex (.app 6 (.var 9))] []]) (P.map encN)
      [s0, s1, s2, s3, .ow (seenD many S), s5, .ow (.list (ln.map nI)), s7, J j8', J j9'] = .ok .nx [s0, s1, s2, s3, .ow (seenD many (S ++ add)), s5, .ow (.list ((ln ++ add).map nI)), s7, J j8, J j9] ∧
      (S ++ add).Nodup ∧ (∀ y ∈ add, ∃ s ∈ P, y = nth s x) ∧ (∀ s ∈ P, nth s x ∈ S ++ add) := by
  subst h7
  generalize hF : forL _ _ _ _ = o
  obtain ⟨e', rfl, add, j8, j9, h1, h2, h3, rfl⟩ := forL_wp hF (fun pre e => ∃ (add : List Nat) (j8 j9 : Option D), (S ++ add).Nodup ∧ (∀ y ∈ add, ∃ s ∈ P, y = nth s x) ∧ (∀ s ∈ pre, nth s x ∈ S ++ add) ∧
      e = [s0, s1, s2, s3, .ow (seenD many (S ++ add)), s5, .ow (.list ((ln ++ add).map nI)), .im (nI x), J j8, J j9]) ⟨[], j8', j9', by simpa using hSd, by simp, by simp, by simp⟩ (by
    rintro pre s post hl e ⟨add, j8, j9, h1, h2, h3, rfl⟩
    clear hF
    have hs : s ∈ P := hl ▸ by simp
    have hxl : x < s.length := by rw [hP.len s hs]; exact hx
    have hg : nth s x < many := hP.nth_lt hs hx
    have hgx : s[x]? = some (nth s x) := nth_get hxl
    have hsub : ∀ y ∈ S ++ add, y < many := fun y hy => by
      rcases List.mem_append.1 hy with hy | hy
      · exact hlt y hy
      · obtain ⟨s, hs, rfl⟩ := h2 y hy; exact hP.nth_lt hs hx
    by_cases hin : nth s x ∈ S ++ add
    · have e1 := seenD_get many (S ++ add) (nth s x) hg
      rw [decide_eq_true hin] at e1
      simp [hxl, hgx, e1, -getElem?_pos, -List.mem_append]
      refine ⟨add, h1, h2, fun t ht => ?_, rfl, rfl⟩
      rcases List.mem_append.1 ht with ht | ht
      · exact h3 t ht
      · simp at ht; subst ht; exact hin
    · have e1 := seenD_get many (S ++ add) (nth s x) hg
      rw [decide_eq_false hin] at e1
      have e2 := seenD_set many (S ++ add) (nth s x) hg
      have e3 : ln.length + add.length < sz := by
        have hd : (nth s x :: (ln ++ add)).Nodup := by
          refine List.nodup_cons.2 ⟨fun q => hin ?_, ?_⟩
          · rcases List.mem_append.1 q with q | q
            · exact List.mem_append_left _ (hS _ q)
            · exact List.mem_append_right _ q
          · rw [List.nodup_append] at h1 ⊢
            exact ⟨hln, h1.2.1, fun a ha b hb => h1.2.2 a (hS a ha) b hb⟩
        have := nodup_len (n := many) hd fun y hy => by
          rcases List.mem_cons.1 hy with rfl | hy
          · exact hg
          · rcases List.mem_append.1 hy with hy | hy
            · exact hlt y (hS y hy)
            · exact hsub y (List.mem_append_right _ hy)
        simp at this
        omega
      simp [hxl, hgx, e1, e2, e3, -getElem?_pos, -List.mem_append]
      refine ⟨add ++ [nth s x], ?_, fun y hy => ?_, fun t ht => ?_, rfl, by simp⟩
      · rw [← List.append_assoc, List.nodup_append]
        exact ⟨h1, by simp, fun a ha b hb e => hin (by simp at hb; subst hb; subst e; exact ha)⟩
      · rcases List.mem_append.1 hy with hy | hy
        · exact h2 y hy
        · simp at hy; exact ⟨s, hs, hy⟩
      · rw [← List.append_assoc]
        rcases List.mem_append.1 ht with ht | ht
        · exact List.mem_append_left _ (h3 t ht)
        · simp at ht; subst ht; simp)
  exact ⟨add, j8, j9, rfl, h1, h2, h3⟩
def lotsI (P : List (List Nat)) (many : Nat) (s1 s2 s3 : Slot) (place : Nat) (F : List Nat) (n : Nat) (e : VEnv) : Prop := ∃ (own ln : List Nat) (S : List Nat) (j7 j8 j9 : Option D), n = many - own.length ∧ (∀ y, y ∈ S ↔ y ∈ F ∨ y ∈ own ∨ y ∈ ln) ∧ S.Nodup ∧ (own ++ ln).Nodup ∧ (∀ y ∈ own ++ ln, y < many ∧ y ∉ F ∧ Rch P place y) ∧ place ∈ own ++ ln ∧ (∀ y ∈ own, ∀ s ∈ P, nth s y ∈ S) ∧
      e = [.im (.list (P.map encN)), s1, s2, s3, .ow (seenD many S), .ow (.list (own.map nI)), .ow (.list (ln.map nI)), J j7, J j8, J j9]
def lotsQ (P : List (List Nat)) (many : Nat) (s1 s2 s3 : Slot) (place : Nat) (F : List Nat) (f : Fl) (e : VEnv) : Prop := ∃ (own : List Nat) (j7 j8 j9 : Option D) (S : List Nat), f = .nx ∧ (F ++ own).Nodup ∧ place ∈ own ∧ (∀ y ∈ own, y < many ∧ Rch P place y) ∧ (∀ y ∈ own, ∀ s ∈ P, nth s y ∈ own) ∧ (∀ y, y ∈ S ↔ y ∈ F ++ own) ∧
      e = [.im (.list (P.map encN)), s1, s2, s3, .ow (seenD many S), .ow (.list (own.map nI)), .ow (.list []), J j7, J j8, J j9]
/-- one lot -/
theorem lots_while (k : Nat) (P : List (List Nat)) (many : Nat) (hP : Shf many P) (hm : many < sz) (hm2 : many < 2 ^ 20) (s1 s2 s3 : Slot) (place : Nat) (hpl : place < many) (F : List Nat) (hF : ∀ y ∈ F, y < many) (hFd : F.Nodup) (hnew : place ∉ F) (hFc : ∀ y ∈ F, ∀ s ∈ P, nth s y ∈ F) (j7' j8' j9' : Option D) :
    ∃ (own : List Nat) (j7 j8 j9 : Option D), whlL (bnd (evE (run T k) (.cmp .ne (.var 6) (.lst []))) truthM) (evSs (run T k) [.asg (.nm 7) (.pop 6), .ex (.app 5 (.var 7)), .forr (.nm 8) (.src (.var 0)) [.asg (.nm 9) (.idx (.var 8) (.var 7)), .ite (.not (.idx (.var 4) (.var 9))) [.setI 4 (.var 9) (.cst (.bool true)), .ex (.app 6 (.var 9))] []]]) fuelW
      [.im (.list (P.map encN)), s1, s2, s3, .ow (seenD many (F ++ [place])), .ow (.list []), .ow (.list [nI place]), J j7', J j8', J j9'] =
      .ok .nx [.im (.list (P.map encN)), s1, s2, s3, .ow (seenD many (F ++ own)), .ow (.list (own.map nI)), .ow (.list []), J j7, J j8, J j9] ∧
      (F ++ own).Nodup ∧ place ∈ own ∧ (∀ y ∈ own, y < many ∧ Rch P place y) ∧ ∀ y ∈ own, ∀ s ∈ P, nth s y ∈ own := by
  generalize hW : whlL _ _ _ _ = o
  obtain ⟨f, e', rfl, own, j7, j8, j9, S, rfl, h1, h2, h3, h4, h5, rfl⟩ := whlL_wp hW (lotsI P many s1 s2 s3 place F) (lotsQ P many s1 s2 s3 place F) many (by rw [fuelW_eq]; omega) ⟨[], [place], F ++ [place], j7', j8', j9', by simp, by simp, by
        rw [List.nodup_append]; exact ⟨hFd, by simp, fun a ha b hb e => hnew (by simp at hb; subst hb; subst e; exact ha)⟩, by simp, by simp; exact ⟨hpl, hnew, .refl _⟩, by simp, by simp, rfl⟩ (by
    rintro n e ⟨own, ln, S, j7, j8, j9, hn, h1, h2, h3, h4, h5, h6, rfl⟩
    clear hW
    have hSlt : ∀ y ∈ S, y < many := fun y hy => by
      rcases (h1 y).1 hy with h | h
      · exact hF y h
      · exact (h4 y (List.mem_append.2 h)).1
    rcases List.eq_nil_or_concat ln with rfl | ⟨ln, x, rfl⟩
    · simp
      refine ⟨own, j7, j8, j9, S, rfl, ?_, by simpa using h5, fun y hy => ?_, fun y hy s hs => ?_, fun y => by simpa using h1 y, rfl⟩
      · rw [List.nodup_append]
        exact ⟨hFd, by simpa using h3, fun a ha b hb e => (h4 b (by simpa using hb)).2.1 (e ▸ ha)⟩
      · have := h4 y (by simpa using hy); exact ⟨this.1, this.2.2⟩
      · have hy4 := h4 y (by simpa using hy)
        rcases (h1 _).1 (h6 y hy s hs) with h | h | h
        · exact absurd (closed_back hP hF hFd hs (fun z hz => hFc z hz s hs) hy4.1 h) hy4.2.1
        · exact h
        · simp at h
    · rw [List.concat_eq_append] at h3 h4 h5
      have h1' : ∀ y, y ∈ S ↔ y ∈ F ∨ y ∈ own ∨ y ∈ ln ∨ y = x := fun y => by have := h1 y; simpa using this
      have hx4 := h4 x (by simp)
      have hxo : own.length < sz := by
        have hd : own.Nodup := (List.nodup_append.1 h3).1
        have := nodup_len (n := many) hd fun y hy => (h4 y (List.mem_append_left _ hy)).1
        omega
      have hxm : own.length < many := by
        have := nodup_len (n := many) h3 fun y hy => (h4 y hy).1
        simp at this; omega
      obtain ⟨add, k8, k9, g1, g2, g3, g4⟩ := lots_for k P many hP hm (.im (.list (P.map encN))) s1 s2 s3 (.ow (.list ((own ++ [x]).map nI))) (.im (nI x)) x hx4.1 rfl S ln (List.nodup_append.1 (List.nodup_append.1 h3).2.1).1 j8 j9 (fun y hy => (h1' y).2 (.inr (.inr (.inl hy)))) h2 hSlt
      simp only [List.map_append, List.map_cons, List.map_nil] at g1
      simp [hxo, g1]
      refine ⟨many - (own.length + 1), by omega, own ++ [x], ln ++ add, S ++ add, some (nI x), k8, k9, by simp, fun y => ?_, g2, ?_, fun y hy => ?_, ?_, fun y hy s hs => ?_, by simp⟩
      · rw [List.mem_append, h1']
        simp only [List.mem_append, List.mem_singleton]
        grind
      · have hp : (own ++ [x] ++ (ln ++ add)).Perm (own ++ (ln ++ [x]) ++ add) := by
          simp only [List.append_assoc]
          refine List.Perm.append_left own ?_
          rw [← List.append_assoc, ← List.append_assoc]
          exact List.Perm.append_right add List.perm_append_comm
        refine hp.nodup_iff.2 ?_
        rw [List.nodup_append] at g2 ⊢
        refine ⟨h3, g2.2.1, fun a ha b hb => g2.2.2 a ((h1 a).2 (.inr ?_)) b hb⟩
        simpa [List.concat_eq_append] using ha
      · have hy' : y ∈ own ++ (ln ++ [x]) ∨ y ∈ add := by
          simp only [List.mem_append, List.mem_singleton] at hy ⊢
          grind
        rcases hy' with hy' | hy'
        · exact h4 y hy'
        · obtain ⟨s, hs, rfl⟩ := g3 y hy'
          refine ⟨hP.nth_lt hs hx4.1, fun q => ?_, .step s hx4.2.2 hs⟩
          rw [List.nodup_append] at g2
          exact g2.2.2 _ ((h1 _).2 (.inl q)) _ hy' rfl
      · simp only [List.mem_append, List.mem_singleton] at h5 ⊢
        grind
      · rcases List.mem_append.1 hy with hy | hy
        · exact List.mem_append_left _ (h6 y hy s hs)
        · simp at hy; subst hy; exact g4 s hs)
  exact ⟨own, j7, j8, j9, by rw [seenD_congr many h5], h1, h2, h3, h4⟩

theorem range_split {n : Nat} {pre post : List Nat} {x : Nat} (h : List.range n = pre ++ x :: post) : pre = List.range x ∧ x < n := by
  have h1 : (List.range n)[pre.length]? = some x := by rw [h]; simp
  have h2 := (List.getElem?_eq_some_iff.1 h1).1
  simp at h2
  rw [List.getElem?_range h2] at h1
  have h3 : pre.length = x := Option.some.inj h1
  have h4 : (List.range n).take pre.length = pre := by rw [h]; simp
  rw [List.take_range, Nat.min_eq_left (by omega), h3] at h4
  exact ⟨h4.symm, h3 ▸ h2⟩
structure LotsPre (P : List (List Nat)) (many : Nat) (pre : List Nat) (L : List (List Nat)) : Prop extends LotsOk P many L where
  has : ∀ x ∈ pre, x ∈ L.flatten
  fst : ∀ l ∈ L, ∃ x ∈ l, x ∈ pre ∧ ∀ y ∈ l, x ≤ y
def lotsO (P : List (List Nat)) (many : Nat) (pre : List Nat) (e : VEnv) : Prop := ∃ (L : List (List Nat)) (j2 : Option D) (s5 s6 : Slot) (j7 j8 j9 : Option D), JO s5 ∧ JO s6 ∧ LotsPre P many pre L ∧
  e = [.im (.list (P.map encN)), .im (nI many), J j2, .ow (.list (L.map encN)), .ow (seenD many L.flatten), s5, s6, J j7, J j8, J j9]
theorem lotsO_snoc {P : List (List Nat)} {many : Nat} (hP : Shf many P) {L : List (List Nat)} {pre : List Nat} {place : Nat} (hpre : pre = List.range place) (h : LotsPre P many pre L) (hpl : place < many) (hnew : place ∉ L.flatten) {own : List Nat}
    (h1 : (L.flatten ++ own).Nodup) (h2 : place ∈ own) (h3 : ∀ y ∈ own, y < many ∧ Rch P place y) (h4 : ∀ y ∈ own, ∀ s ∈ P, nth s y ∈ own) : LotsPre P many (pre ++ [place]) (L ++ [sortN own]) := by
  have hp := sortN_perm own
  have hd : own.Nodup := (List.nodup_append.1 h1).2.1
  have hle : ∀ y ∈ own, place ≤ y := fun y hy => by
    rcases Nat.lt_or_ge y place with q | q
    · exfalso
      have := h.has y (by rw [hpre]; exact List.mem_range.2 q)
      exact (List.nodup_append.1 h1).2.2 y this y hy rfl
    · exact q
  have hfl : (L ++ [sortN own]).flatten = L.flatten ++ sortN own := by simp
  refine { srt := fun l hl => ?_, nd := ?_, lt := fun x hx => ?_, cl := fun l hl x hx s hs => ?_, rch := fun l hl => ?_, ord := ?_, has := fun x hx => ?_, fst := fun l hl => ?_ }
  · rcases List.mem_append.1 hl with hl | hl
    · exact h.srt l hl
    · simp at hl; subst hl
      have := (sortN_sorted own).and (hp.nodup_iff.2 hd)
      exact this.imp fun h => by omega
  · rw [hfl]
    exact (List.Perm.append_left _ hp).nodup_iff.2 h1
  · rw [hfl] at hx
    rcases List.mem_append.1 hx with hx | hx
    · exact h.lt x hx
    · exact (h3 x (hp.mem_iff.1 hx)).1
  · rcases List.mem_append.1 hl with hl | hl
    · exact h.cl l hl x hx s hs
    · simp at hl; subst hl
      exact hp.mem_iff.2 (h4 x (hp.mem_iff.1 hx) s hs)
  · rcases List.mem_append.1 hl with hl | hl
    · exact h.rch l hl
    · simp at hl; subst hl
      exact ⟨place, hp.mem_iff.2 h2, fun y hy => (h3 y (hp.mem_iff.1 hy)).2, fun y hy => hle y (hp.mem_iff.1 hy)⟩
  · rw [List.pairwise_append]
    refine ⟨h.ord, by simp, fun a ha b hb => ?_⟩
    simp at hb; subst hb
    obtain ⟨x, hx, hx2, hx3⟩ := h.fst a ha
    refine ⟨x, hx, place, hp.mem_iff.2 h2, ?_, hx3, fun z hz => hle z (hp.mem_iff.1 hz)⟩
    rw [hpre] at hx2; exact List.mem_range.1 hx2
  · rw [hfl]
    rcases List.mem_append.1 hx with hx | hx
    · exact List.mem_append_left _ (h.has x hx)
    · simp at hx; subst hx; exact List.mem_append_right _ (hp.mem_iff.2 h2)
  · rcases List.mem_append.1 hl with hl | hl
    · obtain ⟨x, hx, hx2, hx3⟩ := h.fst l hl
      exact ⟨x, hx, List.mem_append_left _ hx2, hx3⟩
    · simp at hl; subst hl
      exact ⟨place, hp.mem_iff.2 h2, by simp, fun y hy => hle y (hp.mem_iff.1 hy)⟩
theorem flatten_len {α : Type} : ∀ (L : List (List α)), (∀ l ∈ L, ∃ x, x ∈ l) → L.length ≤ L.flatten.length
  | [], _ => by simp
  | l :: L, h => by
    obtain ⟨x, hx⟩ := h l List.mem_cons_self
    have h1 := List.length_pos_of_mem hx
    have h2 := flatten_len L fun l hl => h l (List.mem_cons_of_mem _ hl)
    rw [List.flatten_cons, List.length_append, List.length_cons]; omega
theorem lots_in_ok (k : Nat) (P : List (List Nat)) (many : Nat) (hP : Shf many P) (hm : many < 2 ^ 20) : ∃ L : List (List Nat), run T (k + 1) F_lots_in [] [.list (P.map encN), nI many] = .ok (.list (L.map encN)) true [] ∧ LotsOk P many L ∧ L.flatten.Perm (List.range many) := by
  have hmz : many ≤ sz := Nat.le_trans (Nat.le_of_lt hm) (by decide)
  have hmz2 : many < sz := Nat.lt_of_lt_of_le hm (by decide)
  rw [run_lots_in, b_lots_in]
  have h0 : op2 .mul (.list [.bool false]) (.int (many : Int)) = some (.fresh (seenD many [])) := by
    have : repOk 1 (many : Int) = true := by
      simp only [repOk, Bool.and_eq_true, decide_eq_true_eq]
      refine ⟨⟨by simpa using hmz, by omega⟩, by omega⟩
    have e : (List.replicate many [PyData.bool false]).flatten = (List.range many).map fun x => .bool (decide (x ∈ ([] : List Nat))) := by
      simp
      rw [List.map_const', List.length_range]
    simp only [op2, mulD, List.length_singleton, this, if_true, seenD]
    rw [← e]; simp
  simp [h0, hmz]
  generalize hF : forL _ _ _ _ = o
  obtain ⟨e', rfl, L, j2, s5, s6, j7, j8, j9, h1, h2, h3, rfl⟩ := forL_wp hF (lotsO P many) ⟨[], none, .no, .no, none, none, none, trivial, trivial, { srt := by simp, nd := by simp, lt := by simp, cl := by simp, rch := by simp, ord := by simp, has := by simp, fst := by simp }, rfl⟩ (by
    rintro pre place post hl e ⟨L, j2, s5, s6, j7, j8, j9, h1, h2, h3, rfl⟩
    clear hF
    obtain ⟨hpre, hpl⟩ := range_split hl
    have hget := seenD_get many L.flatten place hpl
    by_cases hin : place ∈ L.flatten
    · rw [decide_eq_true hin] at hget
      simp [hget]
      refine ⟨L, some (nI place), s5, s6, j7, j8, j9, h1, h2, { h3 with has := fun x hx => ?_, fst := fun l hl => ?_ }, by simp⟩
      · rcases List.mem_append.1 hx with hx | hx
        · exact h3.has x hx
        · simp at hx; subst hx; exact hin
      · obtain ⟨x, hx, hx2, hx3⟩ := h3.fst l hl
        exact ⟨x, hx, List.mem_append_left _ hx2, hx3⟩
    · rw [decide_eq_false hin] at hget
      have hset := seenD_set many L.flatten place hpl
      obtain ⟨own, k7, k8, k9, g1, g2, g3, g4, g5⟩ := lots_while k P many hP hmz2 hm (.im (nI many)) (.im (nI place)) (.ow (.list (L.map encN))) place hpl L.flatten h3.lt h3.nd hin (fun y hy s hs => by
        obtain ⟨l, hl, hy⟩ := List.mem_flatten.1 hy
        exact List.mem_flatten.2 ⟨l, hl, h3.cl l hl y hy s hs⟩) j7 j8 j9
      have hown : own.length < sz := by
        have := nodup_len (n := many) (List.nodup_append.1 g2).2.1 fun y hy => (g4 y hy).1
        omega
      have hL : L.length < sz := by
        have := flatten_len L fun l hl => (h3.rch l hl).elim fun x hx => ⟨x, hx.1⟩
        have := nodup_len (n := many) h3.nd h3.lt
        omega
      simp [hget, hset, h1, h2, g1, hown, hL]
      exact ⟨L ++ [sortN own], some (nI place), .ow (.list (own.map nI)), .ow (.list []), k7, k8, k9, trivial, trivial, lotsO_snoc hP hpre h3 hpl hin g2 g3 g4 g5, by
        have := seenD_congr many (S := (L ++ [sortN own]).flatten) (S' := L.flatten ++ own) fun y => by simp [(sortN_perm own).mem_iff]
        rw [this]; simp⟩)
  refine ⟨L, by simp, h3.toLotsOk, ?_⟩
  exact (List.perm_ext_iff_of_nodup h3.nd List.nodup_range).2 fun x => ⟨fun h => List.mem_range.2 (h3.lt x h), fun h => h3.has x h⟩

/-! ### lots of rows -/
section
variable {m : Mac} (M : m.Ok)
include M
/-- a word shuffles the rows of a level -/
theorem led_inj : ∀ (r s : List Nat) (w : List Int), WdOk m w → ROk m.wide r → ROk m.wide s → r.length = s.length → m.ledU w r = m.ledU w s → r = s
  | [], [], _, _, _, _, _, _ => rfl
  | [], _ :: _, _, _, _, _, h, _ => by simp at h
  | _ :: _, [], _, _, _, _, h, _ => by simp at h
  | x :: r, y :: s, w, hw, hr, hs, h, e => by
    have e' : m.leadW w x :: m.ledU (m.nextW w x) r = m.leadW w y :: m.ledU (m.nextW w y) s := e
    have h1 : m.leadW w x = m.leadW w y := (List.cons.inj e').1
    have hxy : x = y := leadW_inj M w x y hw hr.head hs.head h1
    subst hxy
    rw [led_inj r s (m.nextW w x) (M.nextW_ok hw hr.head) hr.tail hs.tail (by simpa using h) (List.cons.inj e').2]
where leadW_inj {m : Mac} (M : m.Ok) : ∀ (w : List Int) (x y : Nat), WdOk m w → x < m.wide → y < m.wide → m.leadW w x = m.leadW w y → x = y
  | [], x, y, _, _, _, e => e
  | a :: w, x, y, hw, hx, hy, e => by
    have ha := hw a List.mem_cons_self
    have := leadW_inj M w (m.lead a x) (m.lead a y) (fun b hb => hw b (List.mem_cons_of_mem _ hb)) (M.lead_lt ha.1 ha.2 hx) (M.lead_lt ha.1 ha.2 hy) e
    rw [← M.lead_neg ha.1 ha.2 hx, this, M.lead_neg ha.1 ha.2 hy]
theorem lvS_shf {w : List Int} {n : Nat} (hw : WdOk m w) : (lvS m w n).length = m.wide ^ n ∧ (∀ x ∈ lvS m w n, x < m.wide ^ n) ∧ (lvS m w n).Nodup := by
  refine ⟨by simp [lvS, rowsL_length], fun x hx => ?_, ?_⟩
  · obtain ⟨r, hr, rfl⟩ := List.mem_map.1 hx
    have h := mem_rowsL.1 hr
    have := numR_lt (ledU_ok M r w hw h.2)
    rwa [ledU_length, h.1] at this
  · rw [lvS, List.Nodup, List.pairwise_map]
    refine (rowsL_nodup m.wide n).imp_of_mem fun {a b} ha hb hab e => hab ?_
    have h1 := mem_rowsL.1 ha
    have h2 := mem_rowsL.1 hb
    have h3 := numR_inj (n := n) (by rw [ledU_length, h1.1]) (by rw [ledU_length, h2.1]) (ledU_ok M a w hw h1.2) (ledU_ok M b w hw h2.2) e
    exact led_inj M a b w hw h1.2 h2.2 (by rw [h1.1, h2.1]) h3
theorem state_ok {s : Nat} (h : s < m.n) : WdOk m [(s : Int) + 1] := fun a ha => by
  simp at ha; subst ha; omega
theorem allS_shf (n : Nat) : Shf (m.wide ^ n) (allS m n) where
  len s hs := by
    obtain ⟨j, hj, rfl⟩ := List.mem_map.1 hs
    exact (lvS_shf M (state_ok M (List.mem_range.1 hj))).1
  lt s hs := by
    obtain ⟨j, hj, rfl⟩ := List.mem_map.1 hs
    exact (lvS_shf M (state_ok M (List.mem_range.1 hj))).2.1
  nd s hs := by
    obtain ⟨j, hj, rfl⟩ := List.mem_map.1 hs
    exact (lvS_shf M (state_ok M (List.mem_range.1 hj))).2.2
theorem lvS_nth {w : List Int} {n : Nat} {r : List Nat} (hr : r.length = n) (h : ROk m.wide r) : nth (lvS m w n) (numR m.wide r) = numR m.wide (m.ledU w r) := by
  have := rowsL_num hr h
  have h2 : (lvS m w n)[numR m.wide r]? = some (numR m.wide (m.ledU w r)) := by simp [lvS, this]
  have hl := (List.getElem?_eq_some_iff.1 h2).1
  rw [nth_get hl] at h2
  exact Option.some.inj h2
/-- the rows at places -/
def rowAt (wide n : Nat) (i : Nat) : List Nat := (rowsL wide n).getD i []
omit M in
theorem rowAt_get {wide n i : Nat} (h : i < wide ^ n) : (rowsL wide n)[i]? = some (rowAt wide n i) ∧ (rowAt wide n i).length = n ∧ ROk wide (rowAt wide n i) ∧ numR wide (rowAt wide n i) = i := by
  have h' : i < (rowsL wide n).length := by rw [rowsL_length]; exact h
  have e : (rowsL wide n)[i]? = some (rowAt wide n i) := by simp [rowAt, h']
  have hm := mem_rowsL.1 (List.mem_of_getElem? e)
  refine ⟨e, hm.1, hm.2, ?_⟩
  have := rowsL_get (wide := wide) (n := n) i h'
  rw [List.getElem?_eq_getElem h'] at e
  rwa [Option.some.inj e] at this
theorem lots_at_ok (k : Nat) (n : Nat) (hn : m.wide ^ n ≤ 1024) : ∃ L : List (List Nat), run T (k + 6) F_lots_at [] [encM m, nI n] = .ok (.list (L.map fun l => .tuple (l.map fun i => encN (rowAt m.wide n i)))) true [] ∧ LotsOk (allS m n) (m.wide ^ n) L ∧ L.flatten.Perm (List.range (m.wide ^ n)) := by
  obtain ⟨L, h1, h2, h3⟩ := lots_in_ok (k + 4) (allS m n) (m.wide ^ n) (allS_shf M n) (Nat.lt_of_le_of_lt hn (by decide))
  refine ⟨L, ?_, h2, h3⟩
  have e1 := all_shuffles_ok M k n hn
  have e2 := rows_in_ok M (k + 4) n hn
  have hLl : L.length ≤ sz := by
    have q1 := flatten_len L fun l hl => (h2.rch l hl).elim fun x hx => ⟨x, hx.1⟩
    have q2 := nodup_len h2.nd h2.lt
    exact Nat.le_trans (Nat.le_trans q1 q2) (pow_le_sz hn)
  have hl : ∀ l, InL l L → l.length ≤ sz := fun l hl => by
    have hd : l.Nodup := (h2.srt l hl.mem).imp fun h => by omega
    have := nodup_len hd fun x hx => h2.lt x (List.mem_flatten.2 ⟨l, hl.mem, hx⟩)
    exact Nat.le_trans this (pow_le_sz hn)
  have hx : ∀ l, InL l L → ∀ i, InL i l → (rowsL m.wide n)[i]? = some (rowAt m.wide n i) := fun l hl i hi => (rowAt_get (h2.lt i (List.mem_flatten.2 ⟨l, hl.mem, hi.mem⟩))).1
  have hx2 : ∀ l, InL l L → ∀ i, InL i l → i < m.wide ^ n := fun l hl i hi => h2.lt i (List.mem_flatten.2 ⟨l, hl.mem, hi.mem⟩)
  have e3 := rowsL_length m.wide n
  rw [run_lots_at, b_lots_at]
  generalize m.wide ^ n = N at *
  have key : ∀ (s2 : Slot), Hd (.list ((rowsL m.wide n).map encN)) s2 → ∀ cond : Ev.M Bool, (∀ e, cond e = O.ok true e) → ∃ e', compM [3] (.nm 3) cond (fzM (evE (run T (k + 5)) (.bi .tuple [.comp (.idx (.var 2) (.var 4)) (.nm 4) (.src (.var 3)) none [4]]))) (L.map encN) [.im (encM m), .im (nI n), s2, .no, .no] = .ok (.fresh (.list (L.map fun l => .tuple (l.map fun i => encN (rowAt m.wide n i))))) e' := by
    intro s2 hs2 cond hc
    generalize hF : compM _ _ _ _ _ _ = o
    have := compM_wp hF hLl (fun l => .tuple (l.map fun i => encN (rowAt m.wide n i))) rfl rfl (by
      intro l hl'
      have hl2 := hl l ⟨hl'⟩
      have hx' := hx l ⟨hl'⟩
      have hx2' := hx2 l ⟨hl'⟩
      rcases hs2 with rfl | rfl <;> simp +contextual [hc, hl2, hx', hx2', e3, -getElem?_pos, Function.comp_def])
    exact ⟨_, this⟩
  by_cases h0 : n = 0
  · subst h0
    obtain ⟨e', he⟩ := key (.ow (.list ((rowsL m.wide 0).map encN))) (by simp) (condM (run T (k + 5)) none) fun e => rfl
    simp [e1, e2, e3, h1, he, -compM_map]
  · obtain ⟨e', he⟩ := key (.im (.list ((rowsL m.wide n).map encN))) (by simp) (condM (run T (k + 5)) none) fun e => rfl
    simp [e1, e2, e3, h0, h1, he, -compM_map]
end
end Ev
/-! text M12 -/
set_option Elab.async false
set_option linter.all false
set_option maxRecDepth 100000
namespace Ev
open PySem
theorem level_lots_of {m : Mac} (M : m.Ok) (k n : Nat) (R : List D) (h : run T (k + 8) F_lots_at [] [encM m, nI n] = .ok (.list R) true []) (hn : m.wide ^ n ≤ 1024) (h10 : n ≤ 10) : run T (k + 9) F_level_lots [] [encM m, nI n] = .ok (.list R) true [] := by
  have h1 := sure_at_run M k _ n (sure_machine_ok M (k + 1)) hn h10
  rw [run_level_lots, b_level_lots]
  simp [h1, h]
theorem is_one_lot_of {m : Mac} (M : m.Ok) (k n : Nat) (R : List D) (h : run T (k + 8) F_lots_at [] [encM m, nI n] = .ok (.list R) true []) (hn : m.wide ^ n ≤ 1024) (h10 : n ≤ 10) : run T (k + 9) F_is_one_lot [] [encM m, nI n] = .ok (.bool (decide (R.length = 1))) false [] := by
  have h1 := sure_at_run M k _ n (sure_machine_ok M (k + 1)) hn h10
  rw [run_is_one_lot, b_is_one_lot]
  have e : ∀ j : Nat, ((j : Int) = 1) = (j = 1) := fun j => propext (by omega)
  simp [h1, h, e]
/-! ### whether a word is nothing -/
/-- a word leaves all rows -/
def Nothing (m : Mac) (w : List Int) : Prop := ∀ r, ROk m.wide r → m.ledU w r = r
/-- what parts of w come to -/
def Part (m : Mac) (w v : List Int) : Prop := ∃ r, ROk m.wide r ∧ v = short (m.partU w r)
section
variable {m : Mac} (M : m.Ok)
include M
theorem nothing_of_closed {w : List Int} (hw : WdOk m w) (K : List (List Int)) (h1 : short w ∈ K) (h2 : ∀ v ∈ K, WdOk m v ∧ ∀ x, x < m.wide → m.leadW v x = x ∧ short (m.nextW v x) ∈ K) : Nothing m w := by
  have key : ∀ (r : List Nat) (v : List Int), v ∈ K → ROk m.wide r → m.ledU v r = r := by
    intro r
    induction r with
    | nil => intro v _ _; rfl
    | cons x r ih =>
      intro v hv hr
      obtain ⟨hv1, hv2⟩ := h2 v hv
      obtain ⟨h3, h4⟩ := hv2 x hr.head
      show m.leadW v x :: m.ledU (m.nextW v x) r = x :: r
      have h5 := (ledS_short M r (short (m.nextW v x)) (m.nextW v x) (short_ok (M.nextW_ok hv1 hr.head)) (M.nextW_ok hv1 hr.head) (short_short _) hr.tail).1
      rw [h3, ← h5, ih _ h4 hr.tail]
  intro r hr
  rw [← (ledS_short M r (short w) w (short_ok hw) hw (short_short w) hr).1]
  exact key r _ h1 hr
/-- words found, with rows that lead to them; the first ones looked through -/
structure Cl (m : Mac) (w : List Int) (rows : List (List Int × List Nat)) (j : Nat) : Prop where
  nd : (rows.map (·.1)).Nodup
  hd : rows.head? = some (short w, [])
  pt : ∀ p ∈ rows, ROk m.wide p.2 ∧ p.1 = short (m.partU w p.2) ∧ m.ledU w p.2 = p.2
  dn : ∀ i, i < j → ∀ p, rows[i]? = some p → ∀ x, x < m.wide → m.leadW p.1 x = x ∧ short (m.nextW p.1 x) ∈ rows.map (·.1)
theorem Cl.wok {w : List Int} (hw : WdOk m w) {rows : List (List Int × List Nat)} {j : Nat} (h : Cl m w rows j) : ∀ p ∈ rows, WdOk m p.1 ∧ p.1.length ≤ w.length := fun p hp => by
  obtain ⟨h1, h2, h3⟩ := h.pt p hp
  rw [h2]
  refine ⟨short_ok (partU_ok M _ w hw h1), ?_⟩
  have := short_len (m.partU w p.2)
  simpa using this
theorem Cl.nothing {w : List Int} (hw : WdOk m w) {rows : List (List Int × List Nat)} {j : Nat} (h : Cl m w rows j) (hj : rows.length ≤ j) : Nothing m w := by
  refine nothing_of_closed M hw (rows.map (·.1)) ?_ fun v hv => ?_
  · have := h.hd
    cases rows with
    | nil => simp at this
    | cons p r => simp at this; subst this; simp
  · obtain ⟨p, hp, rfl⟩ := List.mem_map.1 hv
    obtain ⟨i, hi, rfl⟩ := List.mem_iff_getElem.1 hp
    exact ⟨(Cl.wok M hw h _ hp).1, h.dn i (by omega) _ (List.getElem?_eq_getElem hi)⟩
theorem row_moved {w : List Int} (hw : WdOk m w) {v : List Int} {r : List Nat} {x : Nat} (hr : ROk m.wide r) (hv : v = short (m.partU w r)) (hx : x < m.wide) : m.ledU w (r ++ [x]) = m.ledU w r ++ [m.leadW v x] := by
  rw [ledU_rows, hv]
  show _ ++ [m.leadW (m.partU w r) x] = _
  rw [(leadW_short M (partU_ok M r w hw hr) hx).1]
theorem Cl.moved {w : List Int} (hw : WdOk m w) {rows : List (List Int × List Nat)} {j : Nat} (h : Cl m w rows j) {p : List Int × List Nat} (hp : p ∈ rows) {x : Nat} (hx : x < m.wide) (hne : m.leadW p.1 x ≠ x) : ROk m.wide (p.2 ++ [x]) ∧ m.ledU w (p.2 ++ [x]) ≠ p.2 ++ [x] := by
  obtain ⟨h1, h2, h3⟩ := h.pt p hp
  refine ⟨fun y hy => ?_, fun e => ?_⟩
  · rcases List.mem_append.1 hy with hy | hy
    · exact h1 y hy
    · simp at hy; subst hy; exact hx
  · rw [row_moved M hw h1 h2 hx, h3] at e
    exact hne (by simpa using e)
end
abbrev encP (p : List Int × List Nat) : D := .tuple [encW p.1, encN p.2]
def knownD (rows : List (List Int × List Nat)) : D := .dict ((rows.map (·.1)).map fun v => (encW v, .bool true))
theorem knownD_one (v : List Int) (r : List Nat) : PyData.dict [(encW v, .bool true)] = knownD [(v, r)] := (rfl)
@[simp] theorem knownD_len (rows : List (List Int × List Nat)) : biF .len [knownD rows] = some (.val (.int rows.length)) := by simp [knownD]
@[simp] theorem knownD_in (rows : List (List Int × List Nat)) (v : List Int) : inB (.tuple (v.map .int)) (knownD rows) = some (decide (v ∈ rows.map (·.1))) := inB_set keyEn_ints v _ _
theorem knownD_set (rows : List (List Int × List Nat)) (v : List Int) (r : List Nat) (h : v ∉ rows.map (·.1)) (hl : rows.length < sz) : setD (.tuple (v.map .int)) (.bool true) (knownD rows) = some (.val .none, knownD (rows ++ [(v, r)])) := by
  have := setD_set keyEn_ints v (rows.map (·.1)) (.bool true) h (by simpa using hl)
  rw [knownD, this]
  simp [knownD]
section
variable {m : Mac} (M : m.Ok)
include M
/-- looking through one word's letters -/
theorem closing_for (k : Nat) {w : List Int} (hw : WdOk m w) (hz : w.length < sz) {rows : List (List Int × List Nat)} {j : Nat} (h : Cl m w rows j) (hfew : ∀ K : List (List Int), K.Nodup → (∀ v ∈ K, Part m w v) → K.length ≤ 5000) (p : List Int × List Nat) (hp : rows[j]? = some p) (hfix : ∀ x, x < m.wide → m.leadW p.1 x = x) (hrl : p.2.length + 1 ≤ sz)
    (s1 s2 s3 s6 s7 : Slot) (j8 j11 j12 : Option D) : ∃ (rows' : List (List Int × List Nat)) (j8' j11' : Option D), forL (.nm 8) (evSs (run T (k + 2)) [.asg (.nm 11) (.idx (.call F_step_in [] [(.var 0), (.var 9), (.var 8)]) (.cst (.int 1))), .ite (.cmp .notIn (.var 11) (.var 5)) [.ite (.cmp .eq (.bi .len [(.var 5)]) (.cst (.int 5000))) [.ex (.neg (.cst .none))] [], .setI 5 (.var 11) (.cst (.bool true)), .ex (.app 4 (.tup [(.var 11), (.bin .add (.var 10) (.tup [(.var 8)]))]))] []]) ((List.range m.wide).map nI)
      [.im (encM m), s1, s2, s3, .ow (.list (rows.map encP)), .ow (knownD rows), s6, s7, J j8, .im (encW p.1), .im (encN p.2), J j11, J j12] =
      .ok .nx [.im (encM m), s1, s2, s3, .ow (.list (rows'.map encP)), .ow (knownD rows'), s6, s7, J j8', .im (encW p.1), .im (encN p.2), J j11', J j12] ∧ Cl m w rows' (j + 1) ∧ rows.length ≤ rows'.length ∧ ∀ q ∈ rows', q ∈ rows ∨ q.2.length ≤ p.2.length + 1 := by
  have hjl : j < rows.length := (List.getElem?_eq_some_iff.1 hp).1
  have hpm : p ∈ rows := List.mem_of_getElem? hp
  obtain ⟨hpw, hpl⟩ := Cl.wok M hw h p hpm
  obtain ⟨hp1, hp2, hp3⟩ := h.pt p hpm
  generalize hF : forL _ _ _ _ = o
  obtain ⟨e', rfl, add, k8, k11, h0, h1, h2, rfl⟩ := forL_wp hF (fun pre e => ∃ (add : List (List Int × List Nat)) (k8 k11 : Option D), (∀ q ∈ add, q.2.length ≤ p.2.length + 1) ∧ Cl m w (rows ++ add) j ∧ (∀ x ∈ pre, short (m.nextW p.1 x) ∈ (rows ++ add).map (·.1)) ∧
      e = [.im (encM m), s1, s2, s3, .ow (.list ((rows ++ add).map encP)), .ow (knownD (rows ++ add)), s6, s7, J k8, .im (encW p.1), .im (encN p.2), J k11, J j12]) ⟨[], j8, j11, by simp, by simpa using h, by simp, by simp⟩ (by
    rintro pre x post hl e ⟨add, k8, k11, h0, h1, h2, rfl⟩
    clear hF
    have hx : x < m.wide := List.mem_range.1 (hl ▸ by simp)
    have hpart : Part m w (short (m.nextW p.1 x)) := ⟨p.2 ++ [x], fun y hy => by
      rcases List.mem_append.1 hy with hy | hy
      · exact hp1 y hy
      · simp at hy; subst hy; exact hx, by
      rw [partU_rows]
      show _ = short (m.nextW (m.partU w p.2) x)
      rw [hp2, (leadW_short M (partU_ok M _ w hw hp1) hx).2]⟩
    have hpz : p.1.length < sz := by omega
    by_cases hin : short (m.nextW p.1 x) ∈ (rows ++ add).map (·.1)
    · have hin' := hin
      rw [List.map_append, List.mem_append] at hin'
      simp only [List.mem_map] at hin'
      simp [M, hpw, hpz, hx, hin', -List.map_append, -List.mem_append, -List.mem_map, hin]
      refine ⟨add, fun a b hab => h0 (a, b) hab, h1, fun y hy => ?_, rfl, rfl⟩
      rcases List.mem_append.1 hy with hy | hy
      · exact h2 y hy
      · simp at hy; subst hy; exact hin
    · have hK : ((rows ++ add).map (·.1) ++ [short (m.nextW p.1 x)]).length ≤ 5000 := hfew _ (by
          rw [List.nodup_append]
          exact ⟨h1.nd, by simp, fun a ha b hb e => hin (by simp at hb; subst hb; subst e; exact ha)⟩) (fun v hv => by
          rcases List.mem_append.1 hv with hv | hv
          · obtain ⟨q, hq, rfl⟩ := List.mem_map.1 hv
            obtain ⟨q1, q2, _⟩ := h1.pt q hq
            exact ⟨q.2, q1, q2⟩
          · simp at hv; subst hv; exact hpart)
      have hlen : (rows ++ add).length < 5000 := by simp at hK ⊢; omega
      have hset := knownD_set (rows ++ add) (short (m.nextW p.1 x)) (p.2 ++ [x]) hin (Nat.lt_trans hlen (by decide))
      have hne : ¬ (((rows ++ add).length : Nat) : Int) = 5000 := by omega
      have hlz : (rows ++ add).length < sz := Nat.lt_trans hlen (by decide)
      generalize hra : rows ++ add = ra at *
      simp [M, hpw, hpz, hx, hin, hne, hset, hlz, hrl, -List.mem_map]
      refine ⟨add ++ [(short (m.nextW p.1 x), p.2 ++ [x])], ?_, ?_, ?_, ?_, ?_⟩
      · intro a b hab
        rcases List.mem_append.1 hab with h | h
        · exact h0 (a, b) h
        · simp at h; rw [h.2]; simp
      · rw [← List.append_assoc, hra]
        refine { nd := ?_, hd := ?_, pt := fun q hq => ?_, dn := fun i hi q hq y hy => ?_ }
        · rw [List.map_append, List.nodup_append]
          exact ⟨h1.nd, by simp, fun a ha b hb e => hin (by simp at hb; subst hb; subst e; exact ha)⟩
        · have := h1.hd
          cases ra with
          | nil => simp at this
          | cons a r => simpa using this
        · rcases List.mem_append.1 hq with hq | hq
          · exact h1.pt q hq
          · simp at hq; subst hq
            have q1 : ROk m.wide (p.2 ++ [x]) := fun y hy => by
              rcases List.mem_append.1 hy with hy | hy
              · exact hp1 y hy
              · simp at hy; subst hy; exact hx
            refine ⟨q1, ?_, by rw [row_moved M hw hp1 hp2 hx, hp3, hfix x hx]⟩
            show short (m.nextW p.1 x) = short (m.partU w (p.2 ++ [x]))
            rw [partU_rows]
            show _ = short (m.nextW (m.partU w p.2) x)
            rw [hp2, (leadW_short M (partU_ok M _ w hw hp1) hx).2]
        · have hi2 : i < ra.length := by
            have : rows.length ≤ ra.length := by rw [← hra]; simp
            omega
          rw [List.getElem?_append_left hi2] at hq
          obtain ⟨d1, d2⟩ := h1.dn i hi q hq y hy
          exact ⟨d1, by rw [List.map_append]; exact List.mem_append_left _ d2⟩
      · intro y hy
        rw [← List.mem_append, ← List.map_append, ← List.append_assoc, hra, List.map_append, List.mem_append]
        rcases hy with hy | rfl
        · exact .inl (h2 y hy)
        · exact .inr (by simp)
      · rw [← List.map_append, ← List.append_assoc, hra]; simp
      · rw [← List.append_assoc, hra])
  refine ⟨rows ++ add, k8, k11, rfl, { h1 with dn := fun i hi q hq x hx => ?_ }, by simp, fun q hq => (List.mem_append.1 hq).imp id (h0 q)⟩
  rcases Nat.lt_succ_iff_lt_or_eq.1 hi with hi | rfl
  · exact h1.dn i hi q hq x hx
  · rw [List.getElem?_append_left hjl, hp] at hq
    cases hq
    exact ⟨hfix x hx, h2 x (List.mem_range.2 hx)⟩
/-- letters that are moved -/
theorem letters_led_fix (w : List Int) : (List.range m.wide).map (m.leadW w) = List.range m.wide ↔ ∀ x, x < m.wide → m.leadW w x = x := by
  refine ⟨fun h x hx => ?_, fun h => ?_⟩
  · have h1 : ((List.range m.wide).map (m.leadW w))[x]? = some (m.leadW w x) := by simp [hx]
    rw [h, List.getElem?_range hx] at h1
    exact (Option.some.inj h1).symm
  · refine (List.map_congr_left fun x hx => h x (List.mem_range.1 hx)).trans (List.map_id _)
def clI (m : Mac) (w : List Int) (n : Nat) (e : VEnv) : Prop := ∃ (rows : List (List Int × List Nat)) (j : Nat) (s7 : Slot) (j8 j9 j10 j11 j12 : Option D), n = 5000 - j ∧ Cl m w rows j ∧ (∀ p ∈ rows, p.2.length ≤ j) ∧ j ≤ rows.length ∧ JO s7 ∧
  e = [.im (encM m), .im (encW w), .im (encN (List.range m.wide)), .im (encW (short w)), .ow (.list (rows.map encP)), .ow (knownD rows), .im (nI j), s7, J j8, J j9, J j10, J j11, J j12]
def clQ (m : Mac) (w : List Int) (f : Fl) (e : VEnv) : Prop :=
  (f = .nx ∧ Nothing m w ∧ ∃ (rows : List (List Int × List Nat)) (j : Nat) (s7 : Slot) (j8 j9 j10 j11 j12 : Option D), Cl m w rows j ∧ rows.length ≤ j ∧ rows.length ≤ 5000 ∧
    e = [.im (encM m), .im (encW w), .im (encN (List.range m.wide)), .im (encW (short w)), .ow (.list (rows.map encP)), .ow (knownD rows), .im (nI j), s7, J j8, J j9, J j10, J j11, J j12]) ∨
  (∃ r, ROk m.wide r ∧ m.ledU w r ≠ r ∧ f = .ret (.tuple [.str "row", encN r]) false)
theorem closing_in_ok (k : Nat) {w : List Int} (hw : WdOk m w) (hz : w.length < sz) (hfew : ∀ K : List (List Int), K.Nodup → (∀ v ∈ K, Part m w v) → K.length ≤ 5000) :
    (Nothing m w ∧ ∃ K : List (List Int), run T (k + 5) F_closing_in [] [encM m, encW w] = .ok (.tuple [.str "lot", .tuple (sortD (K.map encW))]) false [] ∧ K.Nodup) ∨
    (∃ r, ROk m.wide r ∧ m.ledU w r ≠ r ∧ run T (k + 5) F_closing_in [] [encM m, encW w] = .ok (.tuple [.str "row", encN r]) false []) := by
  rw [run_closing_in, b_closing_in]
  have hk : kOk (encW (short w)) [] = true := kOk_map keyEn_ints (short w) ([] : List (List Int × Unit)) fun _ => .none
  have h1 := knownD_one (short w) []
  simp [M.wide_sz, hz, hk, h1]
  generalize hW : whlL _ _ _ _ = o
  have := whlL_wp hW (clI m w) (clQ m w) 5000 (by decide) ⟨[(short w, [])], 0, .no, none, none, none, none, none, by simp, { nd := by simp, hd := rfl, pt := fun p hp => by simp at hp; subst hp; exact ⟨fun x hx => by simp at hx, rfl, rfl⟩, dn := by simp }, by simp, by simp, trivial, by simp⟩ (by
    rintro n e ⟨rows, j, s7, j8, j9, j10, j11, j12, hn, h1, h2, h3, h4, rfl⟩
    clear hW
    have hlen : rows.length ≤ 5000 := by
      have := hfew (rows.map (·.1)) h1.nd fun v hv => by
        obtain ⟨q, hq, rfl⟩ := List.mem_map.1 hv
        obtain ⟨q1, q2, _⟩ := h1.pt q hq
        exact ⟨q.2, q1, q2⟩
      simpa using this
    by_cases hj : j < rows.length
    · have hp : rows[j]? = some rows[j] := List.getElem?_eq_getElem hj
      have hpm : rows[j] ∈ rows := List.getElem_mem hj
      obtain ⟨hpw, hpl⟩ := Cl.wok M hw h1 rows[j] hpm
      have hp2l := h2 rows[j] hpm
      have hmv := fun x hx hne => Cl.moved M hw h1 hpm (x := x) hx hne
      have hfor := fun (hfix : ∀ x, x < m.wide → m.leadW rows[j].1 x = x) => closing_for M (k + 2) hw hz h1 hfew rows[j] hp hfix (Nat.le_trans (Nat.add_le_add_right hp2l 1) (by simp [sz_val]; omega))
      have hpz : rows[j].1.length < sz := by omega
      have hp2z : rows[j].2.length + 1 ≤ sz := by simp [sz_val]; omega
      generalize rows[j] = p at *
      by_cases hfix : ∀ x, x < m.wide → m.leadW p.1 x = x
      · have hll := (letters_led_fix M p.1).2 hfix
        obtain ⟨rows', j8', j11', g1, g2, g3, g4⟩ := hfor hfix (.im (encW w)) (.im (encN (List.range m.wide))) (.im (encW (short w))) (.im (.int ((j : Int) + 1))) (.im (encN (List.range m.wide))) j8 j11 j12
        simp [hj, hp, h4, M, hpw, hpz, hll, -getElem?_pos, g1]
        exact ⟨5000 - (j + 1), by omega, rows', j + 1, .im (encN (List.range m.wide)), j8', _, _, j11', j12, rfl, g2, fun q hq => (g4 q hq).elim (fun h => by have := h2 q h; omega) (fun h => by omega), by omega, trivial, by simp; exact ⟨rfl, rfl⟩⟩
      · have hne : ¬ (List.range m.wide).map (m.leadW p.1) = List.range m.wide := fun e => hfix ((letters_led_fix M p.1).1 e)
        have hmem : ∃ x l, ((List.range m.wide).filter fun x => !decide (m.leadW p.1 x = x)) = x :: l := by
          cases q : (List.range m.wide).filter fun x => !decide (m.leadW p.1 x = x) with
          | nil =>
            exfalso
            apply hfix
            intro x hx
            have := List.filter_eq_nil_iff.1 q x (List.mem_range.2 hx)
            simpa using this
          | cons x l => exact ⟨x, l, rfl⟩
        obtain ⟨x, l, hx⟩ := hmem
        have hxm : x ∈ (List.range m.wide).filter fun x => !decide (m.leadW p.1 x = x) := by rw [hx]; simp
        rw [List.mem_filter] at hxm
        have hxw := List.mem_range.1 hxm.1
        have hxne : m.leadW p.1 x ≠ x := by simpa using hxm.2
        have hne2 : ¬ ∀ a, a < m.wide → ((m.leadW p.1 a : Nat) : Int) = (a : Int) := fun q => hfix fun a ha => by have := q a ha; omega
        simp only [evSs_cons, evS_asg, evE_idx]
        simp [hj, hp, h4, M, hpw, hpz, hne, hne2, -getElem?_pos, -compM_map]
        generalize hF : compM _ _ _ _ _ _ = o
        have hF2 := compM_wpf hF (by simpa using M.wide_sz) (fun x => !decide (m.leadW p.1 x = x)) nI (by simp; rfl) rfl (by
          intro y hy
          have hy' := List.mem_range.1 hy
          by_cases e : m.leadW p.1 y = y
          · simp [hy', e]
          · have e' : ¬ ((m.leadW p.1 y : Nat) : Int) = (y : Int) := by omega
            simp [hy', e, e'])
        rw [hF2, hx]
        simp [hp2z]
        exact .inr ⟨p.2 ++ [x], (hmv x hxw hxne).1, (hmv x hxw hxne).2, by simp⟩
    · simp [hj]
      exact .inl ⟨rfl, Cl.nothing M hw h1 (by omega), rows, j, s7, j8, j9, j10, j11, j12, h1, by omega, hlen, rfl⟩)
  obtain ⟨f, e', rfl, h | h⟩ := this
  · obtain ⟨rfl, hN, rows, j, s7, j8, j9, j10, j11, j12, c1, c2, c3, rfl⟩ := h
    refine .inl ⟨hN, rows.map (·.1), ?_, c1.nd⟩
    have hkeys : (((rows.map (·.1)).map fun v => (encW v, PyData.bool true)).map (·.1)) = (rows.map (·.1)).map encW := by
      rw [List.map_map]; rfl
    have hs := sortOk_rows (rows.map (·.1)) (by simp; exact Nat.lt_of_le_of_lt c3 (by decide))
    have hb : biF .sorted [knownD rows] = some (.fresh (.list (sortD ((rows.map (·.1)).map encW)))) := by
      rw [knownD, bi_sorted_dict (by rw [hkeys]; exact hs), hkeys]
    simp only [List.map_map] at hb
    simp [hb]
  · obtain ⟨r, h1, h2, rfl⟩ := h
    exact .inr ⟨r, h1, h2, by simp⟩
theorem is_nothing_in_ok (k : Nat) {w : List Int} (hw : WdOk m w) (hz : w.length < sz) (hfew : ∀ K : List (List Int), K.Nodup → (∀ v ∈ K, Part m w v) → K.length ≤ 5000) [Decidable (Nothing m w)] :
    run T (k + 6) F_is_nothing_in [] [encM m, encW w] = .ok (.bool (decide (Nothing m w))) false [] := by
  rw [run_is_nothing_in, b_is_nothing_in]
  rcases closing_in_ok M k hw hz hfew with ⟨h1, K, h2, _⟩ | ⟨r, h1, h2, h3⟩
  · simp [h2, h1]
  · have hn : ¬ Nothing m w := fun q => h2 (q r h1)
    simp [h3, hn]
    decide
theorem is_nothing_ok (k : Nat) {w : List Int} (hw : WdOk m w) (hl : w.length ≤ 40) (hfew : ∀ K : List (List Int), K.Nodup → (∀ v ∈ K, Part m w v) → K.length ≤ 5000) [Decidable (Nothing m w)] :
    run T (k + 7) F_is_nothing [] [encM m, encW w] = .ok (.bool (decide (Nothing m w))) false [] := by
  have h := is_nothing_in_ok M k hw (Nat.lt_of_le_of_lt hl (by decide)) hfew
  rw [run_is_nothing, b_is_nothing]
  simp [M, hw, hl, h]
end
end Ev
/-! text M13 -/
set_option Elab.async false
set_option linter.all false
set_option maxRecDepth 100000
/-! M13: the mirrored machine: rows of states led by letters are words led by rows. -/
namespace Ev
open PySem
/-- states as a word -/
def wordOf (q : List Nat) : List Int := q.map fun (s : Nat) => (s : Int) + 1
@[simp] theorem wordOf_length (q : List Nat) : (wordOf q).length = q.length := by simp [wordOf]
theorem wordOf_inj {q p : List Nat} (h : wordOf q = wordOf p) : q = p := by
  unfold wordOf at h
  rwa [List.map_inj_right] at h
  intro x y e; omega
theorem wordOf_ok {m : Mac} {q : List Nat} (h : ROk m.n q) : WdOk m (wordOf q) := fun a ha => by
  obtain ⟨s, hs, rfl⟩ := List.mem_map.1 ha
  have := h s hs
  omega
theorem wordOf_rdc (q : List Nat) : Rdc (wordOf q) := fun u a v e => by
  have h1 : a ∈ wordOf q := by rw [e]; simp
  have h2 : -a ∈ wordOf q := by rw [e]; simp
  obtain ⟨s, hs, rfl⟩ := List.mem_map.1 h1
  obtain ⟨t, ht, e⟩ := List.mem_map.1 h2
  omega
theorem wordOf_short (q : List Nat) : short (wordOf q) = wordOf q := short_of_rdc (wordOf_rdc q)
/-- the states behind, one by one, a letter going through -/
def behind (m : Mac) : Nat → List Nat → List Nat
  | _, [] => []
  | x, s :: r => m.t s x :: behind m (m.o s x) r
def here (m : Mac) : Nat → List Nat → Nat
  | x, [] => x
  | x, s :: r => here m (m.o s x) r
theorem behind_snoc (m : Mac) : ∀ (x : Nat) (r : List Nat) (s : Nat), behind m x (r ++ [s]) = behind m x r ++ [m.t s (here m x r)] ∧ here m x (r ++ [s]) = m.o s (here m x r)
  | x, [], s => ⟨rfl, rfl⟩
  | x, t :: r, s => by
    have := behind_snoc m (m.o t x) r s
    exact ⟨congrArg (m.t t x :: ·) this.1, this.2⟩
@[simp] theorem behind_length (m : Mac) : ∀ (x : Nat) (r : List Nat), (behind m x r).length = r.length
  | x, [] => rfl
  | x, s :: r => congrArg Nat.succ (behind_length m _ r)
section
variable {m : Mac} (M : m.Ok)
include M
theorem behind_ok : ∀ (r : List Nat) (x : Nat), x < m.wide → ROk m.n r → ROk m.n (behind m x r) ∧ here m x r < m.wide
  | [], x, hx, _ => ⟨fun y hy => by simp [behind] at hy, hx⟩
  | s :: r, x, hx, hr => by
    have := behind_ok r (m.o s x) (M.o_lt hr.head hx) hr.tail
    refine ⟨fun y hy => ?_, this.2⟩
    rcases List.mem_cons.1 hy with rfl | hy
    · exact M.t_lt hr.head hx
    · exact this.1 y hy
omit M in
theorem lead_pos (m : Mac) (s x : Nat) : m.lead ((s : Int) + 1) x = m.o s x ∧ m.next ((s : Int) + 1) x = (m.t s x : Int) + 1 := by
  have h : ((s : Int) + 1) > 0 := by omega
  have e : ((s : Int) + 1).natAbs - 1 = s := by omega
  simp only [Mac.lead, Mac.next, h, if_true, e]
  exact ⟨trivial, trivial⟩
omit M in
theorem nextW_wordOf (m : Mac) : ∀ (r : List Nat) (x : Nat), m.nextW (wordOf r) x = wordOf (behind m x r) ∧ m.leadW (wordOf r) x = here m x r
  | [], x => ⟨rfl, rfl⟩
  | s :: r, x => by
    obtain ⟨h1, h2⟩ := lead_pos m s x
    have ih := nextW_wordOf m r (m.o s x)
    constructor
    · show m.next ((s : Int) + 1) x :: m.nextW (wordOf r) (m.lead ((s : Int) + 1) x) = ((m.t s x : Int) + 1) :: wordOf (behind m (m.o s x) r)
      rw [h1, h2, ih.1]
    · show m.leadW (wordOf r) (m.lead ((s : Int) + 1) x) = here m (m.o s x) r
      rw [h1, ih.2]
theorem mirror_o {s x : Nat} (hs : s < m.n) (hx : x < m.wide) : m.mirror.o x s = m.t s x ∧ m.mirror.t x s = m.o s x := by
  have hs' : s < m.sts.length := hs
  have e : m.mirror.sts[x]? = some (m.sts.map fun s => nth s.2 x, m.sts.map fun s => nth s.1 x) := by simp [Mac.mirror, hx]
  have hst := mac_get hs
  have h1 : m.mirror.outs x = m.sts.map fun s => nth s.2 x := by simp [Mac.outs, e]
  have h2 : m.mirror.nexts x = m.sts.map fun s => nth s.1 x := by simp [Mac.nexts, e]
  unfold Mac.o Mac.t
  rw [h1, h2]
  constructor
  · simp [hst, nth]
  · simp [hst, nth]
theorem mirror_led : ∀ (r : List Nat) (x : Nat), x < m.wide → ROk m.n r → m.mirror.ledU [(x : Int) + 1] r = behind m x r
  | [], x, _, _ => rfl
  | s :: r, x, hx, hr => by
    obtain ⟨h1, h2⟩ := lead_pos m.mirror x s
    obtain ⟨h3, h4⟩ := mirror_o M hr.head hx
    show m.mirror.lead ((x : Int) + 1) s :: m.mirror.ledU [m.mirror.next ((x : Int) + 1) s] r = _
    rw [h1, h2, h3, h4, mirror_led r (m.o s x) (M.o_lt hr.head hx) hr.tail]
    rfl
/-- rows led by words, words led by rows -/
theorem mirror_part : ∀ (row : List Nat) (q : List Nat), ROk m.wide row → ROk m.n q → m.partU (wordOf q) row = wordOf (m.mirror.ledU (wordOf row) q) ∧ ROk m.n (m.mirror.ledU (wordOf row) q)
  | [], q, _, hq => by
    rw [show wordOf [] = [] from rfl, (ledU_nil m.mirror q).1]
    exact ⟨rfl, hq⟩
  | x :: row, q, hr, hq => by
    have hb := (behind_ok M q x hr.head hq).1
    have ih := mirror_part row (behind m x q) hr.tail hb
    have e : wordOf (x :: row) = [(x : Int) + 1] ++ wordOf row := rfl
    rw [e, ledU_append, mirror_led M q x hr.head hq]
    refine ⟨?_, ih.2⟩
    rw [← ih.1]
    show m.partU (m.nextW (wordOf q) x) row = _
    rw [(nextW_wordOf m q x).1]
theorem mirror_canMir (h : m.canMir = true) (h2 : 2 ≤ m.n) (h5 : m.n ≤ 5) : m.mirror.canMir = true := by
  rw [canMir_iff (mirror_ok M h h2 h5)]
  intro s hs
  have hs : s < m.n := hs
  have e : (m.mirror.sts.map fun t => nth t.2 s) = m.outs s := by
    apply List.ext_getElem
    · rw [M.outs_len hs]; simp [Mac.mirror]
    · intro i h1 h2
      have hi : i < m.wide := by rw [M.outs_len hs] at h2; exact h2
      rw [M.outs_getE hs hi]
      simp only [Mac.mirror, List.getElem_map, List.getElem_range]
      have hst := mac_get hs
      simp [nth, hst, Mac.o]
  rw [e]
  exact (M.stOk hs).ond
/-- positive words of few numbers have few parts -/
theorem few_parts {q : List Nat} (hq : ROk m.n q) (hn : m.n ≤ 3) (hl : q.length = 2) : ∀ K : List (List Int), K.Nodup → (∀ v ∈ K, Part m (wordOf q) v) → K.length ≤ 5000 := by
  intro K hd hp
  have key : ∀ (r : List Nat) (q : List Nat), ROk m.wide r → ROk m.n q → ∃ p, m.partU (wordOf q) r = wordOf p ∧ ROk m.n p ∧ p.length = q.length := by
    intro r
    induction r with
    | nil => intro q _ hq; exact ⟨q, rfl, hq, rfl⟩
    | cons x r ih =>
      intro q hr hq
      obtain ⟨p, h1, h2, h3⟩ := ih (behind m x q) hr.tail (behind_ok M q x hr.head hq).1
      refine ⟨p, ?_, h2, by rw [h3]; simp⟩
      show m.partU (m.nextW (wordOf q) x) r = _
      rw [(nextW_wordOf m q x).1, h1]
  have h1 : ∀ v ∈ K, v ∈ (rowsL m.n 2).map wordOf := fun v hv => by
    obtain ⟨r, hr, rfl⟩ := hp v hv
    obtain ⟨p, h1, h2, h3⟩ := key r q hr hq
    rw [h1, wordOf_short]
    exact List.mem_map_of_mem (mem_rowsL.2 ⟨by rw [h3, hl], h2⟩)
  have h2 := subset_len hd h1
  rw [List.length_map, rowsL_length] at h2
  have h3 : m.n ^ 2 ≤ 3 ^ 2 := Nat.pow_le_pow_left hn 2
  omega
end
/-! ### coming round -/
/-- what is injective within a finite lot comes round -/
theorem comes_round {α : Type} [DecidableEq α] (f : α → α) (S : List α) (hc : ∀ x ∈ S, f x ∈ S) (hi : ∀ x ∈ S, ∀ y ∈ S, f x = f y → x = y) {x : α} (hx : x ∈ S) (C : α → Prop) (hC : ∀ y ∈ S, C y → C (f y)) (h : C (f x)) : C x := by
  -- the powers of f at x, without end, within S: some two are one
  have hpow : ∀ n, Nat.repeat f n x ∈ S := fun n => by
    induction n with
    | zero => exact hx
    | succ n ih => exact hc _ ih
  have hnd : ∃ i j, i < j ∧ Nat.repeat f i x = Nat.repeat f j x := by
    apply Classical.byContradiction
    intro hno
    have h1 : ((List.range (S.length + 1)).map fun n => Nat.repeat f n x).Nodup := by
      rw [List.Nodup, List.pairwise_map]
      refine List.pairwise_lt_range.imp fun {a b} hab e => hno ⟨a, b, hab, e⟩
    have h2 := subset_len h1 (b := S) fun y hy => by
      obtain ⟨n, _, rfl⟩ := List.mem_map.1 hy
      exact hpow n
    simp at h2
    omega
  obtain ⟨i, j, hij, e⟩ := hnd
  have hback : ∀ i d, Nat.repeat f i x = Nat.repeat f (i + d) x → x = Nat.repeat f d x := by
    intro i
    induction i with
    | zero => intro d e; rw [Nat.zero_add] at e; exact e
    | succ i ih =>
      intro d e
      have e' : f (Nat.repeat f i x) = f (Nat.repeat f (i + d) x) := by
        have : i + 1 + d = (i + d) + 1 := by omega
        rw [this] at e; exact e
      exact ih d (hi _ (hpow _) _ (hpow _) e')
  have hx2 := hback i (j - i) (by rw [show i + (j - i) = j by omega]; exact e)
  obtain ⟨d, hd⟩ : ∃ d, j - i = d + 1 := ⟨j - i - 1, by omega⟩
  rw [hd] at hx2
  have hall : ∀ n, C (Nat.repeat f (n + 1) x) := fun n => by
    induction n with
    | zero => exact h
    | succ n ih => exact hC _ (hpow _) ih
  rw [hx2]; exact hall d
/-! ### rows are sorted -/
theorem rlt_lex : ∀ {a b : List Nat} {x y : Nat} (u v : List Nat), a.length = b.length → rlt (a.map fun (n : Nat) => (n : Int)) (b.map fun (n : Nat) => (n : Int)) = true → rlt ((a ++ u).map fun (n : Nat) => (n : Int)) ((b ++ v).map fun (n : Nat) => (n : Int)) = true
  | [], [], _, _, u, v, _, h => by simp [rlt] at h
  | [], _ :: _, _, _, u, v, h, _ => by simp at h
  | _ :: _, [], _, _, u, v, h, _ => by simp at h
  | p :: a, q :: b, x, y, u, v, hl, h => by
    simp only [List.map_cons, List.cons_append, rlt, Bool.or_eq_true, Bool.and_eq_true, decide_eq_true_eq] at h ⊢
    rcases h with h | ⟨h1, h2⟩
    · exact .inl h
    · exact .inr ⟨h1, rlt_lex (x := x) (y := y) u v (by simpa using hl) h2⟩
theorem rlt_tail : ∀ (a : List Nat) (x y : Nat), x < y → rlt ((a ++ [x]).map fun (n : Nat) => (n : Int)) ((a ++ [y]).map fun (n : Nat) => (n : Int)) = true
  | [], x, y, h => by simp [rlt]; omega
  | p :: a, x, y, h => by
    have := rlt_tail a x y h
    simp only [List.map_cons, List.cons_append, rlt, Bool.or_eq_true, Bool.and_eq_true, decide_eq_true_eq]
    exact .inr ⟨trivial, this⟩
theorem rowsL_rlt (wide : Nat) : ∀ (n : Nat), (rowsL wide n).Pairwise fun a b => rlt (a.map fun (n : Nat) => (n : Int)) (b.map fun (n : Nat) => (n : Int)) = true
  | 0 => by simp [rowsL]
  | n + 1 => by
    have ih := rowsL_rlt wide n
    rw [rowsL, List.pairwise_flatMap]
    refine ⟨fun r _ => ?_, ?_⟩
    · rw [List.pairwise_map]
      exact List.pairwise_lt_range.imp fun h => rlt_tail r _ _ h
    · refine ih.imp_of_mem fun {a b} ha hb h => ?_
      intro u hu v hv
      obtain ⟨x, _, rfl⟩ := List.mem_map.1 hu
      obtain ⟨y, _, rfl⟩ := List.mem_map.1 hv
      exact rlt_lex (x := x) (y := y) _ _ (by rw [(mem_rowsL.1 ha).1, (mem_rowsL.1 hb).1]) h
theorem encN_W (l : List Nat) : encN l = encW (l.map fun (n : Nat) => (n : Int)) := by simp [Function.comp_def]
theorem rowsL_sorted {l : List (List Nat)} {wide n : Nat} (h : l.Perm (rowsL wide n)) : sortD (l.map encN) = (rowsL wide n).map encN := by
  have hs : Srt (l.map encN) := by
    have := srt_rows (l.map fun r => r.map fun (n : Nat) => (n : Int))
    rw [List.map_map] at this
    simpa [Function.comp_def] using this
  refine sortD_unique hs (h.map encN) ?_
  rw [List.pairwise_map]
  refine (rowsL_rlt wide n).imp fun {a b} hab => ?_
  have h1 : PySem.W.dataLt (encN a) (encN b) = true := by rw [encN_W, encN_W, dataLt_rows]; exact hab
  unfold leD
  rw [dataLt_asymm h1]; rfl

/-! ### lots of rows -/
abbrev encR (l : List (List Nat)) : D := .tuple (l.map encN)
structure RowLots (m : Mac) (n : Nat) (R : List (List (List Nat))) : Prop where
  perm : R.flatten.Perm (rowsL m.wide n)
  cl : ∀ l ∈ R, ∀ r ∈ l, ∀ s, s < m.n → m.ledU [(s : Int) + 1] r ∈ l
  ne : ∀ l ∈ R, ∃ r, r ∈ l
  uni : ∀ C : List Nat → Prop, (∀ l ∈ R, ∀ q ∈ l, C q → ∀ s, s < m.n → C (m.ledU [(s : Int) + 1] q)) → ∀ l ∈ R, ∀ q ∈ l, ∀ p ∈ l, C q → C p
theorem RowLots.row {m : Mac} {n : Nat} {R : List (List (List Nat))} (h : RowLots m n R) {l : List (List Nat)} (hl : l ∈ R) {r : List Nat} (hr : r ∈ l) : r.length = n ∧ ROk m.wide r := mem_rowsL.1 (h.perm.mem_iff.1 (List.mem_flatten.2 ⟨l, hl, hr⟩))
theorem rowAt_num {wide n : Nat} {r : List Nat} (hl : r.length = n) (h : ROk wide r) : rowAt wide n (numR wide r) = r := by
  have h1 := rowsL_num hl h
  simp [rowAt, h1]
section
variable {m : Mac} (M : m.Ok)
include M
theorem row_lots (k : Nat) (n : Nat) (hn : m.wide ^ n ≤ 1024) : ∃ R : List (List (List Nat)), run T (k + 6) F_lots_at [] [encM m, nI n] = .ok (.list (R.map encR)) true [] ∧ RowLots m n R := by
  obtain ⟨L, h1, h2, h3⟩ := lots_at_ok M k n hn
  have hget : ∀ l ∈ L, ∀ i ∈ l, i < m.wide ^ n := fun l hl i hi => h2.lt i (List.mem_flatten.2 ⟨l, hl, hi⟩)
  have hstep : ∀ i, i < m.wide ^ n → ∀ j, j < m.n → rowAt m.wide n (nth (lvS m [(j : Int) + 1] n) i) = m.ledU [(j : Int) + 1] (rowAt m.wide n i) := fun i hi j hj => by
    obtain ⟨a1, a2, a3, a4⟩ := rowAt_get hi
    have := lvS_nth M (w := [(j : Int) + 1]) a2 a3
    rw [a4] at this
    rw [this]
    exact rowAt_num (by rw [ledU_length]; exact a2) (ledU_ok M _ _ (state_ok M hj) a3)
  have hmem : ∀ j, j < m.n → lvS m [(j : Int) + 1] n ∈ allS m n := fun j hj => List.mem_map.2 ⟨j, List.mem_range.2 hj, rfl⟩
  refine ⟨L.map fun l => l.map (rowAt m.wide n), ?_, ?_⟩
  · rw [h1]; simp [Function.comp_def]
  have hcl : ∀ l ∈ L.map fun l => l.map (rowAt m.wide n), ∀ r ∈ l, ∀ s, s < m.n → m.ledU [(s : Int) + 1] r ∈ l := fun l hl r hr s hs => by
    obtain ⟨l, hl', rfl⟩ := List.mem_map.1 hl
    obtain ⟨i, hi, rfl⟩ := List.mem_map.1 hr
    rw [← hstep i (hget l hl' i hi) s hs]
    exact List.mem_map_of_mem (h2.cl l hl' i hi _ (hmem s hs))
  have hfl : (L.map fun l => l.map (rowAt m.wide n)).flatten = L.flatten.map (rowAt m.wide n) := by rw [List.map_flatten]
  have hperm : (L.flatten.map (rowAt m.wide n)).Perm (rowsL m.wide n) := by
    refine (h3.map _).trans (List.Perm.of_eq ?_)
    apply List.ext_getElem
    · simp [rowsL_length]
    · intro i q1 q2
      have := (rowAt_get (n := n) (i := i) (by simpa [rowsL_length] using q2)).1
      rw [List.getElem?_eq_getElem q2] at this
      simp
      exact (Option.some.inj this).symm
  have hrow : ∀ l ∈ L, ∀ i ∈ l, (rowAt m.wide n i).length = n ∧ ROk m.wide (rowAt m.wide n i) := fun l hl i hi => by
    obtain ⟨a1, a2, a3, a4⟩ := rowAt_get (hget l hl i hi)
    exact ⟨a2, a3⟩
  refine ⟨by rw [hfl]; exact hperm, hcl, fun l hl => ?_, fun C hC => ?_⟩
  · obtain ⟨l, hl', rfl⟩ := List.mem_map.1 hl
    obtain ⟨x, hx, _⟩ := h2.rch l hl'
    exact ⟨_, List.mem_map_of_mem hx⟩
  · -- along steps, both ways
    have hb : ∀ l ∈ L, ∀ x ∈ l, ∀ y, Rch (allS m n) x y → y ∈ l ∧ (C (rowAt m.wide n x) ↔ C (rowAt m.wide n y)) := fun l hl x hx y hy => by
      induction hy with
      | refl => exact ⟨hx, Iff.rfl⟩
      | step s hxy hs ih =>
        rename_i y
        obtain ⟨iy, ic⟩ := ih
        obtain ⟨j, hj, rfl⟩ := List.mem_map.1 hs
        have hj := List.mem_range.1 hj
        refine ⟨h2.cl l hl y iy _ hs, ic.trans ?_⟩
        rw [hstep y (hget l hl y iy) j hj]
        have hlR : l.map (rowAt m.wide n) ∈ L.map fun l => l.map (rowAt m.wide n) := List.mem_map_of_mem hl
        refine ⟨fun c => hC _ hlR _ (List.mem_map_of_mem iy) c j hj, fun c => ?_⟩
        refine comes_round (m.ledU [(j : Int) + 1]) (l.map (rowAt m.wide n)) (fun r hr => hcl _ hlR r hr j hj) (fun r hr q hq e => ?_) (List.mem_map_of_mem iy) C (fun r hr c => hC _ hlR r hr c j hj) c
        obtain ⟨i1, hi1, rfl⟩ := List.mem_map.1 hr
        obtain ⟨i2, hi2, rfl⟩ := List.mem_map.1 hq
        obtain ⟨a1, a2⟩ := hrow l hl i1 hi1
        obtain ⟨b1, b2⟩ := hrow l hl i2 hi2
        exact led_inj M _ _ _ (state_ok M hj) a2 b2 (by rw [a1, b1]) e
    intro l hl q hq p hp c
    obtain ⟨l, hl', rfl⟩ := List.mem_map.1 hl
    obtain ⟨i, hi, rfl⟩ := List.mem_map.1 hq
    obtain ⟨j, hj, rfl⟩ := List.mem_map.1 hp
    obtain ⟨x, hx, hx2, _⟩ := h2.rch l hl'
    exact (hb l hl' x hx j (hx2 j hj)).2.1 ((hb l hl' x hx i (hx2 i hi)).2.2 c)
end
end Ev
/-! text K28 -/
set_option Elab.async false
set_option linter.all false
set_option maxRecDepth 100000
namespace Ev
open PySem
theorem findIdx_inj {α : Type} [BEq α] [LawfulBEq α] (en : α → D) (hi : ∀ a b, en a = en b → a = b) (l : List α) (x : α) : (l.map en).findIdx (fun y => decide (y = en x)) = l.idxOf x := by
  rw [List.findIdx_map, List.idxOf]
  congr 1
  funext y
  by_cases h : y = x
  · subst h; simp
  · have : ¬ en y = en x := fun e => h (hi _ _ e)
    simp [h, this]
theorem index_rows (rows : List (List Nat)) (b : List Nat) (h : b ∈ rows) : mthK .index .list [.list (rows.map encN), .tuple (b.map nI)] = some (.val (nI (rows.idxOf b))) := by
  rw [mthK_index_list (rows.map encN) (encN b) (by simp) (by simp) (List.mem_map_of_mem h), findIdx_inj encN (fun a b e => keyEn_nats.inj a b e)]
section
variable {m : Mac} (M : m.Ok)
include M
/-- a letter going through a row of states -/
theorem k28_in (k : Nat) (s0 s1 s2 s4 s5 s6 s7 s8 s9 s10 s11 s12 s13 s14 s15 s16 s17 s18 s21 s22 s23 : Slot) (h16 : JI s16) (x : Nat) (hx : x < m.wide) (own : List Nat) (ho : ROk m.n own) (hl : own.length < sz) : ∃ s16' : Slot, JI s16' ∧
    forL (.nm 16) (evSs (run T k) b_law_k28_l3) (own.map nI)
      [s0, s1, s2, .im (encM m), s4, s5, s6, s7, s8, s9, s10, s11, s12, s13, s14, s15, s16, s17, s18, .im (nI x), .ow (.list []), s21, s22, s23] =
      .ok .nx [s0, s1, s2, .im (encM m), s4, s5, s6, s7, s8, s9, s10, s11, s12, s13, s14, s15, s16', s17, s18, .im (nI (here m x own)), .ow (.list ((behind m x own).map nI)), s21, s22, s23] := by
  generalize hF : forL _ _ _ _ = o
  obtain ⟨e', rfl, s16', h16', rfl⟩ := forL_wp hF (fun pre e => ∃ s16' : Slot, JI s16' ∧ e = [s0, s1, s2, .im (encM m), s4, s5, s6, s7, s8, s9, s10, s11, s12, s13, s14, s15, s16', s17, s18, .im (nI (here m x pre)), .ow (.list ((behind m x pre).map nI)), s21, s22, s23]) ⟨s16, h16, rfl⟩ (by
    rintro pre s post hl2 e ⟨s16', h16', rfl⟩
    clear hF
    have hs : s < m.n := ho s (hl2 ▸ by simp)
    have hs' : s < m.sts.length := hs
    have hpre : ROk m.n pre := fun y hy => ho y (hl2 ▸ List.mem_append_left _ hy)
    have hh := (behind_ok M pre x hx hpre).2
    have hlen : pre.length < sz := by
      have := congrArg List.length hl2
      simp at this; omega
    rw [(behind_snoc m x pre s).1, (behind_snoc m x pre s).2]
    simp [b_law_k28_l3, h16', mac_get hs, hs', hh, hlen, M.outs_len hs, M.nexts_len hs, M.outs_get hs hh, M.nexts_get hs hh, -getElem?_pos])
  exact ⟨s16', h16', rfl⟩
theorem k28_dues (k : Nat) (s0 s1 s2 s4 s5 s6 s7 s8 s9 s10 s11 s13 s16 s17 s18 s19 s20 s21 s22 s23 : Slot) (h5 : JO s5) (h16 : JI s16) (h19 : JO s19) (h20 : JO s20) (x : Nat) (hx : x < m.wide) (n : Nat) (hn : m.n ^ n ≤ 1024) (hn2 : n ≤ 1000) : ∃ s5' s16' s19' s20' : Slot, JO s5' ∧ JI s16' ∧ JO s19' ∧ JO s20' ∧
    forL (.nm 5) (evSs (run T k) b_law_k28_l2) ((rowsL m.n n).map encN)
      [s0, s1, s2, .im (encM m), s4, s5, s6, s7, s8, s9, s10, s11, .im (nI x), s13, .im (.list ((rowsL m.n n).map encN)), .ow (.list []), s16, s17, s18, s19, s20, s21, s22, s23] =
      .ok .nx [s0, s1, s2, .im (encM m), s4, s5', s6, s7, s8, s9, s10, s11, .im (nI x), s13, .im (.list ((rowsL m.n n).map encN)), .ow (.list ((((rowsL m.n n).map (behind m x)).map (numR m.n)).map nI)), s16', s17, s18, s19', s20', s21, s22, s23] := by
  generalize hF : forL _ _ _ _ = o
  obtain ⟨e', rfl, s5', s16', s19', s20', q1, q2, q3, q4, rfl⟩ := forL_wp hF (fun pre e => ∃ s5' s16' s19' s20' : Slot, JO s5' ∧ JI s16' ∧ JO s19' ∧ JO s20' ∧ e = [s0, s1, s2, .im (encM m), s4, s5', s6, s7, s8, s9, s10, s11, .im (nI x), s13, .im (.list ((rowsL m.n n).map encN)), .ow (.list (((pre.map (behind m x)).map (numR m.n)).map nI)), s16', s17, s18, s19', s20', s21, s22, s23]) ⟨s5, s16, s19, s20, h5, h16, h19, h20, rfl⟩ (by
    rintro pre own post hl e ⟨s5', s16', s19', s20', q1, q2, q3, q4, rfl⟩
    clear hF
    have ho := mem_rowsL.1 (show own ∈ rowsL m.n n from hl ▸ by simp)
    have hol : own.length < sz := by have := ho.1; simp [sz_val]; omega
    have hlen : pre.length < sz := by
      have h1 := congrArg List.length hl
      rw [rowsL_length] at h1
      simp at h1
      simp [sz_val]; omega
    obtain ⟨s16', r1, r2⟩ := k28_in M k s0 s1 s2 s4 (.im (encN own)) s6 s7 s8 s9 s10 s11 (.im (nI x)) s13 (.im (.list ((rowsL m.n n).map encN))) (.ow (.list (((pre.map (behind m x)).map (numR m.n)).map nI))) s16' s17 s18 s21 s22 s23 q2 x hx own ho.2 hol
    have hb : behind m x own ∈ rowsL m.n n := mem_rowsL.2 ⟨by rw [behind_length]; exact ho.1, (behind_ok M own x hx ho.2).1⟩
    have hi := index_rows (rowsL m.n n) (behind m x own) hb
    have hidx : (rowsL m.n n).idxOf (behind m x own) = numR m.n (behind m x own) := rowsL_idxOf (by rw [behind_length]; exact ho.1) (behind_ok M own x hx ho.2).1
    rw [hidx] at hi
    simp only [List.map_map] at r2
    simp [b_law_k28_l2, q1, q3, q4, r2, r1, hi, hlen]
    exact ⟨_, JO_im _, _, r1, _, JO_im _, _, JO_ow _, rfl, rfl, rfl, rfl⟩)
  exact ⟨s5', s16', s19', s20', q1, q2, q3, q4, rfl⟩
omit M in
theorem wordOf_dec (p : List Nat) : (wordOf p).map (fun a => PyData.int (a - 1)) = p.map nI := by
  simp [wordOf, Function.comp_def]
omit M in
theorem wordOf_inc (p : List Nat) : p.map (fun (a : Nat) => PyData.int ((a : Int) + 1)) = (wordOf p).map PyData.int := by
  simp [wordOf, Function.comp_def]
omit M in
theorem in_rows (l : List (List Nat)) (p : List Nat) (hp : p ∈ l) : inB (.tuple (p.map nI)) (.tuple (l.map encN)) = some true := by
  rw [inB_tuple (a := .tuple (p.map nI)) (ys := l.map encN) (by simp) (by simp)]
  simp
  exact hp
theorem k28_y (k : Nat) (s0 s1 s2 s4 s6 s7 s8 s11 s12 s13 s14 s15 s16 s18 s19 s20 s21 s22 s23 : Slot) (h16 : JI s16) (h21 : JO s21) (h22 : JO s22) (l : List (List Nat)) (q : List Nat) (hq : ROk m.n q) (hql : q.length = 2) (hc : ∀ y, y < m.wide → behind m y q ∈ l) : ∃ s16' s21' s22' : Slot, JI s16' ∧ JO s21' ∧ JO s22' ∧
    forL (.nm 21) (evSs (run T (k + 30)) b_law_k28_l6) ((List.range m.wide).map nI)
      [s0, s1, s2, .im (encM m), s4, .im (encR l), s6, s7, s8, .im (encW (wordOf q)), .im (nI m.wide), s11, s12, s13, s14, s15, s16, .im (encN q), s18, s19, s20, s21, s22, s23] =
      .ok .nx [s0, s1, s2, .im (encM m), s4, .im (encR l), s6, s7, s8, .im (encW (wordOf q)), .im (nI m.wide), s11, s12, s13, s14, s15, s16', .im (encN q), s18, s19, s20, s21', s22', s23] := by
  generalize hF : forL _ _ _ _ = o
  obtain ⟨e', rfl, s16', s21', s22', q1, q2, q3, rfl⟩ := forL_wp hF (fun pre e => ∃ s16' s21' s22' : Slot, JI s16' ∧ JO s21' ∧ JO s22' ∧ e = [s0, s1, s2, .im (encM m), s4, .im (encR l), s6, s7, s8, .im (encW (wordOf q)), .im (nI m.wide), s11, s12, s13, s14, s15, s16', .im (encN q), s18, s19, s20, s21', s22', s23]) ⟨s16, s21, s22, h16, h21, h22, rfl⟩ (by
    rintro pre y post hl e ⟨s16', s21', s22', q1, q2, q3, rfl⟩
    clear hF
    have hy : y < m.wide := List.mem_range.1 (hl ▸ by simp)
    have hwo := wordOf_ok hq
    have hwl : (wordOf q).length ≤ sz := by simp [hql]
    have hwl2 : (wordOf q).length < sz := by simp [hql]
    have hst : run T (k + 30) F_law_step [] [encM m, encW (wordOf q), nI y] = .ok (.tuple [nI (here m y q), encW (wordOf (behind m y q))]) false [] := by
      have := law_step_ok M (k + 28) (wordOf q) y hwo hwl2 hy
      rwa [(nextW_wordOf m q y).1, (nextW_wordOf m q y).2] at this
    have hpt : run T (k + 30) F_part_at [] [encM m, encW (wordOf q), .tuple [nI y]] = .ok (encW (wordOf (behind m y q))) false [] := by
      have := part_at_ok M (k + 23) (wordOf q) [y] hwo (by simp [hql]) (fun z hz => by simp at hz; subst hz; exact hy) (by simp)
      rw [show m.partU (wordOf q) [y] = m.nextW (wordOf q) y from rfl, (nextW_wordOf m q y).1, wordOf_short] at this
      exact this
    have hin := in_rows l (behind m y q) (hc y hy)
    have hdec := wordOf_dec (behind m y q)
    have hinc := wordOf_inc (behind m y q)
    have hbl : (behind m y q).length ≤ sz := by simp [hql]
    have hsame := law_same_refl 2 (k + 27) (encW (wordOf (behind m y q))) (by simp [hql])
    simp [b_law_k28_l6, q1, q2, q3, hst, hql, hdec, hin, hpt, hinc, hsame]
    exact ⟨_, q1, _, JO_im _, _, JO_im _, rfl, rfl, rfl⟩)
  exact ⟨s16', s21', s22', q1, q2, q3, rfl⟩
theorem k28_pairs (k : Nat) (s0 s1 s2 s4 s6 s7 s8 s9 s11 s12 s13 s14 s15 s16 s17 s18 s19 s20 s21 s22 s23 : Slot) (h9 : JO s9) (h16 : JI s16) (h17 : JO s17) (h21 : JO s21) (h22 : JO s22) (l : List (List Nat)) (hq : ∀ q ∈ l, ROk m.n q ∧ q.length = 2) (hc : ∀ q ∈ l, ∀ y, y < m.wide → behind m y q ∈ l) : ∃ s9' s16' s17' s21' s22' : Slot, JO s9' ∧ JI s16' ∧ JO s17' ∧ JO s21' ∧ JO s22' ∧
    forL (.nm 17) (evSs (run T (k + 30)) b_law_k28_l5) (l.map encN)
      [s0, s1, s2, .im (encM m), s4, .im (encR l), s6, s7, s8, s9, .im (nI m.wide), s11, s12, s13, s14, s15, s16, s17, s18, s19, s20, s21, s22, s23] =
      .ok .nx [s0, s1, s2, .im (encM m), s4, .im (encR l), s6, s7, s8, s9', .im (nI m.wide), s11, s12, s13, s14, s15, s16', s17', s18, s19, s20, s21', s22', s23] := by
  generalize hF : forL _ _ _ _ = o
  obtain ⟨e', rfl, s9', s16', s17', s21', s22', q1, q2, q3, q4, q5, rfl⟩ := forL_wp hF (fun pre e => ∃ s9' s16' s17' s21' s22' : Slot, JO s9' ∧ JI s16' ∧ JO s17' ∧ JO s21' ∧ JO s22' ∧ e = [s0, s1, s2, .im (encM m), s4, .im (encR l), s6, s7, s8, s9', .im (nI m.wide), s11, s12, s13, s14, s15, s16', s17', s18, s19, s20, s21', s22', s23]) ⟨s9, s16, s17, s21, s22, h9, h16, h17, h21, h22, rfl⟩ (by
    rintro pre q post hl e ⟨s9', s16', s17', s21', s22', q1, q2, q3, q4, q5, rfl⟩
    clear hF
    have hql : q ∈ l := hl ▸ by simp
    obtain ⟨g1, g2⟩ := hq q hql
    obtain ⟨t16, t21, t22, r1, r2, r3, r4⟩ := k28_y M k s0 s1 s2 s4 s6 s7 s8 s11 s12 s13 s14 s15 s16' s18 s19 s20 s21' s22' s23 q2 q4 q5 l q g1 g2 (hc q hql)
    have hinc := wordOf_inc q
    simp [b_law_k28_l5, q1, q2, q3, g2, hinc, M.wide_sz, r4]
    exact ⟨_, JO_im _, _, r1, _, JO_im _, _, r2, _, r3, rfl, rfl, rfl, rfl, rfl⟩)
  exact ⟨s9', s16', s17', s21', s22', q1, q2, q3, q4, q5, rfl⟩
theorem k28_lots (k : Nat) (s0 s1 s2 s4 s5 s6 s7 s8 s9 s11 s12 s13 s14 s15 s16 s17 s18 s19 s20 s21 s22 s23 : Slot) (h5 : JO s5) (h9 : JO s9) (h16 : JI s16) (h17 : JO s17) (h21 : JO s21) (h22 : JO s22) (R : List (List (List Nat))) (hq : ∀ l ∈ R, ∀ q ∈ l, ROk m.n q ∧ q.length = 2) (hc : ∀ l ∈ R, ∀ q ∈ l, ∀ y, y < m.wide → behind m y q ∈ l) : ∃ s5' s9' s16' s17' s21' s22' : Slot, JO s5' ∧ JO s9' ∧ JI s16' ∧ JO s17' ∧ JO s21' ∧ JO s22' ∧
    forL (.nm 5) (evSs (run T (k + 30)) b_law_k28_l4) (R.map encR)
      [s0, s1, s2, .im (encM m), s4, s5, s6, s7, s8, s9, .im (nI m.wide), s11, s12, s13, s14, s15, s16, s17, s18, s19, s20, s21, s22, s23] =
      .ok .nx [s0, s1, s2, .im (encM m), s4, s5', s6, s7, s8, s9', .im (nI m.wide), s11, s12, s13, s14, s15, s16', s17', s18, s19, s20, s21', s22', s23] := by
  generalize hF : forL _ _ _ _ = o
  obtain ⟨e', rfl, s5', s9', s16', s17', s21', s22', q0, q1, q2, q3, q4, q5, rfl⟩ := forL_wp hF (fun pre e => ∃ s5' s9' s16' s17' s21' s22' : Slot, JO s5' ∧ JO s9' ∧ JI s16' ∧ JO s17' ∧ JO s21' ∧ JO s22' ∧ e = [s0, s1, s2, .im (encM m), s4, s5', s6, s7, s8, s9', .im (nI m.wide), s11, s12, s13, s14, s15, s16', s17', s18, s19, s20, s21', s22', s23]) ⟨s5, s9, s16, s17, s21, s22, h5, h9, h16, h17, h21, h22, rfl⟩ (by
    rintro pre l post hl e ⟨s5', s9', s16', s17', s21', s22', q0, q1, q2, q3, q4, q5, rfl⟩
    clear hF
    have hlR : l ∈ R := hl ▸ by simp
    obtain ⟨t9, t16, t17, t21, t22, r1, r2, r3, r4, r5, r6⟩ := k28_pairs M k s0 s1 s2 s4 s6 s7 s8 s9' s11 s12 s13 s14 s15 s16' s17' s18 s19 s20 s21' s22' s23 q1 q2 q3 q4 q5 l (hq l hlR) (hc l hlR)
    simp [b_law_k28_l4, q0, r6]
    exact ⟨_, JO_im _, _, r1, _, r2, _, r3, _, r4, _, r5, rfl, rfl, rfl, rfl, rfl, rfl⟩)
  exact ⟨s5', s9', s16', s17', s21', s22', q0, q1, q2, q3, q4, q5, rfl⟩
omit M in
theorem inB_bools {α : Type} (b : Bool) (f : α → Bool) (l : List α) : inB (.bool b) (.list (l.map fun a => .bool (f a))) = some (l.any fun a => f a == b) := by
  have h1 : shp (.bool b) = true := by simp [shp, PyData.plain, PyData.depth]
  have h3 : PyData.depthAll (l.map fun a => PyData.bool (f a)) ≤ 0 := (depthAll_iff 0 (l.map fun a => PyData.bool (f a))).2 fun d hd => by
    obtain ⟨a, _, rfl⟩ := List.mem_map.1 hd; exact Nat.le_refl _
  have h4 : PyData.plainAll (l.map fun a => PyData.bool (f a)) = true := (plainAll_iff _).2 fun d hd => by
    obtain ⟨a, _, rfl⟩ := List.mem_map.1 hd; rfl
  have h5 : PyData.depth (.list (l.map fun a => PyData.bool (f a))) ≤ 64 := by
    rw [PyData.depth]
    exact Nat.le_trans (Nat.add_le_add_right h3 1) (by decide)
  have h2 : shp (.list (l.map fun a => .bool (f a))) = true := by
    unfold shp
    rw [PyData.plain, h4, decide_eq_true h5]
    rfl
  simp only [inB, h1, h2, Bool.and_self, if_true, List.any_map]
  congr 2
open Classical in
theorem k28_marks (k : Nat) (s0 s1 s2 s4 s5 s6 s7 s8 s9 s10 s11 s12 s13 s14 s15 s16 s17 s18 s19 s20 s21 s22 s23 : Slot) (h5 : JO s5) (h16 : JI s16) (h17 : JO s17) (h18 : JO s18) (hn3 : m.n ≤ 3) (R : List (List (List Nat))) (hq : ∀ l ∈ R, ∀ q ∈ l, ROk m.n q ∧ q.length = 2) (hlz : ∀ l ∈ R, l.length ≤ sz) (hu : ∀ l ∈ R, ∀ q ∈ l, ∀ p ∈ l, Nothing m (wordOf q) → Nothing m (wordOf p)) : ∃ s5' s16' s17' s18' : Slot, JO s5' ∧ JI s16' ∧ JO s17' ∧ JO s18' ∧
    forL (.nm 5) (evSs (run T (k + 30)) b_law_k28_l7) (R.map encR)
      [s0, s1, s2, .im (encM m), s4, s5, s6, s7, s8, s9, s10, s11, s12, s13, s14, s15, s16, s17, s18, s19, s20, s21, s22, s23] =
      .ok .nx [s0, s1, s2, .im (encM m), s4, s5', s6, s7, s8, s9, s10, s11, s12, s13, s14, s15, s16', s17', s18', s19, s20, s21, s22, s23] := by
  generalize hF : forL _ _ _ _ = o
  obtain ⟨e', rfl, s5', s16', s17', s18', q0, q1, q2, q3, rfl⟩ := forL_wp hF (fun pre e => ∃ s5' s16' s17' s18' : Slot, JO s5' ∧ JI s16' ∧ JO s17' ∧ JO s18' ∧ e = [s0, s1, s2, .im (encM m), s4, s5', s6, s7, s8, s9, s10, s11, s12, s13, s14, s15, s16', s17', s18', s19, s20, s21, s22, s23]) ⟨s5, s16, s17, s18, h5, h16, h17, h18, rfl⟩ (by
    rintro pre l post hl e ⟨s5', s16', s17', s18', q0, q1, q2, q3, rfl⟩
    clear hF
    have hlR : l ∈ R := hl ▸ by simp
    have e1 : ∀ q, InL q l → q.length = 2 := fun q hq' => (hq l hlR q hq'.mem).2
    have e2 : ∀ q, InL q l → run T (k + 30) F_is_nothing [] [encM m, encW (wordOf q)] = .ok (.bool (decide (Nothing m (wordOf q)))) false [] := fun q hq' => by
      obtain ⟨g1, g2⟩ := hq l hlR q hq'.mem
      exact is_nothing_ok M (k + 23) (wordOf_ok g1) (by simp [g2]) (few_parts M g1 hn3 g2)
    have hinc : ∀ q : List Nat, (q.map fun (a : Nat) => PyData.int ((a : Int) + 1)) = (wordOf q).map PyData.int := fun q => wordOf_inc q
    have hb := fun b => inB_bools b (fun q => decide (Nothing m (wordOf q))) l
    have hlz' := hlz l hlR
    have hand : ((l.any fun q => decide (Nothing m (wordOf q)) == true) && (l.any fun q => decide (Nothing m (wordOf q)) == false)) = false := by
      cases h1 : (l.any fun q => decide (Nothing m (wordOf q)) == true) with
      | false => rfl
      | true =>
        cases h2 : (l.any fun q => decide (Nothing m (wordOf q)) == false) with
        | false => rfl
        | true =>
          exfalso
          obtain ⟨q, hq1, hq2⟩ := List.any_eq_true.1 h1
          obtain ⟨p, hp1, hp2⟩ := List.any_eq_true.1 h2
          simp at hq2 hp2
          exact hp2 (hu l hlR q hq1 p hp1 hq2)
    simp +contextual [b_law_k28_l7, q0, q1, q2, q3, e1, e2, hinc, hlz', hb, -List.any_map]
    exact ⟨fun q hq1 hN => ⟨fun p hp => hu l hlR q hq1 p hp hN, fun _ => ⟨_, JO_im _, _, q1, _, JO_frz q2, _, JO_ow _, rfl, rfl, rfl, rfl⟩⟩, fun _ => ⟨_, JO_im _, _, q1, _, JO_frz q2, _, JO_ow _, rfl, rfl, rfl, rfl⟩⟩)
  exact ⟨s5', s16', s17', s18', q0, q1, q2, q3, rfl⟩
end
def k28I (n : Nat) (s0 : Slot) (e : VEnv) : Prop := ∃ (s2 s3 s4 s5 s6 s7 s8 s9 s10 s11 s12 s13 s14 s15 s16 s17 s18 s19 s20 s21 s22 s23 : Slot) (d : D), Tin n d ∧ JO s2 ∧ JO s3 ∧ JO s4 ∧ JO s5 ∧ JO s6 ∧ JO s7 ∧ JO s8 ∧ JO s9 ∧ JO s10 ∧ JO s11 ∧ JO s12 ∧ JO s13 ∧ JO s14 ∧ JO s15 ∧ JI s16 ∧ JO s17 ∧ JO s18 ∧ JO s19 ∧ JO s20 ∧ JO s21 ∧ JO s22 ∧ JO s23 ∧
  e = [s0, .ow d, s2, s3, s4, s5, s6, s7, s8, s9, s10, s11, s12, s13, s14, s15, s16, s17, s18, s19, s20, s21, s22, s23]
/-- one lap of the law -/
theorem k28_lap (k : Nat) (n : Nat) (s0 s2 s3 s4 s5 s6 s7 s8 s9 s10 s11 s12 s13 s14 s15 s16 s17 s18 s19 s20 s21 s22 s23 : Slot) (d : D) (ht : Tin (n + 1000) d) (h2 : JO s2) (h3 : JO s3) (h4 : JO s4) (h5 : JO s5) (h6 : JO s6) (h7 : JO s7) (h8 : JO s8) (h9 : JO s9) (h10 : JO s10) (h11 : JO s11) (h12 : JO s12) (h13 : JO s13) (h14 : JO s14) (h15 : JO s15) (h16 : JI s16) (h17 : JO s17) (h18 : JO s18) (h19 : JO s19) (h20 : JO s20) (h21 : JO s21) (h22 : JO s22) (h23 : JO s23) :
    Wp (evSs (run T (k + 39)) b_law_k28_l1 [s0, .ow d, s2, s3, s4, s5, s6, s7, s8, s9, s10, s11, s12, s13, s14, s15, s16, s17, s18, s19, s20, s21, s22, s23]) fun f e => (f = .nx ∨ f = .cont) ∧ k28I n s0 e := by
  obtain ⟨m, d1, e1, ht1, M, hcm, hw3, hn2, hn3⟩ := law_turned_ok (k + 34) d (n + 900) (ht.mono (by omega))
  have hw2 := M.w2
  obtain ⟨x, d2, e2, hx, ht2⟩ := law_take_ok (k + 38) d1 (n + 800) m.wide (by omega) (by omega) (ht1.mono (by omega))
  have FM := mirror_ok M hcm hn2 (by omega)
  have el := law_lists_run 4 (k + 34) (encM m) M.is.2
  have em := machine_mirrored_run M (k + 31) (lstD (encM m)) (sure_machine_lst M (k + 32)) hcm hn2 (by omega)
  have hp3 : m.n ^ 3 ≤ 27 := Nat.pow_le_pow_left hn3 3
  have er := law_rows_ok (k + 37) m.n 3 (by omega) (Nat.le_trans hp3 (by decide)) (by decide) (Nat.le_trans hn3 (by decide))
  obtain ⟨t5, t16, t19, t20, q5, q16, q19, q20, hdue⟩ := k28_dues M (k + 39) s0 (.ow d2) s2 (.im (encM m.mirror)) s5 s6 s7 s8 s9 (.im (nI m.wide)) (.im (nI m.n)) (.im (.int 3)) s16 s17 s18 s19 s20 s21 s22 s23 h5 h16 h19 h20 x hx 3 (by omega) (by decide)
  rw [b_law_k28_l1]
  have er' : run T (k + 39) F_law_rows [] [nI m.n, .int 3] = .ok (.list ((rowsL m.n 3).map encN)) true [] := er
  have e1' : run T (k + 39) F_law_turned [0] [d] = .ok (encM m) false [d1] := e1
  have hlen : (m.sts.length : Int) = (m.n : Int) := rfl
  have hlen' : nI m.sts.length = nI m.n := rfl
  have e2' : run T (k + 39) F_law_take [0] [d1, nI m.wide] = .ok (nI x) false [d2] := e2
  generalize lstD (encM m) = D1 at el em
  -- the SHUFFLE
  have hlv : lvS m.mirror [(x : Int) + 1] 3 = ((rowsL m.n 3).map (behind m x)).map (numR m.n) := by
    unfold lvS
    rw [List.map_map]
    refine List.map_congr_left fun r hr => ?_
    have := mem_rowsL.1 hr
    show numR m.n (m.mirror.ledU [(x : Int) + 1] r) = numR m.n (behind m x r)
    rw [mirror_led M r x hx this.2]
  have hwx : WdOk m.mirror [(x : Int) + 1] := fun a ha => by
    simp at ha; subst ha
    have : m.mirror.n = m.wide := by simp [Mac.mirror, Mac.n]
    omega
  have els : run T (k + 39) F_level_shuffle [] [encM m.mirror, .tuple [.int ((x : Int) + 1)], .int 3] = .ok (encN (lvS m.mirror [(x : Int) + 1] 3)) false [] :=
    level_shuffle_ok FM (k + 30) [(x : Int) + 1] 3 hwx (by simp) (Nat.le_trans hp3 (by decide)) (by decide)
  rw [hlv] at els
  have hduel : (((rowsL m.n 3).map (behind m x)).map (numR m.n)).length ≤ sz := by simp [rowsL_length]; exact Nat.le_trans hp3 (by decide)
  generalize ((rowsL m.n 3).map (behind m x)).map (numR m.n) = due at *
  have hs1 := law_same_refl 3 (k + 35) (.list [encN due, .bool true]) (by simp [hduel])
  have etn : run T (k + 39) F_is_turnable [] [encM m] = .ok (.bool true) false [] := by
    have := is_turnable_ok M (k + 32); rwa [hcm] at this
  -- the lots
  have hp2 : m.n ^ 2 ≤ 9 := Nat.pow_le_pow_left hn3 2
  have hfn : m.mirror.n = m.wide := by simp [Mac.mirror, Mac.n]
  obtain ⟨R, er1, er2⟩ := row_lots FM (k + 32) 2 (Nat.le_trans hp2 (by decide))
  have elo : run T (k + 39) F_level_lots [] [encM m.mirror, .int 2] = .ok (.list (R.map encR)) true [] := level_lots_of FM (k + 30) 2 _ er1 (Nat.le_trans hp2 (by decide)) (by decide)
  have hrow : ∀ l ∈ R, ∀ q ∈ l, ROk m.n q ∧ q.length = 2 := fun l hl q hq => ⟨(er2.row hl hq).2, (er2.row hl hq).1⟩
  have hcl : ∀ l ∈ R, ∀ q ∈ l, ∀ y, y < m.wide → behind m y q ∈ l := fun l hl q hq y hy => by
    have := er2.cl l hl q hq y (by rw [hfn]; exact hy)
    rwa [mirror_led M q y hy (hrow l hl q hq).1] at this
  have hRl : R.flatten.length = m.n ^ 2 := by rw [er2.perm.length_eq, rowsL_length]; rfl
  have hlz : ∀ l ∈ R, l.length ≤ sz := fun l hl => by
    have : l.length ≤ R.flatten.length := (List.sublist_flatten_of_mem hl).length_le
    exact Nat.le_trans this (by rw [hRl]; exact Nat.le_trans hp2 (by decide))
  have hRz : R.length ≤ 9 := by
    have := flatten_len R fun l hl => er2.ne l hl
    omega
  obtain ⟨u5, u9, u16, u17, u21, u22, v5, v9, v16, v17, v21, v22, hlots⟩ := k28_lots M (k + 9) s0 (.ow d2) s2 (.im (encM m.mirror)) t5 (.im (.list (R.map encR))) s7 s8 s9 (.im (nI m.n)) (.im (nI x)) (.im (.int 3)) (.im (.list ((rowsL m.n 3).map encN))) (.ow (.list (due.map nI))) t16 s17 s18 t19 t20 s21 s22 s23 q5 h9 q16 h17 h21 h22 R hrow hcl
  simp only [Nat.add_assoc, Nat.reduceAdd] at hlots
  -- all rows; one lot
  have hfl := law_flat_ok (k + 38) (fun l : List (List Nat) => l.map encN) R .list (.inl rfl) (by
    have : (R.flatMap fun l => l.map encN) = R.flatten.map encN := by rw [List.map_flatten, List.flatMap_def]
    rw [this, List.length_map, hRl]; exact Nat.le_trans hp2 (by decide))
  have hfm : (R.flatMap fun l => l.map encN) = R.flatten.map encN := by rw [List.map_flatten, List.flatMap_def]
  rw [hfm] at hfl
  have hso : sortOk (R.flatten.map encN) = true := by
    have := sortOk_rows (R.flatten.map fun r => r.map fun (n : Nat) => (n : Int)) (by rw [List.length_map, hRl]; exact Nat.lt_of_le_of_lt hp2 (by decide))
    rw [List.map_map] at this
    simpa [Function.comp_def] using this
  have hsd : sortD (R.flatten.map encN) = (rowsL m.n 2).map encN := rowsL_sorted er2.perm
  have er3 : run T (k + 39) F_law_rows [] [nI m.n, .int 2] = .ok (.list ((rowsL m.n 2).map encN)) true [] := law_rows_ok (k + 37) m.n 2 (by omega) (Nat.le_trans hp2 (by decide)) (by decide) (Nat.le_trans hn3 (by decide))
  generalize R.flatten.map encN = FD at hfl hso hsd
  obtain ⟨R1, er4, er5⟩ := row_lots FM (k + 32) 1 (by rw [Nat.pow_one]; show m.n ≤ 1024; omega)
  have el1 : run T (k + 39) F_level_lots [] [encM m.mirror, .int 1] = .ok (.list (R1.map encR)) true [] := level_lots_of FM (k + 30) 1 _ er4 (by rw [Nat.pow_one]; show m.n ≤ 1024; omega) (by decide)
  have eo1 : run T (k + 39) F_is_one_lot [] [encM m.mirror, .int 1] = .ok (.bool (decide ((R1.map encR).length = 1))) false [] := is_one_lot_of FM (k + 30) 1 _ er4 (by rw [Nat.pow_one]; show m.n ≤ 1024; omega) (by decide)
  have hone : ((R1.length : Int) = 1) = (R1.length = 1) := propext (by omega)
  have hs2 := law_same_refl 1 (k + 37) (.bool (decide (R1.length = 1))) (by simp)
  -- nothing, all or none
  have hRzz : R.length ≤ sz := Nat.le_trans hRz (by decide)
  obtain ⟨pk, d3, ep1, ht3, ep2, rest, ep3⟩ := law_pick_ok (k + 37) d2 (.list (R.map encR)) encR R 2 (n + 700) (by omega) (by decide) (.inl rfl) (ht2.mono (by omega))
  have ep1' : run T (k + 39) F_law_pick [0] [d2, .list (R.map encR), .int 2] = .ok (.list (pk.map encR)) true [d3] := ep1
  have hpk : ∀ l ∈ pk, l ∈ R := fun l hl => ep3.mem_iff.2 (List.mem_append_left _ hl)
  have huni : ∀ l ∈ R, ∀ q ∈ l, ∀ p ∈ l, Nothing m (wordOf q) → Nothing m (wordOf p) := er2.uni (fun q => Nothing m (wordOf q)) fun l hl q hq hN s hs => by
    have hs' : s < m.wide := by rw [hfn] at hs; exact hs
    have hqo := (hrow l hl q hq).1
    show Nothing m (wordOf (m.mirror.ledU [(s : Int) + 1] q))
    rw [mirror_led M q s hs' hqo]
    intro r hr
    have h1 := hN (s :: r) fun y hy => by
      rcases List.mem_cons.1 hy with rfl | hy
      · exact hs'
      · exact hr y hy
    have h2 : m.leadW (wordOf q) s :: m.ledU (m.nextW (wordOf q) s) r = s :: r := h1
    rw [(nextW_wordOf m q s).1] at h2
    exact (List.cons.inj h2).2
  obtain ⟨w5, w16, w17, w18, x5, x16, x17, x18, hmarks⟩ := k28_marks M (k + 9) s0 (.ow d3) s2 (.im (encM m.mirror)) (frz u5) (.im (.list (R.map encR))) s7 s8 u9 (.im (nI m.wide)) (.im (nI m.n)) (.im (nI x)) (.im (.int 3)) (.im (.list ((rowsL m.n 3).map encN))) (.ow (.list (due.map nI))) u16 u17 s18 t19 t20 u21 u22 s23 (JO_frz v5) v16 v17 h18 hn3 pk (fun l hl => hrow l (hpk l hl)) (fun l hl => hlz l (hpk l hl)) (fun l hl => huni l (hpk l hl))
  simp only [Nat.add_assoc, Nat.reduceAdd] at hmarks
  -- twice mirrored; back
  have emb : run T (k + 39) F_machine_back [] [encM m] = .ok (encM m.back) false [] := machine_back_ok M (k + 32)
  have emm : run T (k + 39) F_machine_mirrored [] [encM m.mirror] = .ok (encM m) false [] := by
    have := machine_mirrored_run FM (k + 31) (encM m.mirror) (sure_machine_ok FM (k + 32)) (mirror_canMir M hcm hn2 (by omega)) (by rw [hfn]; exact hw2) (by rw [hfn]; omega)
    rwa [mirror_mirror M] at this
  have ebw : run T (k + 39) F_is_both_ways [] [encM m] = .ok (.bool m.back.canMir) false [] := by
    have := is_both_ways_ok M (k + 32); rwa [hcm, Bool.true_and] at this
  have etb : run T (k + 39) F_is_turnable [] [encM m.back] = .ok (.bool m.back.canMir) false [] := is_turnable_ok M.back (k + 32)
  have hs3 : run T (k + 39) F_law_same [] [.list [encM m, .bool m.back.canMir], .list [encM m, .bool m.back.canMir]] = .ok (.bool true) false [] := law_same_refl 5 (k + 33) _ (by
    have h1 := M.is.2
    have h2 := M.n_sz
    have h3 : ∀ s ∈ m.sts, s.1.length ≤ sz ∧ s.2.length ≤ sz := fun s hs => by
      have := M.st s hs
      rw [this.ol, this.tl]; exact ⟨M.wide_sz, M.wide_sz⟩
    simp [h2]
    rintro _ a b hs rfl
    simp [h3 (a, b) hs])
  -- rows by words, words by rows
  obtain ⟨row, d4, ew1, ht4, ew2, ew3⟩ := law_row_ok M (k + 37) d3 4 (n + 600) (by decide) (ht3.mono (by omega))
  have ew1' : run T (k + 39) F_law_row [0] [d3, encM m, .int 4] = .ok (encN row) false [d4] := ew1
  simp [h3, h4, h6, h7, h8, h10, h11, h12, h13, h14, h15, e1', e2', el, em, hlen, hlen', er', hdue, crO_mk, els, etn, hs1, elo, hlots, v5, hRzz, hfl, hso, hsd, er3, el1, eo1, hone, hs2, ep1', hmarks, emb, emm, ebw, etb, hs3]
  simp [h8, ew1', -compM_map]
  have r3 := rng2D_nat 3 (by decide)
  have r3' : rng2D [.int 0, .int 3] = some ((List.range 3).map nI) := r3
  simp [r3', -compM_map]
  generalize hF : compM _ _ _ _ _ _ = o
  have hnz : m.n ≤ sz := Nat.le_trans hn3 (by decide)
  obtain ⟨q, d5, rfl, ht5, hq1, hq2⟩ := comp_draw hF (fun d => [s0, .ow d, s2, .im (encM m), .im (encM m.mirror), w5, .im (.list (R.map encR)), .im (encM m.back), .im (encN row), u9, .im (nI m.wide), .im (nI m.n), .im (nI x), .im (.int 3), .im (.list ((rowsL m.n 3).map encN)), .ow (.list (due.map nI)), .no, w17, w18, t19, t20, u21, u22, s23]) n 100 (fun _ (s : Nat) => s < m.n) (fun s : Nat => .int (1 + (s : Int))) d4 (by simp [x16]; rfl) rfl (by simp) (ht4.mono (by simp)) (by
    intro b hb d N ht
    obtain ⟨r, d', f1, f2, f3⟩ := law_take_ok (k + 38) d N m.n (by omega) (by omega) (ht.mono (by omega))
    have f1' : run T (k + 39) F_law_take [0] [d, nI m.n] = .ok (nI r) false [d'] := f1
    have hW : Wp (stepO (.nm 16) (condM (run T (k + 39)) none) (fzM (evE (run T (k + 39)) (.bin .add (.cst (.int 1)) (.call F_law_take [0] [.var 1, .var 11])))) (nI b) [s0, .ow d, s2, .im (encM m), .im (encM m.mirror), w5, .im (.list (R.map encR)), .im (encM m.back), .im (encN row), u9, .im (nI m.wide), .im (nI m.n), .im (nI x), .im (.int 3), .im (.list ((rowsL m.n 3).map encN)), .ow (.list (due.map nI)), .no, w17, w18, t19, t20, u21, u22, s23])
        fun v e' => v = some (.int (1 + (r : Int))) ∧ wipeE [16] e' = [s0, .ow d', s2, .im (encM m), .im (encM m.mirror), w5, .im (.list (R.map encR)), .im (encM m.back), .im (encN row), u9, .im (nI m.wide), .im (nI m.n), .im (nI x), .im (.int 3), .im (.list ((rowsL m.n 3).map encN)), .ow (.list (due.map nI)), .no, w17, w18, t19, t20, u21, u22, s23] := by
      simp [f1']
    obtain ⟨v, e', g1, rfl, g2⟩ := hW.ex
    exact ⟨r, d', e', g1, g2, f2, f3⟩)
  have hqo : ROk m.n q := fun s hs => by
    obtain ⟨i, hi, rfl⟩ := List.mem_iff_getElem.1 hs
    have hi3 : i < 3 := by rw [hq1] at hi; simpa using hi
    exact hq2 i i _ (List.getElem?_range hi3) (List.getElem?_eq_getElem hi)
  have hql : q.length = 3 := by rw [hq1]; simp
  have hqw : (q.map fun s : Nat => PyData.int (1 + (s : Int))) = (wordOf q).map .int := by
    simp [wordOf, Function.comp_def]
    intro a _; omega
  have hrw := wordOf_inc row
  have hqd := wordOf_dec q
  obtain ⟨hmp, hmo⟩ := mirror_part M row q ew3 hqo
  have hpd := wordOf_dec (m.mirror.ledU (wordOf row) q)
  have eled : run T (k + 39) F_row_led [] [encM m.mirror, encW (wordOf row), encN q] = .ok (encN (m.mirror.ledU (wordOf row) q)) false [] :=
    row_led_ok FM (k + 32) (wordOf row) q (wordOf_ok (by rw [hfn]; exact ew3)) (by simp [ew2]) hqo (by omega)
  have epart : run T (k + 39) F_law_part [] [encM m, encW (wordOf q), encN row] = .ok (encW (wordOf (m.mirror.ledU (wordOf row) q))) false [] := by
    have := law_part_ok M (k + 36) (wordOf q) row (wordOf_ok hqo) (by simp [hql]) ew3
    rwa [hmp] at this
  have hs4 := law_same_refl 1 (k + 37) (encN (m.mirror.ledU (wordOf row) q)) (by simp [hql])
  simp [hqw, v9, x16, hrw, ew2, hql, hqd, eled, epart, hpd, hs4, h23]
  exact ⟨_, _, _, _, _, _, _, _, _, _, _, _, _, _, _, _, _, _, _, _, _, _, d5, ht5, h2, JO_im _, JO_im _, x5, JO_im _, JO_im _, JO_im _, JO_im _, JO_im _, JO_im _, JO_im _, JO_im _, JO_im _, JO_ow _, x16, x17, x18, q19, q20, v21, v22, JO_frz h23, rfl⟩
theorem law_k28_ok (k : Nat) (ns : List Int) (h : ns.length ≤ 63) : run T (k + 40) F_law_k28 [] [.list (ns.map .int)] = .ok (.bool true) false [] := by
  obtain ⟨c, hc⟩ := law_cells_ok (k + 38) ns h
  obtain ⟨d0, hb, ht0⟩ := law_box_ok (k + 38) c
  have r4 : rng2D [.int 0, .int 4] = some ((List.range 4).map nI) := rng2D_nat 4 (by decide)
  rw [run_law_k28, b_law_k28]
  simp [hc, hb, r4]
  generalize hF : forL _ _ _ _ = o
  obtain ⟨e', rfl, hI⟩ := forL_wp hF (fun pre e => k28I ((4 - pre.length) * 1000) (.im (.list (ns.map .int))) e) ⟨_, _, _, _, _, _, _, _, _, _, _, _, _, _, _, _, _, _, _, _, _, _, d0, ht0.mono (by decide), JO_no, JO_no, JO_no, JO_no, JO_no, JO_no, JO_no, JO_no, JO_no, JO_no, JO_no, JO_no, JO_no, JO_no, JI_no, JO_no, JO_no, JO_no, JO_no, JO_no, JO_no, JO_no, rfl⟩ (by
    rintro pre x post hl e ⟨s2, s3, s4, s5, s6, s7, s8, s9, s10, s11, s12, s13, s14, s15, s16, s17, s18, s19, s20, s21, s22, s23, d, ht, h2, h3, h4, h5, h6, h7, h8, h9, h10, h11, h12, h13, h14, h15, h16, h17, h18, h19, h20, h21, h22, h23, rfl⟩
    clear hF
    have hlen := congrArg List.length hl
    simp at hlen
    have hlap := k28_lap k ((4 - (pre.length + 1)) * 1000) (.im (.list (ns.map .int))) (.im (nI x)) s3 s4 s5 s6 s7 s8 s9 s10 s11 s12 s13 s14 s15 s16 s17 s18 s19 s20 s21 s22 s23 d (ht.mono (by omega)) (JO_im _) h3 h4 h5 h6 h7 h8 h9 h10 h11 h12 h13 h14 h15 h16 h17 h18 h19 h20 h21 h22 h23
    simp [h2]
    simpa using hlap)
  obtain ⟨s2, s3, s4, s5, s6, s7, s8, s9, s10, s11, s12, s13, s14, s15, s16, s17, s18, s19, s20, s21, s22, s23, d, ht, h2, h3, h4, h5, h6, h7, h8, h9, h10, h11, h12, h13, h14, h15, h16, h17, h18, h19, h20, h21, h22, h23, rfl⟩ := hI
  simp
end Ev
/-! text End_k28 -/
set_option Elab.async false
set_option linter.all false
set_option maxRecDepth 100000
set_option maxHeartbeats 0
namespace LawE
open PySem PySem.Spec PyProof.Rows L2 Ev
def fe_ (n : Str) (i : Nat) (ps : List Str) (io : List Nat) (dfl : List Int) : Str × Fe := (n, ⟨i, ps, io, dfl⟩)
def fes : List (Str × Fe) := [
  fe_ "is_number" F_is_number ["thing"] [] [],
  fe_ "is_within" F_is_within ["thing", "least", "most"] [] [],
  fe_ "is_long" F_is_long ["thing", "length"] [] [],
  fe_ "are_numbers" F_are_numbers ["thing"] [] [],
  fe_ "tupled" F_tupled ["value"] [] [],
  fe_ "sure_within" F_sure_within ["thing", "least", "most"] [] [],
  fe_ "is_shuffle_of" F_is_shuffle_of ["many", "thing"] [] [],
  fe_ "undone" F_undone ["shuffle"] [] [],
  fe_ "is_state_of" F_is_state_of ["wide", "many", "thing"] [] [],
  fe_ "is_machine_in" F_is_machine_in ["thing"] [] [],
  fe_ "sure_machine" F_sure_machine ["value"] [] [],
  fe_ "is_word_of" F_is_word_of ["machine", "thing"] [] [],
  fe_ "sure_word" F_sure_word ["machine", "value"] [] [],
  fe_ "is_row_of" F_is_row_of ["wide", "thing"] [] [],
  fe_ "sure_row" F_sure_row ["machine", "value"] [] [],
  fe_ "short_in" F_short_in ["word"] [] [],
  fe_ "step_in" F_step_in ["machine", "word", "letter"] [] [],
  fe_ "led_in" F_led_in ["machine", "word", "row"] [] [],
  fe_ "letters_led" F_letters_led ["machine", "word"] [] [],
  fe_ "row_led" F_row_led ["machine", "word", "row"] [] [],
  fe_ "part_at" F_part_at ["machine", "word", "row"] [] [],
  fe_ "back_of" F_back_of ["machine"] [] [],
  fe_ "machine_back" F_machine_back ["machine"] [] [],
  fe_ "mirror_of" F_mirror_of ["machine"] [] [],
  fe_ "can_mirror" F_can_mirror ["machine"] [] [],
  fe_ "is_turnable" F_is_turnable ["machine"] [] [],
  fe_ "is_both_ways" F_is_both_ways ["machine"] [] [],
  fe_ "machine_mirrored" F_machine_mirrored ["machine"] [] [],
  fe_ "how_many_rows" F_how_many_rows ["wide", "level"] [] [],
  fe_ "sure_height" F_sure_height ["value"] [] [],
  fe_ "sure_few" F_sure_few ["machine", "level", "most"] [] [],
  fe_ "rows_in" F_rows_in ["wide", "level"] [] [],
  fe_ "number_in" F_number_in ["wide", "row"] [] [],
  fe_ "shuffle_in" F_shuffle_in ["machine", "word", "level"] [] [],
  fe_ "lots_in" F_lots_in ["shuffles", "many"] [] [],
  fe_ "all_shuffles" F_all_shuffles ["machine", "level"] [] [],
  fe_ "sure_at" F_sure_at ["machine", "level"] [] [],
  fe_ "sure_word_at" F_sure_word_at ["machine", "word", "level"] [] [],
  fe_ "level_shuffle" F_level_shuffle ["machine", "word", "level"] [] [],
  fe_ "lots_at" F_lots_at ["machine", "level"] [] [],
  fe_ "level_lots" F_level_lots ["machine", "level"] [] [],
  fe_ "is_one_lot" F_is_one_lot ["machine", "level"] [] [],
  fe_ "closing_in" F_closing_in ["machine", "word"] [] [],
  fe_ "is_nothing_in" F_is_nothing_in ["machine", "word"] [] [],
  fe_ "is_nothing" F_is_nothing ["machine", "word"] [] [],
  fe_ "_law_box" F_law_box ["script", "k"] [] [],
  fe_ "_law_take" F_law_take ["tin", "below_so"] [0] [],
  fe_ "_law_cells" F_law_cells ["script", "most_so"] [] [],
  fe_ "_law_pick" F_law_pick ["tin", "goods_so", "count_so"] [0] [],
  fe_ "_law_lists" F_law_lists ["matter"] [] [],
  fe_ "_law_same" F_law_same ["got", "due"] [] [],
  fe_ "_law_flat" F_law_flat ["rows_so"] [] [],
  fe_ "_law_one" F_law_one ["machine_so", "k", "x"] [] [],
  fe_ "_law_step" F_law_step ["machine_so", "word_so", "x"] [] [],
  fe_ "_law_part" F_law_part ["machine_so", "word_so", "row_so"] [] [],
  fe_ "_law_rows" F_law_rows ["wide_so", "long_so"] [] [],
  fe_ "_law_shuffle" F_law_shuffle ["tin", "many_so"] [0] [],
  fe_ "_law_row" F_law_row ["tin", "machine_so", "long_so"] [0] [],
  fe_ "_law_turned" F_law_turned ["tin"] [0] [],
  fe_ "law" F_law_k28 ["script"] [] []]
def G : Gm := ⟨fes, [("LEAST_WIDE", 2), ("MOST_WIDE", 5), ("MOST_STATES", 12), ("MOST_WORD", 40), ("MOST_ROW", 40), ("MOST_LEVEL", 10), ("MOST_ROWS", 1024), ("MOST_WORDS", 5000)], ["abs", "all", "bool", "enumerate", "int", "isinstance", "len", "list", "min", "range", "sorted", "str", "tuple", "zip"]⟩
def Ns : List (List Str) := [
  (["thing"] : List Str),
  (["thing", "least", "most"] : List Str),
  (["thing", "length"] : List Str),
  (["thing", "own"] : List Str),
  (["value", "own"] : List Str),
  (["thing", "least", "most"] : List Str),
  (["many", "thing"] : List Str),
  (["shuffle", "found", "place", "own"] : List Str),
  (["wide", "many", "thing", "own"] : List Str),
  (["thing", "many", "own"] : List Str),
  (["value", "own"] : List Str),
  (["machine", "thing", "many", "own"] : List Str),
  (["machine", "value", "own"] : List Str),
  (["wide", "thing", "own"] : List Str),
  (["machine", "value", "own"] : List Str),
  (["word", "found", "own"] : List Str),
  (["machine", "word", "letter", "found", "own", "outs", "nexts"] : List Str),
  (["machine", "word", "row", "letter", "found", "here", "goal"] : List Str),
  (["machine", "word", "letter"] : List Str),
  (["machine", "word", "row", "own", "told"] : List Str),
  (["machine", "word", "row", "own", "told"] : List Str),
  (["machine", "states", "outs", "nexts", "turned", "own"] : List Str),
  (["machine"] : List Str),
  (["machine", "states", "letter", "own"] : List Str),
  (["machine", "many", "outs", "nexts"] : List Str),
  (["machine"] : List Str),
  (["machine", "own"] : List Str),
  (["machine", "own"] : List Str),
  (["wide", "level", "found", "lap"] : List Str),
  (["value"] : List Str),
  (["machine", "level", "most"] : List Str),
  (["wide", "level", "found", "lap", "later", "own", "letter"] : List Str),
  (["wide", "row", "found", "letter"] : List Str),
  (["machine", "word", "level", "row"] : List Str),
  (["shuffles", "many", "place", "found", "seen", "own", "line", "here", "shuffle", "goal"] : List Str),
  (["machine", "level", "number"] : List Str),
  (["machine", "level", "own", "many"] : List Str),
  (["machine", "word", "level", "own", "told", "many"] : List Str),
  (["machine", "word", "level", "own", "told", "many"] : List Str),
  (["machine", "level", "rows", "lot", "place"] : List Str),
  (["machine", "level", "own", "many"] : List Str),
  (["machine", "level", "own", "many"] : List Str),
  (["machine", "word", "still", "first", "rows", "known", "place", "led", "letter", "own", "row", "part", "its"] : List Str),
  (["machine", "word"] : List Str),
  (["machine", "word", "own"] : List Str),
  (["script", "k", "bit_so"] : List Str),
  (["tin", "below_so", "once_so", "wide_so", "twice_so", "drawn_so"] : List Str),
  (["script", "most_so", "cells_so", "k", "bit_so", "at_so"] : List Str),
  (["tin", "goods_so", "count_so", "lap", "pool_so", "found"] : List Str),
  (["matter", "bit"] : List Str),
  (["got", "due", "mine", "its"] : List Str),
  (["rows_so", "found", "own"] : List Str),
  (["machine_so", "k", "x", "y", "outs_so", "nexts_so"] : List Str),
  (["machine_so", "word_so", "x", "found", "own", "k"] : List Str),
  (["machine_so", "word_so", "row_so", "x"] : List Str),
  (["wide_so", "long_so", "found", "lap", "own", "x"] : List Str),
  (["tin", "many_so"] : List Str),
  (["tin", "machine_so", "long_so", "k"] : List Str),
  (["tin", "rows_so", "wide_so", "many_so", "x", "k"] : List Str),
  (["script", "tin", "lap", "machine_so", "far_so", "own", "lots_so", "back_so", "row_so", "word_so", "wide_so", "many_so", "x", "long_so", "words_so", "due", "k", "pair_so", "marks_so", "here", "behind_so", "y", "its", "a"] : List Str)]
theorem c0 : (cBody G ⟨Ns.getD 0 [], defScope (HeadL.top 5), none⟩ (defBody (HeadL.top 5))).map (·.1) = some b_is_number := by kernel_rfl
theorem sc0 : FnScope (Ns.getD 0 []) ["thing"] (defScope (HeadL.top 5)) := C8.fnScope_by (by decide +kernel)
theorem f0 {K : PySem.W.Frag} {mg : Str → Option Value} {h : Heap} (X : K.In h) (Gn : h.Ns mainGlobals mg) (c : He.SaysD HeadL.fa HeadL.fn K) : FnFact K mg G T "is_number" ⟨F_is_number, ["thing"], [], []⟩ := by
  obtain ⟨fd, F⟩ := c.def_ 0 (d := HeadL.dd "is_number" 5 []) rfl
  exact ⟨_, _, _, _, _, _, _, fd, Ns.getD 0 [], ⟨1, 1, [], b_is_number⟩, F, He.glo_ok X Gn (c.fact 0 (f := .glo "is_number") rfl), sc0, by kernel_rfl, rfl, rfl, rfl, ssOk_of c0, fun _ => F.bindsN fun _ _ _ _ _ _ us hl => match us, hl with | [_], _ => rfl, fun _ => kwA F fun _ _ _ _ _ _ ws hl => match ws, hl with | [_], _ => by kernel_rfl, fun j h => absurd h (by decide)⟩
theorem c1 : (cBody G ⟨Ns.getD 1 [], defScope (HeadL.top 6), none⟩ (defBody (HeadL.top 6))).map (·.1) = some b_is_within := by kernel_rfl
theorem sc1 : FnScope (Ns.getD 1 []) ["thing", "least", "most"] (defScope (HeadL.top 6)) := C8.fnScope_by (by decide +kernel)
theorem f1 {K : PySem.W.Frag} {mg : Str → Option Value} {h : Heap} (X : K.In h) (Gn : h.Ns mainGlobals mg) (c : He.SaysD HeadL.fa HeadL.fn K) : FnFact K mg G T "is_within" ⟨F_is_within, ["thing", "least", "most"], [], []⟩ := by
  obtain ⟨fd, F⟩ := c.def_ 1 (d := HeadL.dd "is_within" 6 []) rfl
  exact ⟨_, _, _, _, _, _, _, fd, Ns.getD 1 [], ⟨3, 3, [], b_is_within⟩, F, He.glo_ok X Gn (c.fact 1 (f := .glo "is_within") rfl), sc1, by kernel_rfl, rfl, rfl, rfl, ssOk_of c1, fun _ => F.bindsN fun _ _ _ _ _ _ us hl => match us, hl with | [_, _, _], _ => rfl, fun _ => kwA F fun _ _ _ _ _ _ ws hl => match ws, hl with | [_, _, _], _ => by kernel_rfl, fun j h => absurd h (by decide)⟩
theorem c2 : (cBody G ⟨Ns.getD 2 [], defScope (HeadL.top 7), none⟩ (defBody (HeadL.top 7))).map (·.1) = some b_is_long := by kernel_rfl
theorem sc2 : FnScope (Ns.getD 2 []) ["thing", "length"] (defScope (HeadL.top 7)) := C8.fnScope_by (by decide +kernel)
theorem f2 {K : PySem.W.Frag} {mg : Str → Option Value} {h : Heap} (X : K.In h) (Gn : h.Ns mainGlobals mg) (c : He.SaysD HeadL.fa HeadL.fn K) : FnFact K mg G T "is_long" ⟨F_is_long, ["thing", "length"], [], []⟩ := by
  obtain ⟨fd, F⟩ := c.def_ 2 (d := HeadL.dd "is_long" 7 []) rfl
  exact ⟨_, _, _, _, _, _, _, fd, Ns.getD 2 [], ⟨2, 2, [], b_is_long⟩, F, He.glo_ok X Gn (c.fact 2 (f := .glo "is_long") rfl), sc2, by kernel_rfl, rfl, rfl, rfl, ssOk_of c2, fun _ => F.bindsN fun _ _ _ _ _ _ us hl => match us, hl with | [_, _], _ => rfl, fun _ => kwA F fun _ _ _ _ _ _ ws hl => match ws, hl with | [_, _], _ => by kernel_rfl, fun j h => absurd h (by decide)⟩
theorem c3 : (cBody G ⟨Ns.getD 3 [], defScope (HeadL.top 8), none⟩ (defBody (HeadL.top 8))).map (·.1) = some b_are_numbers := by kernel_rfl
theorem sc3 : FnScope (Ns.getD 3 []) ["thing"] (defScope (HeadL.top 8)) := C8.fnScope_by (by decide +kernel)
theorem f3 {K : PySem.W.Frag} {mg : Str → Option Value} {h : Heap} (X : K.In h) (Gn : h.Ns mainGlobals mg) (c : He.SaysD HeadL.fa HeadL.fn K) : FnFact K mg G T "are_numbers" ⟨F_are_numbers, ["thing"], [], []⟩ := by
  obtain ⟨fd, F⟩ := c.def_ 3 (d := HeadL.dd "are_numbers" 8 []) rfl
  exact ⟨_, _, _, _, _, _, _, fd, Ns.getD 3 [], ⟨2, 1, [], b_are_numbers⟩, F, He.glo_ok X Gn (c.fact 3 (f := .glo "are_numbers") rfl), sc3, by kernel_rfl, rfl, rfl, rfl, ssOk_of c3, fun _ => F.bindsN fun _ _ _ _ _ _ us hl => match us, hl with | [_], _ => rfl, fun _ => kwA F fun _ _ _ _ _ _ ws hl => match ws, hl with | [_], _ => by kernel_rfl, fun j h => absurd h (by decide)⟩
theorem c4 : (cBody G ⟨Ns.getD 4 [], defScope (HeadL.top 9), none⟩ (defBody (HeadL.top 9))).map (·.1) = some b_tupled := by kernel_rfl
theorem sc4 : FnScope (Ns.getD 4 []) ["value"] (defScope (HeadL.top 9)) := C8.fnScope_by (by decide +kernel)
theorem f4 {K : PySem.W.Frag} {mg : Str → Option Value} {h : Heap} (X : K.In h) (Gn : h.Ns mainGlobals mg) (c : He.SaysD HeadL.fa HeadL.fn K) : FnFact K mg G T "tupled" ⟨F_tupled, ["value"], [], []⟩ := by
  obtain ⟨fd, F⟩ := c.def_ 4 (d := HeadL.dd "tupled" 9 []) rfl
  exact ⟨_, _, _, _, _, _, _, fd, Ns.getD 4 [], ⟨2, 1, [], b_tupled⟩, F, He.glo_ok X Gn (c.fact 4 (f := .glo "tupled") rfl), sc4, by kernel_rfl, rfl, rfl, rfl, ssOk_of c4, fun _ => F.bindsN fun _ _ _ _ _ _ us hl => match us, hl with | [_], _ => rfl, fun _ => kwA F fun _ _ _ _ _ _ ws hl => match ws, hl with | [_], _ => by kernel_rfl, fun j h => absurd h (by decide)⟩
theorem c5 : (cBody G ⟨Ns.getD 5 [], defScope (HeadL.top 10), none⟩ (defBody (HeadL.top 10))).map (·.1) = some b_sure_within := by kernel_rfl
theorem sc5 : FnScope (Ns.getD 5 []) ["thing", "least", "most"] (defScope (HeadL.top 10)) := C8.fnScope_by (by decide +kernel)
theorem f5 {K : PySem.W.Frag} {mg : Str → Option Value} {h : Heap} (X : K.In h) (Gn : h.Ns mainGlobals mg) (c : He.SaysD HeadL.fa HeadL.fn K) : FnFact K mg G T "sure_within" ⟨F_sure_within, ["thing", "least", "most"], [], []⟩ := by
  obtain ⟨fd, F⟩ := c.def_ 5 (d := HeadL.dd "sure_within" 10 []) rfl
  exact ⟨_, _, _, _, _, _, _, fd, Ns.getD 5 [], ⟨3, 3, [], b_sure_within⟩, F, He.glo_ok X Gn (c.fact 5 (f := .glo "sure_within") rfl), sc5, by kernel_rfl, rfl, rfl, rfl, ssOk_of c5, fun _ => F.bindsN fun _ _ _ _ _ _ us hl => match us, hl with | [_, _, _], _ => rfl, fun _ => kwA F fun _ _ _ _ _ _ ws hl => match ws, hl with | [_, _, _], _ => by kernel_rfl, fun j h => absurd h (by decide)⟩
theorem c6 : (cBody G ⟨Ns.getD 6 [], defScope (HeadL.top 11), none⟩ (defBody (HeadL.top 11))).map (·.1) = some b_is_shuffle_of := by kernel_rfl
theorem sc6 : FnScope (Ns.getD 6 []) ["many", "thing"] (defScope (HeadL.top 11)) := C8.fnScope_by (by decide +kernel)
theorem f6 {K : PySem.W.Frag} {mg : Str → Option Value} {h : Heap} (X : K.In h) (Gn : h.Ns mainGlobals mg) (c : He.SaysD HeadL.fa HeadL.fn K) : FnFact K mg G T "is_shuffle_of" ⟨F_is_shuffle_of, ["many", "thing"], [], []⟩ := by
  obtain ⟨fd, F⟩ := c.def_ 6 (d := HeadL.dd "is_shuffle_of" 11 []) rfl
  exact ⟨_, _, _, _, _, _, _, fd, Ns.getD 6 [], ⟨2, 2, [], b_is_shuffle_of⟩, F, He.glo_ok X Gn (c.fact 6 (f := .glo "is_shuffle_of") rfl), sc6, by kernel_rfl, rfl, rfl, rfl, ssOk_of c6, fun _ => F.bindsN fun _ _ _ _ _ _ us hl => match us, hl with | [_, _], _ => rfl, fun _ => kwA F fun _ _ _ _ _ _ ws hl => match ws, hl with | [_, _], _ => by kernel_rfl, fun j h => absurd h (by decide)⟩
theorem c7 : (cBody G ⟨Ns.getD 7 [], defScope (HeadL.top 12), none⟩ (defBody (HeadL.top 12))).map (·.1) = some b_undone := by kernel_rfl
theorem sc7 : FnScope (Ns.getD 7 []) ["shuffle"] (defScope (HeadL.top 12)) := C8.fnScope_by (by decide +kernel)
theorem f7 {K : PySem.W.Frag} {mg : Str → Option Value} {h : Heap} (X : K.In h) (Gn : h.Ns mainGlobals mg) (c : He.SaysD HeadL.fa HeadL.fn K) : FnFact K mg G T "undone" ⟨F_undone, ["shuffle"], [], []⟩ := by
  obtain ⟨fd, F⟩ := c.def_ 7 (d := HeadL.dd "undone" 12 []) rfl
  exact ⟨_, _, _, _, _, _, _, fd, Ns.getD 7 [], ⟨4, 1, [], b_undone⟩, F, He.glo_ok X Gn (c.fact 7 (f := .glo "undone") rfl), sc7, by kernel_rfl, rfl, rfl, rfl, ssOk_of c7, fun _ => F.bindsN fun _ _ _ _ _ _ us hl => match us, hl with | [_], _ => rfl, fun _ => kwA F fun _ _ _ _ _ _ ws hl => match ws, hl with | [_], _ => by kernel_rfl, fun j h => absurd h (by decide)⟩
theorem c8 : (cBody G ⟨Ns.getD 8 [], defScope (HeadL.top 19), none⟩ (defBody (HeadL.top 19))).map (·.1) = some b_is_state_of := by kernel_rfl
theorem sc8 : FnScope (Ns.getD 8 []) ["wide", "many", "thing"] (defScope (HeadL.top 19)) := C8.fnScope_by (by decide +kernel)
theorem f8 {K : PySem.W.Frag} {mg : Str → Option Value} {h : Heap} (X : K.In h) (Gn : h.Ns mainGlobals mg) (c : He.SaysD HeadL.fa HeadL.fn K) : FnFact K mg G T "is_state_of" ⟨F_is_state_of, ["wide", "many", "thing"], [], []⟩ := by
  obtain ⟨fd, F⟩ := c.def_ 8 (d := HeadL.dd "is_state_of" 19 []) rfl
  exact ⟨_, _, _, _, _, _, _, fd, Ns.getD 8 [], ⟨4, 3, [], b_is_state_of⟩, F, He.glo_ok X Gn (c.fact 8 (f := .glo "is_state_of") rfl), sc8, by kernel_rfl, rfl, rfl, rfl, ssOk_of c8, fun _ => F.bindsN fun _ _ _ _ _ _ us hl => match us, hl with | [_, _, _], _ => rfl, fun _ => kwA F fun _ _ _ _ _ _ ws hl => match ws, hl with | [_, _, _], _ => by kernel_rfl, fun j h => absurd h (by decide)⟩
theorem c9 : (cBody G ⟨Ns.getD 9 [], defScope (HeadL.top 20), none⟩ (defBody (HeadL.top 20))).map (·.1) = some b_is_machine_in := by kernel_rfl
theorem sc9 : FnScope (Ns.getD 9 []) ["thing"] (defScope (HeadL.top 20)) := C8.fnScope_by (by decide +kernel)
theorem f9 {K : PySem.W.Frag} {mg : Str → Option Value} {h : Heap} (X : K.In h) (Gn : h.Ns mainGlobals mg) (c : He.SaysD HeadL.fa HeadL.fn K) : FnFact K mg G T "is_machine_in" ⟨F_is_machine_in, ["thing"], [], []⟩ := by
  obtain ⟨fd, F⟩ := c.def_ 9 (d := HeadL.dd "is_machine_in" 20 []) rfl
  exact ⟨_, _, _, _, _, _, _, fd, Ns.getD 9 [], ⟨3, 1, [], b_is_machine_in⟩, F, He.glo_ok X Gn (c.fact 9 (f := .glo "is_machine_in") rfl), sc9, by kernel_rfl, rfl, rfl, rfl, ssOk_of c9, fun _ => F.bindsN fun _ _ _ _ _ _ us hl => match us, hl with | [_], _ => rfl, fun _ => kwA F fun _ _ _ _ _ _ ws hl => match ws, hl with | [_], _ => by kernel_rfl, fun j h => absurd h (by decide)⟩
theorem c10 : (cBody G ⟨Ns.getD 10 [], defScope (HeadL.top 21), none⟩ (defBody (HeadL.top 21))).map (·.1) = some b_sure_machine := by kernel_rfl
theorem sc10 : FnScope (Ns.getD 10 []) ["value"] (defScope (HeadL.top 21)) := C8.fnScope_by (by decide +kernel)
theorem f10 {K : PySem.W.Frag} {mg : Str → Option Value} {h : Heap} (X : K.In h) (Gn : h.Ns mainGlobals mg) (c : He.SaysD HeadL.fa HeadL.fn K) : FnFact K mg G T "sure_machine" ⟨F_sure_machine, ["value"], [], []⟩ := by
  obtain ⟨fd, F⟩ := c.def_ 10 (d := HeadL.dd "sure_machine" 21 []) rfl
  exact ⟨_, _, _, _, _, _, _, fd, Ns.getD 10 [], ⟨2, 1, [], b_sure_machine⟩, F, He.glo_ok X Gn (c.fact 10 (f := .glo "sure_machine") rfl), sc10, by kernel_rfl, rfl, rfl, rfl, ssOk_of c10, fun _ => F.bindsN fun _ _ _ _ _ _ us hl => match us, hl with | [_], _ => rfl, fun _ => kwA F fun _ _ _ _ _ _ ws hl => match ws, hl with | [_], _ => by kernel_rfl, fun j h => absurd h (by decide)⟩
theorem c11 : (cBody G ⟨Ns.getD 11 [], defScope (HeadL.top 22), none⟩ (defBody (HeadL.top 22))).map (·.1) = some b_is_word_of := by kernel_rfl
theorem sc11 : FnScope (Ns.getD 11 []) ["machine", "thing"] (defScope (HeadL.top 22)) := C8.fnScope_by (by decide +kernel)
theorem f11 {K : PySem.W.Frag} {mg : Str → Option Value} {h : Heap} (X : K.In h) (Gn : h.Ns mainGlobals mg) (c : He.SaysD HeadL.fa HeadL.fn K) : FnFact K mg G T "is_word_of" ⟨F_is_word_of, ["machine", "thing"], [], []⟩ := by
  obtain ⟨fd, F⟩ := c.def_ 11 (d := HeadL.dd "is_word_of" 22 []) rfl
  exact ⟨_, _, _, _, _, _, _, fd, Ns.getD 11 [], ⟨4, 2, [], b_is_word_of⟩, F, He.glo_ok X Gn (c.fact 11 (f := .glo "is_word_of") rfl), sc11, by kernel_rfl, rfl, rfl, rfl, ssOk_of c11, fun _ => F.bindsN fun _ _ _ _ _ _ us hl => match us, hl with | [_, _], _ => rfl, fun _ => kwA F fun _ _ _ _ _ _ ws hl => match ws, hl with | [_, _], _ => by kernel_rfl, fun j h => absurd h (by decide)⟩
theorem c12 : (cBody G ⟨Ns.getD 12 [], defScope (HeadL.top 23), none⟩ (defBody (HeadL.top 23))).map (·.1) = some b_sure_word := by kernel_rfl
theorem sc12 : FnScope (Ns.getD 12 []) ["machine", "value"] (defScope (HeadL.top 23)) := C8.fnScope_by (by decide +kernel)
theorem f12 {K : PySem.W.Frag} {mg : Str → Option Value} {h : Heap} (X : K.In h) (Gn : h.Ns mainGlobals mg) (c : He.SaysD HeadL.fa HeadL.fn K) : FnFact K mg G T "sure_word" ⟨F_sure_word, ["machine", "value"], [], []⟩ := by
  obtain ⟨fd, F⟩ := c.def_ 12 (d := HeadL.dd "sure_word" 23 []) rfl
  exact ⟨_, _, _, _, _, _, _, fd, Ns.getD 12 [], ⟨3, 2, [], b_sure_word⟩, F, He.glo_ok X Gn (c.fact 12 (f := .glo "sure_word") rfl), sc12, by kernel_rfl, rfl, rfl, rfl, ssOk_of c12, fun _ => F.bindsN fun _ _ _ _ _ _ us hl => match us, hl with | [_, _], _ => rfl, fun _ => kwA F fun _ _ _ _ _ _ ws hl => match ws, hl with | [_, _], _ => by kernel_rfl, fun j h => absurd h (by decide)⟩
theorem c13 : (cBody G ⟨Ns.getD 13 [], defScope (HeadL.top 24), none⟩ (defBody (HeadL.top 24))).map (·.1) = some b_is_row_of := by kernel_rfl
theorem sc13 : FnScope (Ns.getD 13 []) ["wide", "thing"] (defScope (HeadL.top 24)) := C8.fnScope_by (by decide +kernel)
theorem f13 {K : PySem.W.Frag} {mg : Str → Option Value} {h : Heap} (X : K.In h) (Gn : h.Ns mainGlobals mg) (c : He.SaysD HeadL.fa HeadL.fn K) : FnFact K mg G T "is_row_of" ⟨F_is_row_of, ["wide", "thing"], [], []⟩ := by
  obtain ⟨fd, F⟩ := c.def_ 13 (d := HeadL.dd "is_row_of" 24 []) rfl
  exact ⟨_, _, _, _, _, _, _, fd, Ns.getD 13 [], ⟨3, 2, [], b_is_row_of⟩, F, He.glo_ok X Gn (c.fact 13 (f := .glo "is_row_of") rfl), sc13, by kernel_rfl, rfl, rfl, rfl, ssOk_of c13, fun _ => F.bindsN fun _ _ _ _ _ _ us hl => match us, hl with | [_, _], _ => rfl, fun _ => kwA F fun _ _ _ _ _ _ ws hl => match ws, hl with | [_, _], _ => by kernel_rfl, fun j h => absurd h (by decide)⟩
theorem c14 : (cBody G ⟨Ns.getD 14 [], defScope (HeadL.top 25), none⟩ (defBody (HeadL.top 25))).map (·.1) = some b_sure_row := by kernel_rfl
theorem sc14 : FnScope (Ns.getD 14 []) ["machine", "value"] (defScope (HeadL.top 25)) := C8.fnScope_by (by decide +kernel)
theorem f14 {K : PySem.W.Frag} {mg : Str → Option Value} {h : Heap} (X : K.In h) (Gn : h.Ns mainGlobals mg) (c : He.SaysD HeadL.fa HeadL.fn K) : FnFact K mg G T "sure_row" ⟨F_sure_row, ["machine", "value"], [], []⟩ := by
  obtain ⟨fd, F⟩ := c.def_ 14 (d := HeadL.dd "sure_row" 25 []) rfl
  exact ⟨_, _, _, _, _, _, _, fd, Ns.getD 14 [], ⟨3, 2, [], b_sure_row⟩, F, He.glo_ok X Gn (c.fact 14 (f := .glo "sure_row") rfl), sc14, by kernel_rfl, rfl, rfl, rfl, ssOk_of c14, fun _ => F.bindsN fun _ _ _ _ _ _ us hl => match us, hl with | [_, _], _ => rfl, fun _ => kwA F fun _ _ _ _ _ _ ws hl => match ws, hl with | [_, _], _ => by kernel_rfl, fun j h => absurd h (by decide)⟩
theorem c15 : (cBody G ⟨Ns.getD 15 [], defScope (HeadL.top 26), none⟩ (defBody (HeadL.top 26))).map (·.1) = some b_short_in := by kernel_rfl
theorem sc15 : FnScope (Ns.getD 15 []) ["word"] (defScope (HeadL.top 26)) := C8.fnScope_by (by decide +kernel)
theorem f15 {K : PySem.W.Frag} {mg : Str → Option Value} {h : Heap} (X : K.In h) (Gn : h.Ns mainGlobals mg) (c : He.SaysD HeadL.fa HeadL.fn K) : FnFact K mg G T "short_in" ⟨F_short_in, ["word"], [], []⟩ := by
  obtain ⟨fd, F⟩ := c.def_ 15 (d := HeadL.dd "short_in" 26 []) rfl
  exact ⟨_, _, _, _, _, _, _, fd, Ns.getD 15 [], ⟨3, 1, [], b_short_in⟩, F, He.glo_ok X Gn (c.fact 15 (f := .glo "short_in") rfl), sc15, by kernel_rfl, rfl, rfl, rfl, ssOk_of c15, fun _ => F.bindsN fun _ _ _ _ _ _ us hl => match us, hl with | [_], _ => rfl, fun _ => kwA F fun _ _ _ _ _ _ ws hl => match ws, hl with | [_], _ => by kernel_rfl, fun j h => absurd h (by decide)⟩
theorem c16 : (cBody G ⟨Ns.getD 16 [], defScope (HeadL.top 27), none⟩ (defBody (HeadL.top 27))).map (·.1) = some b_step_in := by kernel_rfl
theorem sc16 : FnScope (Ns.getD 16 []) ["machine", "word", "letter"] (defScope (HeadL.top 27)) := C8.fnScope_by (by decide +kernel)
theorem f16 {K : PySem.W.Frag} {mg : Str → Option Value} {h : Heap} (X : K.In h) (Gn : h.Ns mainGlobals mg) (c : He.SaysD HeadL.fa HeadL.fn K) : FnFact K mg G T "step_in" ⟨F_step_in, ["machine", "word", "letter"], [], []⟩ := by
  obtain ⟨fd, F⟩ := c.def_ 16 (d := HeadL.dd "step_in" 27 []) rfl
  exact ⟨_, _, _, _, _, _, _, fd, Ns.getD 16 [], ⟨7, 3, [], b_step_in⟩, F, He.glo_ok X Gn (c.fact 16 (f := .glo "step_in") rfl), sc16, by kernel_rfl, rfl, rfl, rfl, ssOk_of c16, fun _ => F.bindsN fun _ _ _ _ _ _ us hl => match us, hl with | [_, _, _], _ => rfl, fun _ => kwA F fun _ _ _ _ _ _ ws hl => match ws, hl with | [_, _, _], _ => by kernel_rfl, fun j h => absurd h (by decide)⟩
theorem c17 : (cBody G ⟨Ns.getD 17 [], defScope (HeadL.top 28), none⟩ (defBody (HeadL.top 28))).map (·.1) = some b_led_in := by kernel_rfl
theorem sc17 : FnScope (Ns.getD 17 []) ["machine", "word", "row"] (defScope (HeadL.top 28)) := C8.fnScope_by (by decide +kernel)
theorem f17 {K : PySem.W.Frag} {mg : Str → Option Value} {h : Heap} (X : K.In h) (Gn : h.Ns mainGlobals mg) (c : He.SaysD HeadL.fa HeadL.fn K) : FnFact K mg G T "led_in" ⟨F_led_in, ["machine", "word", "row"], [], []⟩ := by
  obtain ⟨fd, F⟩ := c.def_ 17 (d := HeadL.dd "led_in" 28 []) rfl
  exact ⟨_, _, _, _, _, _, _, fd, Ns.getD 17 [], ⟨7, 3, [], b_led_in⟩, F, He.glo_ok X Gn (c.fact 17 (f := .glo "led_in") rfl), sc17, by kernel_rfl, rfl, rfl, rfl, ssOk_of c17, fun _ => F.bindsN fun _ _ _ _ _ _ us hl => match us, hl with | [_, _, _], _ => rfl, fun _ => kwA F fun _ _ _ _ _ _ ws hl => match ws, hl with | [_, _, _], _ => by kernel_rfl, fun j h => absurd h (by decide)⟩
theorem c18 : (cBody G ⟨Ns.getD 18 [], defScope (HeadL.top 29), none⟩ (defBody (HeadL.top 29))).map (·.1) = some b_letters_led := by kernel_rfl
theorem sc18 : FnScope (Ns.getD 18 []) ["machine", "word"] (defScope (HeadL.top 29)) := C8.fnScope_by (by decide +kernel)
theorem f18 {K : PySem.W.Frag} {mg : Str → Option Value} {h : Heap} (X : K.In h) (Gn : h.Ns mainGlobals mg) (c : He.SaysD HeadL.fa HeadL.fn K) : FnFact K mg G T "letters_led" ⟨F_letters_led, ["machine", "word"], [], []⟩ := by
  obtain ⟨fd, F⟩ := c.def_ 18 (d := HeadL.dd "letters_led" 29 []) rfl
  exact ⟨_, _, _, _, _, _, _, fd, Ns.getD 18 [], ⟨3, 2, [], b_letters_led⟩, F, He.glo_ok X Gn (c.fact 18 (f := .glo "letters_led") rfl), sc18, by kernel_rfl, rfl, rfl, rfl, ssOk_of c18, fun _ => F.bindsN fun _ _ _ _ _ _ us hl => match us, hl with | [_, _], _ => rfl, fun _ => kwA F fun _ _ _ _ _ _ ws hl => match ws, hl with | [_, _], _ => by kernel_rfl, fun j h => absurd h (by decide)⟩
theorem c19 : (cBody G ⟨Ns.getD 19 [], defScope (HeadL.top 30), none⟩ (defBody (HeadL.top 30))).map (·.1) = some b_row_led := by kernel_rfl
theorem sc19 : FnScope (Ns.getD 19 []) ["machine", "word", "row"] (defScope (HeadL.top 30)) := C8.fnScope_by (by decide +kernel)
theorem f19 {K : PySem.W.Frag} {mg : Str → Option Value} {h : Heap} (X : K.In h) (Gn : h.Ns mainGlobals mg) (c : He.SaysD HeadL.fa HeadL.fn K) : FnFact K mg G T "row_led" ⟨F_row_led, ["machine", "word", "row"], [], []⟩ := by
  obtain ⟨fd, F⟩ := c.def_ 19 (d := HeadL.dd "row_led" 30 []) rfl
  exact ⟨_, _, _, _, _, _, _, fd, Ns.getD 19 [], ⟨5, 3, [], b_row_led⟩, F, He.glo_ok X Gn (c.fact 19 (f := .glo "row_led") rfl), sc19, by kernel_rfl, rfl, rfl, rfl, ssOk_of c19, fun _ => F.bindsN fun _ _ _ _ _ _ us hl => match us, hl with | [_, _, _], _ => rfl, fun _ => kwA F fun _ _ _ _ _ _ ws hl => match ws, hl with | [_, _, _], _ => by kernel_rfl, fun j h => absurd h (by decide)⟩
theorem c20 : (cBody G ⟨Ns.getD 20 [], defScope (HeadL.top 31), none⟩ (defBody (HeadL.top 31))).map (·.1) = some b_part_at := by kernel_rfl
theorem sc20 : FnScope (Ns.getD 20 []) ["machine", "word", "row"] (defScope (HeadL.top 31)) := C8.fnScope_by (by decide +kernel)
theorem f20 {K : PySem.W.Frag} {mg : Str → Option Value} {h : Heap} (X : K.In h) (Gn : h.Ns mainGlobals mg) (c : He.SaysD HeadL.fa HeadL.fn K) : FnFact K mg G T "part_at" ⟨F_part_at, ["machine", "word", "row"], [], []⟩ := by
  obtain ⟨fd, F⟩ := c.def_ 20 (d := HeadL.dd "part_at" 31 []) rfl
  exact ⟨_, _, _, _, _, _, _, fd, Ns.getD 20 [], ⟨5, 3, [], b_part_at⟩, F, He.glo_ok X Gn (c.fact 20 (f := .glo "part_at") rfl), sc20, by kernel_rfl, rfl, rfl, rfl, ssOk_of c20, fun _ => F.bindsN fun _ _ _ _ _ _ us hl => match us, hl with | [_, _, _], _ => rfl, fun _ => kwA F fun _ _ _ _ _ _ ws hl => match ws, hl with | [_, _, _], _ => by kernel_rfl, fun j h => absurd h (by decide)⟩
theorem c21 : (cBody G ⟨Ns.getD 21 [], defScope (HeadL.top 33), none⟩ (defBody (HeadL.top 33))).map (·.1) = some b_back_of := by kernel_rfl
theorem sc21 : FnScope (Ns.getD 21 []) ["machine"] (defScope (HeadL.top 33)) := C8.fnScope_by (by decide +kernel)
theorem f21 {K : PySem.W.Frag} {mg : Str → Option Value} {h : Heap} (X : K.In h) (Gn : h.Ns mainGlobals mg) (c : He.SaysD HeadL.fa HeadL.fn K) : FnFact K mg G T "back_of" ⟨F_back_of, ["machine"], [], []⟩ := by
  obtain ⟨fd, F⟩ := c.def_ 21 (d := HeadL.dd "back_of" 33 []) rfl
  exact ⟨_, _, _, _, _, _, _, fd, Ns.getD 21 [], ⟨6, 1, [], b_back_of⟩, F, He.glo_ok X Gn (c.fact 21 (f := .glo "back_of") rfl), sc21, by kernel_rfl, rfl, rfl, rfl, ssOk_of c21, fun _ => F.bindsN fun _ _ _ _ _ _ us hl => match us, hl with | [_], _ => rfl, fun _ => kwA F fun _ _ _ _ _ _ ws hl => match ws, hl with | [_], _ => by kernel_rfl, fun j h => absurd h (by decide)⟩
theorem c22 : (cBody G ⟨Ns.getD 22 [], defScope (HeadL.top 34), none⟩ (defBody (HeadL.top 34))).map (·.1) = some b_machine_back := by kernel_rfl
theorem sc22 : FnScope (Ns.getD 22 []) ["machine"] (defScope (HeadL.top 34)) := C8.fnScope_by (by decide +kernel)
theorem f22 {K : PySem.W.Frag} {mg : Str → Option Value} {h : Heap} (X : K.In h) (Gn : h.Ns mainGlobals mg) (c : He.SaysD HeadL.fa HeadL.fn K) : FnFact K mg G T "machine_back" ⟨F_machine_back, ["machine"], [], []⟩ := by
  obtain ⟨fd, F⟩ := c.def_ 22 (d := HeadL.dd "machine_back" 34 []) rfl
  exact ⟨_, _, _, _, _, _, _, fd, Ns.getD 22 [], ⟨1, 1, [], b_machine_back⟩, F, He.glo_ok X Gn (c.fact 22 (f := .glo "machine_back") rfl), sc22, by kernel_rfl, rfl, rfl, rfl, ssOk_of c22, fun _ => F.bindsN fun _ _ _ _ _ _ us hl => match us, hl with | [_], _ => rfl, fun _ => kwA F fun _ _ _ _ _ _ ws hl => match ws, hl with | [_], _ => by kernel_rfl, fun j h => absurd h (by decide)⟩
theorem c23 : (cBody G ⟨Ns.getD 23 [], defScope (HeadL.top 35), none⟩ (defBody (HeadL.top 35))).map (·.1) = some b_mirror_of := by kernel_rfl
theorem sc23 : FnScope (Ns.getD 23 []) ["machine"] (defScope (HeadL.top 35)) := C8.fnScope_by (by decide +kernel)
theorem f23 {K : PySem.W.Frag} {mg : Str → Option Value} {h : Heap} (X : K.In h) (Gn : h.Ns mainGlobals mg) (c : He.SaysD HeadL.fa HeadL.fn K) : FnFact K mg G T "mirror_of" ⟨F_mirror_of, ["machine"], [], []⟩ := by
  obtain ⟨fd, F⟩ := c.def_ 23 (d := HeadL.dd "mirror_of" 35 []) rfl
  exact ⟨_, _, _, _, _, _, _, fd, Ns.getD 23 [], ⟨4, 1, [], b_mirror_of⟩, F, He.glo_ok X Gn (c.fact 23 (f := .glo "mirror_of") rfl), sc23, by kernel_rfl, rfl, rfl, rfl, ssOk_of c23, fun _ => F.bindsN fun _ _ _ _ _ _ us hl => match us, hl with | [_], _ => rfl, fun _ => kwA F fun _ _ _ _ _ _ ws hl => match ws, hl with | [_], _ => by kernel_rfl, fun j h => absurd h (by decide)⟩
theorem c24 : (cBody G ⟨Ns.getD 24 [], defScope (HeadL.top 36), none⟩ (defBody (HeadL.top 36))).map (·.1) = some b_can_mirror := by kernel_rfl
theorem sc24 : FnScope (Ns.getD 24 []) ["machine"] (defScope (HeadL.top 36)) := C8.fnScope_by (by decide +kernel)
theorem f24 {K : PySem.W.Frag} {mg : Str → Option Value} {h : Heap} (X : K.In h) (Gn : h.Ns mainGlobals mg) (c : He.SaysD HeadL.fa HeadL.fn K) : FnFact K mg G T "can_mirror" ⟨F_can_mirror, ["machine"], [], []⟩ := by
  obtain ⟨fd, F⟩ := c.def_ 24 (d := HeadL.dd "can_mirror" 36 []) rfl
  exact ⟨_, _, _, _, _, _, _, fd, Ns.getD 24 [], ⟨4, 1, [], b_can_mirror⟩, F, He.glo_ok X Gn (c.fact 24 (f := .glo "can_mirror") rfl), sc24, by kernel_rfl, rfl, rfl, rfl, ssOk_of c24, fun _ => F.bindsN fun _ _ _ _ _ _ us hl => match us, hl with | [_], _ => rfl, fun _ => kwA F fun _ _ _ _ _ _ ws hl => match ws, hl with | [_], _ => by kernel_rfl, fun j h => absurd h (by decide)⟩
theorem c25 : (cBody G ⟨Ns.getD 25 [], defScope (HeadL.top 37), none⟩ (defBody (HeadL.top 37))).map (·.1) = some b_is_turnable := by kernel_rfl
theorem sc25 : FnScope (Ns.getD 25 []) ["machine"] (defScope (HeadL.top 37)) := C8.fnScope_by (by decide +kernel)
theorem f25 {K : PySem.W.Frag} {mg : Str → Option Value} {h : Heap} (X : K.In h) (Gn : h.Ns mainGlobals mg) (c : He.SaysD HeadL.fa HeadL.fn K) : FnFact K mg G T "is_turnable" ⟨F_is_turnable, ["machine"], [], []⟩ := by
  obtain ⟨fd, F⟩ := c.def_ 25 (d := HeadL.dd "is_turnable" 37 []) rfl
  exact ⟨_, _, _, _, _, _, _, fd, Ns.getD 25 [], ⟨1, 1, [], b_is_turnable⟩, F, He.glo_ok X Gn (c.fact 25 (f := .glo "is_turnable") rfl), sc25, by kernel_rfl, rfl, rfl, rfl, ssOk_of c25, fun _ => F.bindsN fun _ _ _ _ _ _ us hl => match us, hl with | [_], _ => rfl, fun _ => kwA F fun _ _ _ _ _ _ ws hl => match ws, hl with | [_], _ => by kernel_rfl, fun j h => absurd h (by decide)⟩
theorem c26 : (cBody G ⟨Ns.getD 26 [], defScope (HeadL.top 38), none⟩ (defBody (HeadL.top 38))).map (·.1) = some b_is_both_ways := by kernel_rfl
theorem sc26 : FnScope (Ns.getD 26 []) ["machine"] (defScope (HeadL.top 38)) := C8.fnScope_by (by decide +kernel)
theorem f26 {K : PySem.W.Frag} {mg : Str → Option Value} {h : Heap} (X : K.In h) (Gn : h.Ns mainGlobals mg) (c : He.SaysD HeadL.fa HeadL.fn K) : FnFact K mg G T "is_both_ways" ⟨F_is_both_ways, ["machine"], [], []⟩ := by
  obtain ⟨fd, F⟩ := c.def_ 26 (d := HeadL.dd "is_both_ways" 38 []) rfl
  exact ⟨_, _, _, _, _, _, _, fd, Ns.getD 26 [], ⟨2, 1, [], b_is_both_ways⟩, F, He.glo_ok X Gn (c.fact 26 (f := .glo "is_both_ways") rfl), sc26, by kernel_rfl, rfl, rfl, rfl, ssOk_of c26, fun _ => F.bindsN fun _ _ _ _ _ _ us hl => match us, hl with | [_], _ => rfl, fun _ => kwA F fun _ _ _ _ _ _ ws hl => match ws, hl with | [_], _ => by kernel_rfl, fun j h => absurd h (by decide)⟩
theorem c27 : (cBody G ⟨Ns.getD 27 [], defScope (HeadL.top 39), none⟩ (defBody (HeadL.top 39))).map (·.1) = some b_machine_mirrored := by kernel_rfl
theorem sc27 : FnScope (Ns.getD 27 []) ["machine"] (defScope (HeadL.top 39)) := C8.fnScope_by (by decide +kernel)
theorem f27 {K : PySem.W.Frag} {mg : Str → Option Value} {h : Heap} (X : K.In h) (Gn : h.Ns mainGlobals mg) (c : He.SaysD HeadL.fa HeadL.fn K) : FnFact K mg G T "machine_mirrored" ⟨F_machine_mirrored, ["machine"], [], []⟩ := by
  obtain ⟨fd, F⟩ := c.def_ 27 (d := HeadL.dd "machine_mirrored" 39 []) rfl
  exact ⟨_, _, _, _, _, _, _, fd, Ns.getD 27 [], ⟨2, 1, [], b_machine_mirrored⟩, F, He.glo_ok X Gn (c.fact 27 (f := .glo "machine_mirrored") rfl), sc27, by kernel_rfl, rfl, rfl, rfl, ssOk_of c27, fun _ => F.bindsN fun _ _ _ _ _ _ us hl => match us, hl with | [_], _ => rfl, fun _ => kwA F fun _ _ _ _ _ _ ws hl => match ws, hl with | [_], _ => by kernel_rfl, fun j h => absurd h (by decide)⟩
theorem c28 : (cBody G ⟨Ns.getD 28 [], defScope (HeadL.top 43), none⟩ (defBody (HeadL.top 43))).map (·.1) = some b_how_many_rows := by kernel_rfl
theorem sc28 : FnScope (Ns.getD 28 []) ["wide", "level"] (defScope (HeadL.top 43)) := C8.fnScope_by (by decide +kernel)
theorem f28 {K : PySem.W.Frag} {mg : Str → Option Value} {h : Heap} (X : K.In h) (Gn : h.Ns mainGlobals mg) (c : He.SaysD HeadL.fa HeadL.fn K) : FnFact K mg G T "how_many_rows" ⟨F_how_many_rows, ["wide", "level"], [], []⟩ := by
  obtain ⟨fd, F⟩ := c.def_ 28 (d := HeadL.dd "how_many_rows" 43 []) rfl
  exact ⟨_, _, _, _, _, _, _, fd, Ns.getD 28 [], ⟨4, 2, [], b_how_many_rows⟩, F, He.glo_ok X Gn (c.fact 28 (f := .glo "how_many_rows") rfl), sc28, by kernel_rfl, rfl, rfl, rfl, ssOk_of c28, fun _ => F.bindsN fun _ _ _ _ _ _ us hl => match us, hl with | [_, _], _ => rfl, fun _ => kwA F fun _ _ _ _ _ _ ws hl => match ws, hl with | [_, _], _ => by kernel_rfl, fun j h => absurd h (by decide)⟩
theorem c29 : (cBody G ⟨Ns.getD 29 [], defScope (HeadL.top 44), none⟩ (defBody (HeadL.top 44))).map (·.1) = some b_sure_height := by kernel_rfl
theorem sc29 : FnScope (Ns.getD 29 []) ["value"] (defScope (HeadL.top 44)) := C8.fnScope_by (by decide +kernel)
theorem f29 {K : PySem.W.Frag} {mg : Str → Option Value} {h : Heap} (X : K.In h) (Gn : h.Ns mainGlobals mg) (c : He.SaysD HeadL.fa HeadL.fn K) : FnFact K mg G T "sure_height" ⟨F_sure_height, ["value"], [], []⟩ := by
  obtain ⟨fd, F⟩ := c.def_ 29 (d := HeadL.dd "sure_height" 44 []) rfl
  exact ⟨_, _, _, _, _, _, _, fd, Ns.getD 29 [], ⟨1, 1, [], b_sure_height⟩, F, He.glo_ok X Gn (c.fact 29 (f := .glo "sure_height") rfl), sc29, by kernel_rfl, rfl, rfl, rfl, ssOk_of c29, fun _ => F.bindsN fun _ _ _ _ _ _ us hl => match us, hl with | [_], _ => rfl, fun _ => kwA F fun _ _ _ _ _ _ ws hl => match ws, hl with | [_], _ => by kernel_rfl, fun j h => absurd h (by decide)⟩
theorem c30 : (cBody G ⟨Ns.getD 30 [], defScope (HeadL.top 45), none⟩ (defBody (HeadL.top 45))).map (·.1) = some b_sure_few := by kernel_rfl
theorem sc30 : FnScope (Ns.getD 30 []) ["machine", "level", "most"] (defScope (HeadL.top 45)) := C8.fnScope_by (by decide +kernel)
theorem f30 {K : PySem.W.Frag} {mg : Str → Option Value} {h : Heap} (X : K.In h) (Gn : h.Ns mainGlobals mg) (c : He.SaysD HeadL.fa HeadL.fn K) : FnFact K mg G T "sure_few" ⟨F_sure_few, ["machine", "level", "most"], [], []⟩ := by
  obtain ⟨fd, F⟩ := c.def_ 30 (d := HeadL.dd "sure_few" 45 []) rfl
  exact ⟨_, _, _, _, _, _, _, fd, Ns.getD 30 [], ⟨3, 3, [], b_sure_few⟩, F, He.glo_ok X Gn (c.fact 30 (f := .glo "sure_few") rfl), sc30, by kernel_rfl, rfl, rfl, rfl, ssOk_of c30, fun _ => F.bindsN fun _ _ _ _ _ _ us hl => match us, hl with | [_, _, _], _ => rfl, fun _ => kwA F fun _ _ _ _ _ _ ws hl => match ws, hl with | [_, _, _], _ => by kernel_rfl, fun j h => absurd h (by decide)⟩
theorem c31 : (cBody G ⟨Ns.getD 31 [], defScope (HeadL.top 46), none⟩ (defBody (HeadL.top 46))).map (·.1) = some b_rows_in := by kernel_rfl
theorem sc31 : FnScope (Ns.getD 31 []) ["wide", "level"] (defScope (HeadL.top 46)) := C8.fnScope_by (by decide +kernel)
theorem f31 {K : PySem.W.Frag} {mg : Str → Option Value} {h : Heap} (X : K.In h) (Gn : h.Ns mainGlobals mg) (c : He.SaysD HeadL.fa HeadL.fn K) : FnFact K mg G T "rows_in" ⟨F_rows_in, ["wide", "level"], [], []⟩ := by
  obtain ⟨fd, F⟩ := c.def_ 31 (d := HeadL.dd "rows_in" 46 []) rfl
  exact ⟨_, _, _, _, _, _, _, fd, Ns.getD 31 [], ⟨7, 2, [], b_rows_in⟩, F, He.glo_ok X Gn (c.fact 31 (f := .glo "rows_in") rfl), sc31, by kernel_rfl, rfl, rfl, rfl, ssOk_of c31, fun _ => F.bindsN fun _ _ _ _ _ _ us hl => match us, hl with | [_, _], _ => rfl, fun _ => kwA F fun _ _ _ _ _ _ ws hl => match ws, hl with | [_, _], _ => by kernel_rfl, fun j h => absurd h (by decide)⟩
theorem c32 : (cBody G ⟨Ns.getD 32 [], defScope (HeadL.top 47), none⟩ (defBody (HeadL.top 47))).map (·.1) = some b_number_in := by kernel_rfl
theorem sc32 : FnScope (Ns.getD 32 []) ["wide", "row"] (defScope (HeadL.top 47)) := C8.fnScope_by (by decide +kernel)
theorem f32 {K : PySem.W.Frag} {mg : Str → Option Value} {h : Heap} (X : K.In h) (Gn : h.Ns mainGlobals mg) (c : He.SaysD HeadL.fa HeadL.fn K) : FnFact K mg G T "number_in" ⟨F_number_in, ["wide", "row"], [], []⟩ := by
  obtain ⟨fd, F⟩ := c.def_ 32 (d := HeadL.dd "number_in" 47 []) rfl
  exact ⟨_, _, _, _, _, _, _, fd, Ns.getD 32 [], ⟨4, 2, [], b_number_in⟩, F, He.glo_ok X Gn (c.fact 32 (f := .glo "number_in") rfl), sc32, by kernel_rfl, rfl, rfl, rfl, ssOk_of c32, fun _ => F.bindsN fun _ _ _ _ _ _ us hl => match us, hl with | [_, _], _ => rfl, fun _ => kwA F fun _ _ _ _ _ _ ws hl => match ws, hl with | [_, _], _ => by kernel_rfl, fun j h => absurd h (by decide)⟩
theorem c33 : (cBody G ⟨Ns.getD 33 [], defScope (HeadL.top 48), none⟩ (defBody (HeadL.top 48))).map (·.1) = some b_shuffle_in := by kernel_rfl
theorem sc33 : FnScope (Ns.getD 33 []) ["machine", "word", "level"] (defScope (HeadL.top 48)) := C8.fnScope_by (by decide +kernel)
theorem f33 {K : PySem.W.Frag} {mg : Str → Option Value} {h : Heap} (X : K.In h) (Gn : h.Ns mainGlobals mg) (c : He.SaysD HeadL.fa HeadL.fn K) : FnFact K mg G T "shuffle_in" ⟨F_shuffle_in, ["machine", "word", "level"], [], []⟩ := by
  obtain ⟨fd, F⟩ := c.def_ 33 (d := HeadL.dd "shuffle_in" 48 []) rfl
  exact ⟨_, _, _, _, _, _, _, fd, Ns.getD 33 [], ⟨4, 3, [], b_shuffle_in⟩, F, He.glo_ok X Gn (c.fact 33 (f := .glo "shuffle_in") rfl), sc33, by kernel_rfl, rfl, rfl, rfl, ssOk_of c33, fun _ => F.bindsN fun _ _ _ _ _ _ us hl => match us, hl with | [_, _, _], _ => rfl, fun _ => kwA F fun _ _ _ _ _ _ ws hl => match ws, hl with | [_, _, _], _ => by kernel_rfl, fun j h => absurd h (by decide)⟩
theorem c34 : (cBody G ⟨Ns.getD 34 [], defScope (HeadL.top 49), none⟩ (defBody (HeadL.top 49))).map (·.1) = some b_lots_in := by kernel_rfl
theorem sc34 : FnScope (Ns.getD 34 []) ["shuffles", "many"] (defScope (HeadL.top 49)) := C8.fnScope_by (by decide +kernel)
theorem f34 {K : PySem.W.Frag} {mg : Str → Option Value} {h : Heap} (X : K.In h) (Gn : h.Ns mainGlobals mg) (c : He.SaysD HeadL.fa HeadL.fn K) : FnFact K mg G T "lots_in" ⟨F_lots_in, ["shuffles", "many"], [], []⟩ := by
  obtain ⟨fd, F⟩ := c.def_ 34 (d := HeadL.dd "lots_in" 49 []) rfl
  exact ⟨_, _, _, _, _, _, _, fd, Ns.getD 34 [], ⟨10, 2, [], b_lots_in⟩, F, He.glo_ok X Gn (c.fact 34 (f := .glo "lots_in") rfl), sc34, by kernel_rfl, rfl, rfl, rfl, ssOk_of c34, fun _ => F.bindsN fun _ _ _ _ _ _ us hl => match us, hl with | [_, _], _ => rfl, fun _ => kwA F fun _ _ _ _ _ _ ws hl => match ws, hl with | [_, _], _ => by kernel_rfl, fun j h => absurd h (by decide)⟩
theorem c35 : (cBody G ⟨Ns.getD 35 [], defScope (HeadL.top 50), none⟩ (defBody (HeadL.top 50))).map (·.1) = some b_all_shuffles := by kernel_rfl
theorem sc35 : FnScope (Ns.getD 35 []) ["machine", "level"] (defScope (HeadL.top 50)) := C8.fnScope_by (by decide +kernel)
theorem f35 {K : PySem.W.Frag} {mg : Str → Option Value} {h : Heap} (X : K.In h) (Gn : h.Ns mainGlobals mg) (c : He.SaysD HeadL.fa HeadL.fn K) : FnFact K mg G T "all_shuffles" ⟨F_all_shuffles, ["machine", "level"], [], []⟩ := by
  obtain ⟨fd, F⟩ := c.def_ 35 (d := HeadL.dd "all_shuffles" 50 []) rfl
  exact ⟨_, _, _, _, _, _, _, fd, Ns.getD 35 [], ⟨3, 2, [], b_all_shuffles⟩, F, He.glo_ok X Gn (c.fact 35 (f := .glo "all_shuffles") rfl), sc35, by kernel_rfl, rfl, rfl, rfl, ssOk_of c35, fun _ => F.bindsN fun _ _ _ _ _ _ us hl => match us, hl with | [_, _], _ => rfl, fun _ => kwA F fun _ _ _ _ _ _ ws hl => match ws, hl with | [_, _], _ => by kernel_rfl, fun j h => absurd h (by decide)⟩
theorem c36 : (cBody G ⟨Ns.getD 36 [], defScope (HeadL.top 51), none⟩ (defBody (HeadL.top 51))).map (·.1) = some b_sure_at := by kernel_rfl
theorem sc36 : FnScope (Ns.getD 36 []) ["machine", "level"] (defScope (HeadL.top 51)) := C8.fnScope_by (by decide +kernel)
theorem f36 {K : PySem.W.Frag} {mg : Str → Option Value} {h : Heap} (X : K.In h) (Gn : h.Ns mainGlobals mg) (c : He.SaysD HeadL.fa HeadL.fn K) : FnFact K mg G T "sure_at" ⟨F_sure_at, ["machine", "level"], [], []⟩ := by
  obtain ⟨fd, F⟩ := c.def_ 36 (d := HeadL.dd "sure_at" 51 []) rfl
  exact ⟨_, _, _, _, _, _, _, fd, Ns.getD 36 [], ⟨4, 2, [], b_sure_at⟩, F, He.glo_ok X Gn (c.fact 36 (f := .glo "sure_at") rfl), sc36, by kernel_rfl, rfl, rfl, rfl, ssOk_of c36, fun _ => F.bindsN fun _ _ _ _ _ _ us hl => match us, hl with | [_, _], _ => rfl, fun _ => kwA F fun _ _ _ _ _ _ ws hl => match ws, hl with | [_, _], _ => by kernel_rfl, fun j h => absurd h (by decide)⟩
theorem c37 : (cBody G ⟨Ns.getD 37 [], defScope (HeadL.top 52), none⟩ (defBody (HeadL.top 52))).map (·.1) = some b_sure_word_at := by kernel_rfl
theorem sc37 : FnScope (Ns.getD 37 []) ["machine", "word", "level"] (defScope (HeadL.top 52)) := C8.fnScope_by (by decide +kernel)
theorem f37 {K : PySem.W.Frag} {mg : Str → Option Value} {h : Heap} (X : K.In h) (Gn : h.Ns mainGlobals mg) (c : He.SaysD HeadL.fa HeadL.fn K) : FnFact K mg G T "sure_word_at" ⟨F_sure_word_at, ["machine", "word", "level"], [], []⟩ := by
  obtain ⟨fd, F⟩ := c.def_ 37 (d := HeadL.dd "sure_word_at" 52 []) rfl
  exact ⟨_, _, _, _, _, _, _, fd, Ns.getD 37 [], ⟨6, 3, [], b_sure_word_at⟩, F, He.glo_ok X Gn (c.fact 37 (f := .glo "sure_word_at") rfl), sc37, by kernel_rfl, rfl, rfl, rfl, ssOk_of c37, fun _ => F.bindsN fun _ _ _ _ _ _ us hl => match us, hl with | [_, _, _], _ => rfl, fun _ => kwA F fun _ _ _ _ _ _ ws hl => match ws, hl with | [_, _, _], _ => by kernel_rfl, fun j h => absurd h (by decide)⟩
theorem c38 : (cBody G ⟨Ns.getD 38 [], defScope (HeadL.top 53), none⟩ (defBody (HeadL.top 53))).map (·.1) = some b_level_shuffle := by kernel_rfl
theorem sc38 : FnScope (Ns.getD 38 []) ["machine", "word", "level"] (defScope (HeadL.top 53)) := C8.fnScope_by (by decide +kernel)
theorem f38 {K : PySem.W.Frag} {mg : Str → Option Value} {h : Heap} (X : K.In h) (Gn : h.Ns mainGlobals mg) (c : He.SaysD HeadL.fa HeadL.fn K) : FnFact K mg G T "level_shuffle" ⟨F_level_shuffle, ["machine", "word", "level"], [], []⟩ := by
  obtain ⟨fd, F⟩ := c.def_ 38 (d := HeadL.dd "level_shuffle" 53 []) rfl
  exact ⟨_, _, _, _, _, _, _, fd, Ns.getD 38 [], ⟨6, 3, [], b_level_shuffle⟩, F, He.glo_ok X Gn (c.fact 38 (f := .glo "level_shuffle") rfl), sc38, by kernel_rfl, rfl, rfl, rfl, ssOk_of c38, fun _ => F.bindsN fun _ _ _ _ _ _ us hl => match us, hl with | [_, _, _], _ => rfl, fun _ => kwA F fun _ _ _ _ _ _ ws hl => match ws, hl with | [_, _, _], _ => by kernel_rfl, fun j h => absurd h (by decide)⟩
theorem c39 : (cBody G ⟨Ns.getD 39 [], defScope (HeadL.top 54), none⟩ (defBody (HeadL.top 54))).map (·.1) = some b_lots_at := by kernel_rfl
theorem sc39 : FnScope (Ns.getD 39 []) ["machine", "level"] (defScope (HeadL.top 54)) := C8.fnScope_by (by decide +kernel)
theorem f39 {K : PySem.W.Frag} {mg : Str → Option Value} {h : Heap} (X : K.In h) (Gn : h.Ns mainGlobals mg) (c : He.SaysD HeadL.fa HeadL.fn K) : FnFact K mg G T "lots_at" ⟨F_lots_at, ["machine", "level"], [], []⟩ := by
  obtain ⟨fd, F⟩ := c.def_ 39 (d := HeadL.dd "lots_at" 54 []) rfl
  exact ⟨_, _, _, _, _, _, _, fd, Ns.getD 39 [], ⟨5, 2, [], b_lots_at⟩, F, He.glo_ok X Gn (c.fact 39 (f := .glo "lots_at") rfl), sc39, by kernel_rfl, rfl, rfl, rfl, ssOk_of c39, fun _ => F.bindsN fun _ _ _ _ _ _ us hl => match us, hl with | [_, _], _ => rfl, fun _ => kwA F fun _ _ _ _ _ _ ws hl => match ws, hl with | [_, _], _ => by kernel_rfl, fun j h => absurd h (by decide)⟩
theorem c40 : (cBody G ⟨Ns.getD 40 [], defScope (HeadL.top 55), none⟩ (defBody (HeadL.top 55))).map (·.1) = some b_level_lots := by kernel_rfl
theorem sc40 : FnScope (Ns.getD 40 []) ["machine", "level"] (defScope (HeadL.top 55)) := C8.fnScope_by (by decide +kernel)
theorem f40 {K : PySem.W.Frag} {mg : Str → Option Value} {h : Heap} (X : K.In h) (Gn : h.Ns mainGlobals mg) (c : He.SaysD HeadL.fa HeadL.fn K) : FnFact K mg G T "level_lots" ⟨F_level_lots, ["machine", "level"], [], []⟩ := by
  obtain ⟨fd, F⟩ := c.def_ 40 (d := HeadL.dd "level_lots" 55 []) rfl
  exact ⟨_, _, _, _, _, _, _, fd, Ns.getD 40 [], ⟨4, 2, [], b_level_lots⟩, F, He.glo_ok X Gn (c.fact 40 (f := .glo "level_lots") rfl), sc40, by kernel_rfl, rfl, rfl, rfl, ssOk_of c40, fun _ => F.bindsN fun _ _ _ _ _ _ us hl => match us, hl with | [_, _], _ => rfl, fun _ => kwA F fun _ _ _ _ _ _ ws hl => match ws, hl with | [_, _], _ => by kernel_rfl, fun j h => absurd h (by decide)⟩
theorem c41 : (cBody G ⟨Ns.getD 41 [], defScope (HeadL.top 56), none⟩ (defBody (HeadL.top 56))).map (·.1) = some b_is_one_lot := by kernel_rfl
theorem sc41 : FnScope (Ns.getD 41 []) ["machine", "level"] (defScope (HeadL.top 56)) := C8.fnScope_by (by decide +kernel)
theorem f41 {K : PySem.W.Frag} {mg : Str → Option Value} {h : Heap} (X : K.In h) (Gn : h.Ns mainGlobals mg) (c : He.SaysD HeadL.fa HeadL.fn K) : FnFact K mg G T "is_one_lot" ⟨F_is_one_lot, ["machine", "level"], [], []⟩ := by
  obtain ⟨fd, F⟩ := c.def_ 41 (d := HeadL.dd "is_one_lot" 56 []) rfl
  exact ⟨_, _, _, _, _, _, _, fd, Ns.getD 41 [], ⟨4, 2, [], b_is_one_lot⟩, F, He.glo_ok X Gn (c.fact 41 (f := .glo "is_one_lot") rfl), sc41, by kernel_rfl, rfl, rfl, rfl, ssOk_of c41, fun _ => F.bindsN fun _ _ _ _ _ _ us hl => match us, hl with | [_, _], _ => rfl, fun _ => kwA F fun _ _ _ _ _ _ ws hl => match ws, hl with | [_, _], _ => by kernel_rfl, fun j h => absurd h (by decide)⟩
theorem c42 : (cBody G ⟨Ns.getD 42 [], defScope (HeadL.top 59), none⟩ (defBody (HeadL.top 59))).map (·.1) = some b_closing_in := by kernel_rfl
theorem sc42 : FnScope (Ns.getD 42 []) ["machine", "word"] (defScope (HeadL.top 59)) := C8.fnScope_by (by decide +kernel)
theorem f42 {K : PySem.W.Frag} {mg : Str → Option Value} {h : Heap} (X : K.In h) (Gn : h.Ns mainGlobals mg) (c : He.SaysD HeadL.fa HeadL.fn K) : FnFact K mg G T "closing_in" ⟨F_closing_in, ["machine", "word"], [], []⟩ := by
  obtain ⟨fd, F⟩ := c.def_ 42 (d := HeadL.dd "closing_in" 59 []) rfl
  exact ⟨_, _, _, _, _, _, _, fd, Ns.getD 42 [], ⟨13, 2, [], b_closing_in⟩, F, He.glo_ok X Gn (c.fact 42 (f := .glo "closing_in") rfl), sc42, by kernel_rfl, rfl, rfl, rfl, ssOk_of c42, fun _ => F.bindsN fun _ _ _ _ _ _ us hl => match us, hl with | [_, _], _ => rfl, fun _ => kwA F fun _ _ _ _ _ _ ws hl => match ws, hl with | [_, _], _ => by kernel_rfl, fun j h => absurd h (by decide)⟩
theorem c43 : (cBody G ⟨Ns.getD 43 [], defScope (HeadL.top 60), none⟩ (defBody (HeadL.top 60))).map (·.1) = some b_is_nothing_in := by kernel_rfl
theorem sc43 : FnScope (Ns.getD 43 []) ["machine", "word"] (defScope (HeadL.top 60)) := C8.fnScope_by (by decide +kernel)
theorem f43 {K : PySem.W.Frag} {mg : Str → Option Value} {h : Heap} (X : K.In h) (Gn : h.Ns mainGlobals mg) (c : He.SaysD HeadL.fa HeadL.fn K) : FnFact K mg G T "is_nothing_in" ⟨F_is_nothing_in, ["machine", "word"], [], []⟩ := by
  obtain ⟨fd, F⟩ := c.def_ 43 (d := HeadL.dd "is_nothing_in" 60 []) rfl
  exact ⟨_, _, _, _, _, _, _, fd, Ns.getD 43 [], ⟨2, 2, [], b_is_nothing_in⟩, F, He.glo_ok X Gn (c.fact 43 (f := .glo "is_nothing_in") rfl), sc43, by kernel_rfl, rfl, rfl, rfl, ssOk_of c43, fun _ => F.bindsN fun _ _ _ _ _ _ us hl => match us, hl with | [_, _], _ => rfl, fun _ => kwA F fun _ _ _ _ _ _ ws hl => match ws, hl with | [_, _], _ => by kernel_rfl, fun j h => absurd h (by decide)⟩
theorem c44 : (cBody G ⟨Ns.getD 44 [], defScope (HeadL.top 61), none⟩ (defBody (HeadL.top 61))).map (·.1) = some b_is_nothing := by kernel_rfl
theorem sc44 : FnScope (Ns.getD 44 []) ["machine", "word"] (defScope (HeadL.top 61)) := C8.fnScope_by (by decide +kernel)
theorem f44 {K : PySem.W.Frag} {mg : Str → Option Value} {h : Heap} (X : K.In h) (Gn : h.Ns mainGlobals mg) (c : He.SaysD HeadL.fa HeadL.fn K) : FnFact K mg G T "is_nothing" ⟨F_is_nothing, ["machine", "word"], [], []⟩ := by
  obtain ⟨fd, F⟩ := c.def_ 44 (d := HeadL.dd "is_nothing" 61 []) rfl
  exact ⟨_, _, _, _, _, _, _, fd, Ns.getD 44 [], ⟨3, 2, [], b_is_nothing⟩, F, He.glo_ok X Gn (c.fact 44 (f := .glo "is_nothing") rfl), sc44, by kernel_rfl, rfl, rfl, rfl, ssOk_of c44, fun _ => F.bindsN fun _ _ _ _ _ _ us hl => match us, hl with | [_, _], _ => rfl, fun _ => kwA F fun _ _ _ _ _ _ ws hl => match ws, hl with | [_, _], _ => by kernel_rfl, fun j h => absurd h (by decide)⟩
theorem c45 : (cBody G ⟨Ns.getD 45 [], defScope (HeadL.top 63), none⟩ (defBody (HeadL.top 63))).map (·.1) = some b_law_box := by kernel_rfl
theorem sc45 : FnScope (Ns.getD 45 []) ["script", "k"] (defScope (HeadL.top 63)) := C8.fnScope_by (by decide +kernel)
theorem f45 {K : PySem.W.Frag} {mg : Str → Option Value} {h : Heap} (X : K.In h) (Gn : h.Ns mainGlobals mg) (c : He.SaysD HeadL.fa HeadL.fn K) : FnFact K mg G T "_law_box" ⟨F_law_box, ["script", "k"], [], []⟩ := by
  obtain ⟨fd, F⟩ := c.def_ 45 (d := HeadL.dd "_law_box" 63 []) rfl
  exact ⟨_, _, _, _, _, _, _, fd, Ns.getD 45 [], ⟨3, 2, [], b_law_box⟩, F, He.glo_ok X Gn (c.fact 45 (f := .glo "_law_box") rfl), sc45, by kernel_rfl, rfl, rfl, rfl, ssOk_of c45, fun _ => F.bindsN fun _ _ _ _ _ _ us hl => match us, hl with | [_, _], _ => rfl, fun _ => kwA F fun _ _ _ _ _ _ ws hl => match ws, hl with | [_, _], _ => by kernel_rfl, fun j h => absurd h (by decide)⟩
theorem c46 : (cBody G ⟨Ns.getD 46 [], defScope (HeadL.top 64), none⟩ (defBody (HeadL.top 64))).map (·.1) = some b_law_take := by kernel_rfl
theorem sc46 : FnScope (Ns.getD 46 []) ["tin", "below_so"] (defScope (HeadL.top 64)) := C8.fnScope_by (by decide +kernel)
theorem f46 {K : PySem.W.Frag} {mg : Str → Option Value} {h : Heap} (X : K.In h) (Gn : h.Ns mainGlobals mg) (c : He.SaysD HeadL.fa HeadL.fn K) : FnFact K mg G T "_law_take" ⟨F_law_take, ["tin", "below_so"], [0], []⟩ := by
  obtain ⟨fd, F⟩ := c.def_ 46 (d := HeadL.dd "_law_take" 64 []) rfl
  exact ⟨_, _, _, _, _, _, _, fd, Ns.getD 46 [], ⟨6, 2, [0], b_law_take⟩, F, He.glo_ok X Gn (c.fact 46 (f := .glo "_law_take") rfl), sc46, by kernel_rfl, rfl, rfl, rfl, ssOk_of c46, fun _ => F.bindsN fun _ _ _ _ _ _ us hl => match us, hl with | [_, _], _ => rfl, fun _ => kwA F fun _ _ _ _ _ _ ws hl => match ws, hl with | [_, _], _ => by kernel_rfl, fun j h => absurd h (by decide)⟩
theorem c47 : (cBody G ⟨Ns.getD 47 [], defScope (HeadL.top 65), none⟩ (defBody (HeadL.top 65))).map (·.1) = some b_law_cells := by kernel_rfl
theorem sc47 : FnScope (Ns.getD 47 []) ["script", "most_so"] (defScope (HeadL.top 65)) := C8.fnScope_by (by decide +kernel)
theorem f47 {K : PySem.W.Frag} {mg : Str → Option Value} {h : Heap} (X : K.In h) (Gn : h.Ns mainGlobals mg) (c : He.SaysD HeadL.fa HeadL.fn K) : FnFact K mg G T "_law_cells" ⟨F_law_cells, ["script", "most_so"], [], []⟩ := by
  obtain ⟨fd, F⟩ := c.def_ 47 (d := HeadL.dd "_law_cells" 65 []) rfl
  exact ⟨_, _, _, _, _, _, _, fd, Ns.getD 47 [], ⟨6, 2, [], b_law_cells⟩, F, He.glo_ok X Gn (c.fact 47 (f := .glo "_law_cells") rfl), sc47, by kernel_rfl, rfl, rfl, rfl, ssOk_of c47, fun _ => F.bindsN fun _ _ _ _ _ _ us hl => match us, hl with | [_, _], _ => rfl, fun _ => kwA F fun _ _ _ _ _ _ ws hl => match ws, hl with | [_, _], _ => by kernel_rfl, fun j h => absurd h (by decide)⟩
theorem c48 : (cBody G ⟨Ns.getD 48 [], defScope (HeadL.top 66), none⟩ (defBody (HeadL.top 66))).map (·.1) = some b_law_pick := by kernel_rfl
theorem sc48 : FnScope (Ns.getD 48 []) ["tin", "goods_so", "count_so"] (defScope (HeadL.top 66)) := C8.fnScope_by (by decide +kernel)
theorem f48 {K : PySem.W.Frag} {mg : Str → Option Value} {h : Heap} (X : K.In h) (Gn : h.Ns mainGlobals mg) (c : He.SaysD HeadL.fa HeadL.fn K) : FnFact K mg G T "_law_pick" ⟨F_law_pick, ["tin", "goods_so", "count_so"], [0], []⟩ := by
  obtain ⟨fd, F⟩ := c.def_ 48 (d := HeadL.dd "_law_pick" 66 []) rfl
  exact ⟨_, _, _, _, _, _, _, fd, Ns.getD 48 [], ⟨6, 3, [0], b_law_pick⟩, F, He.glo_ok X Gn (c.fact 48 (f := .glo "_law_pick") rfl), sc48, by kernel_rfl, rfl, rfl, rfl, ssOk_of c48, fun _ => F.bindsN fun _ _ _ _ _ _ us hl => match us, hl with | [_, _, _], _ => rfl, fun _ => kwA F fun _ _ _ _ _ _ ws hl => match ws, hl with | [_, _, _], _ => by kernel_rfl, fun j h => absurd h (by decide)⟩
theorem c49 : (cBody G ⟨Ns.getD 49 [], defScope (HeadL.top 67), none⟩ (defBody (HeadL.top 67))).map (·.1) = some b_law_lists := by kernel_rfl
theorem sc49 : FnScope (Ns.getD 49 []) ["matter"] (defScope (HeadL.top 67)) := C8.fnScope_by (by decide +kernel)
theorem f49 {K : PySem.W.Frag} {mg : Str → Option Value} {h : Heap} (X : K.In h) (Gn : h.Ns mainGlobals mg) (c : He.SaysD HeadL.fa HeadL.fn K) : FnFact K mg G T "_law_lists" ⟨F_law_lists, ["matter"], [], []⟩ := by
  obtain ⟨fd, F⟩ := c.def_ 49 (d := HeadL.dd "_law_lists" 67 []) rfl
  exact ⟨_, _, _, _, _, _, _, fd, Ns.getD 49 [], ⟨2, 1, [], b_law_lists⟩, F, He.glo_ok X Gn (c.fact 49 (f := .glo "_law_lists") rfl), sc49, by kernel_rfl, rfl, rfl, rfl, ssOk_of c49, fun _ => F.bindsN fun _ _ _ _ _ _ us hl => match us, hl with | [_], _ => rfl, fun _ => kwA F fun _ _ _ _ _ _ ws hl => match ws, hl with | [_], _ => by kernel_rfl, fun j h => absurd h (by decide)⟩
theorem c50 : (cBody G ⟨Ns.getD 50 [], defScope (HeadL.top 68), none⟩ (defBody (HeadL.top 68))).map (·.1) = some b_law_same := by kernel_rfl
theorem sc50 : FnScope (Ns.getD 50 []) ["got", "due"] (defScope (HeadL.top 68)) := C8.fnScope_by (by decide +kernel)
theorem f50 {K : PySem.W.Frag} {mg : Str → Option Value} {h : Heap} (X : K.In h) (Gn : h.Ns mainGlobals mg) (c : He.SaysD HeadL.fa HeadL.fn K) : FnFact K mg G T "_law_same" ⟨F_law_same, ["got", "due"], [], []⟩ := by
  obtain ⟨fd, F⟩ := c.def_ 50 (d := HeadL.dd "_law_same" 68 []) rfl
  exact ⟨_, _, _, _, _, _, _, fd, Ns.getD 50 [], ⟨4, 2, [], b_law_same⟩, F, He.glo_ok X Gn (c.fact 50 (f := .glo "_law_same") rfl), sc50, by kernel_rfl, rfl, rfl, rfl, ssOk_of c50, fun _ => F.bindsN fun _ _ _ _ _ _ us hl => match us, hl with | [_, _], _ => rfl, fun _ => kwA F fun _ _ _ _ _ _ ws hl => match ws, hl with | [_, _], _ => by kernel_rfl, fun j h => absurd h (by decide)⟩
theorem c51 : (cBody G ⟨Ns.getD 51 [], defScope (HeadL.top 69), none⟩ (defBody (HeadL.top 69))).map (·.1) = some b_law_flat := by kernel_rfl
theorem sc51 : FnScope (Ns.getD 51 []) ["rows_so"] (defScope (HeadL.top 69)) := C8.fnScope_by (by decide +kernel)
theorem f51 {K : PySem.W.Frag} {mg : Str → Option Value} {h : Heap} (X : K.In h) (Gn : h.Ns mainGlobals mg) (c : He.SaysD HeadL.fa HeadL.fn K) : FnFact K mg G T "_law_flat" ⟨F_law_flat, ["rows_so"], [], []⟩ := by
  obtain ⟨fd, F⟩ := c.def_ 51 (d := HeadL.dd "_law_flat" 69 []) rfl
  exact ⟨_, _, _, _, _, _, _, fd, Ns.getD 51 [], ⟨3, 1, [], b_law_flat⟩, F, He.glo_ok X Gn (c.fact 51 (f := .glo "_law_flat") rfl), sc51, by kernel_rfl, rfl, rfl, rfl, ssOk_of c51, fun _ => F.bindsN fun _ _ _ _ _ _ us hl => match us, hl with | [_], _ => rfl, fun _ => kwA F fun _ _ _ _ _ _ ws hl => match ws, hl with | [_], _ => by kernel_rfl, fun j h => absurd h (by decide)⟩
theorem c52 : (cBody G ⟨Ns.getD 52 [], defScope (HeadL.top 70), none⟩ (defBody (HeadL.top 70))).map (·.1) = some b_law_one := by kernel_rfl
theorem sc52 : FnScope (Ns.getD 52 []) ["machine_so", "k", "x"] (defScope (HeadL.top 70)) := C8.fnScope_by (by decide +kernel)
theorem f52 {K : PySem.W.Frag} {mg : Str → Option Value} {h : Heap} (X : K.In h) (Gn : h.Ns mainGlobals mg) (c : He.SaysD HeadL.fa HeadL.fn K) : FnFact K mg G T "_law_one" ⟨F_law_one, ["machine_so", "k", "x"], [], []⟩ := by
  obtain ⟨fd, F⟩ := c.def_ 52 (d := HeadL.dd "_law_one" 70 []) rfl
  exact ⟨_, _, _, _, _, _, _, fd, Ns.getD 52 [], ⟨6, 3, [], b_law_one⟩, F, He.glo_ok X Gn (c.fact 52 (f := .glo "_law_one") rfl), sc52, by kernel_rfl, rfl, rfl, rfl, ssOk_of c52, fun _ => F.bindsN fun _ _ _ _ _ _ us hl => match us, hl with | [_, _, _], _ => rfl, fun _ => kwA F fun _ _ _ _ _ _ ws hl => match ws, hl with | [_, _, _], _ => by kernel_rfl, fun j h => absurd h (by decide)⟩
theorem c53 : (cBody G ⟨Ns.getD 53 [], defScope (HeadL.top 71), none⟩ (defBody (HeadL.top 71))).map (·.1) = some b_law_step := by kernel_rfl
theorem sc53 : FnScope (Ns.getD 53 []) ["machine_so", "word_so", "x"] (defScope (HeadL.top 71)) := C8.fnScope_by (by decide +kernel)
theorem f53 {K : PySem.W.Frag} {mg : Str → Option Value} {h : Heap} (X : K.In h) (Gn : h.Ns mainGlobals mg) (c : He.SaysD HeadL.fa HeadL.fn K) : FnFact K mg G T "_law_step" ⟨F_law_step, ["machine_so", "word_so", "x"], [], []⟩ := by
  obtain ⟨fd, F⟩ := c.def_ 53 (d := HeadL.dd "_law_step" 71 []) rfl
  exact ⟨_, _, _, _, _, _, _, fd, Ns.getD 53 [], ⟨6, 3, [], b_law_step⟩, F, He.glo_ok X Gn (c.fact 53 (f := .glo "_law_step") rfl), sc53, by kernel_rfl, rfl, rfl, rfl, ssOk_of c53, fun _ => F.bindsN fun _ _ _ _ _ _ us hl => match us, hl with | [_, _, _], _ => rfl, fun _ => kwA F fun _ _ _ _ _ _ ws hl => match ws, hl with | [_, _, _], _ => by kernel_rfl, fun j h => absurd h (by decide)⟩
theorem c54 : (cBody G ⟨Ns.getD 54 [], defScope (HeadL.top 72), none⟩ (defBody (HeadL.top 72))).map (·.1) = some b_law_part := by kernel_rfl
theorem sc54 : FnScope (Ns.getD 54 []) ["machine_so", "word_so", "row_so"] (defScope (HeadL.top 72)) := C8.fnScope_by (by decide +kernel)
theorem f54 {K : PySem.W.Frag} {mg : Str → Option Value} {h : Heap} (X : K.In h) (Gn : h.Ns mainGlobals mg) (c : He.SaysD HeadL.fa HeadL.fn K) : FnFact K mg G T "_law_part" ⟨F_law_part, ["machine_so", "word_so", "row_so"], [], []⟩ := by
  obtain ⟨fd, F⟩ := c.def_ 54 (d := HeadL.dd "_law_part" 72 []) rfl
  exact ⟨_, _, _, _, _, _, _, fd, Ns.getD 54 [], ⟨4, 3, [], b_law_part⟩, F, He.glo_ok X Gn (c.fact 54 (f := .glo "_law_part") rfl), sc54, by kernel_rfl, rfl, rfl, rfl, ssOk_of c54, fun _ => F.bindsN fun _ _ _ _ _ _ us hl => match us, hl with | [_, _, _], _ => rfl, fun _ => kwA F fun _ _ _ _ _ _ ws hl => match ws, hl with | [_, _, _], _ => by kernel_rfl, fun j h => absurd h (by decide)⟩
theorem c55 : (cBody G ⟨Ns.getD 55 [], defScope (HeadL.top 73), none⟩ (defBody (HeadL.top 73))).map (·.1) = some b_law_rows := by kernel_rfl
theorem sc55 : FnScope (Ns.getD 55 []) ["wide_so", "long_so"] (defScope (HeadL.top 73)) := C8.fnScope_by (by decide +kernel)
theorem f55 {K : PySem.W.Frag} {mg : Str → Option Value} {h : Heap} (X : K.In h) (Gn : h.Ns mainGlobals mg) (c : He.SaysD HeadL.fa HeadL.fn K) : FnFact K mg G T "_law_rows" ⟨F_law_rows, ["wide_so", "long_so"], [], []⟩ := by
  obtain ⟨fd, F⟩ := c.def_ 55 (d := HeadL.dd "_law_rows" 73 []) rfl
  exact ⟨_, _, _, _, _, _, _, fd, Ns.getD 55 [], ⟨6, 2, [], b_law_rows⟩, F, He.glo_ok X Gn (c.fact 55 (f := .glo "_law_rows") rfl), sc55, by kernel_rfl, rfl, rfl, rfl, ssOk_of c55, fun _ => F.bindsN fun _ _ _ _ _ _ us hl => match us, hl with | [_, _], _ => rfl, fun _ => kwA F fun _ _ _ _ _ _ ws hl => match ws, hl with | [_, _], _ => by kernel_rfl, fun j h => absurd h (by decide)⟩
theorem c56 : (cBody G ⟨Ns.getD 56 [], defScope (HeadL.top 74), none⟩ (defBody (HeadL.top 74))).map (·.1) = some b_law_shuffle := by kernel_rfl
theorem sc56 : FnScope (Ns.getD 56 []) ["tin", "many_so"] (defScope (HeadL.top 74)) := C8.fnScope_by (by decide +kernel)
theorem f56 {K : PySem.W.Frag} {mg : Str → Option Value} {h : Heap} (X : K.In h) (Gn : h.Ns mainGlobals mg) (c : He.SaysD HeadL.fa HeadL.fn K) : FnFact K mg G T "_law_shuffle" ⟨F_law_shuffle, ["tin", "many_so"], [0], []⟩ := by
  obtain ⟨fd, F⟩ := c.def_ 56 (d := HeadL.dd "_law_shuffle" 74 []) rfl
  exact ⟨_, _, _, _, _, _, _, fd, Ns.getD 56 [], ⟨2, 2, [0], b_law_shuffle⟩, F, He.glo_ok X Gn (c.fact 56 (f := .glo "_law_shuffle") rfl), sc56, by kernel_rfl, rfl, rfl, rfl, ssOk_of c56, fun _ => F.bindsN fun _ _ _ _ _ _ us hl => match us, hl with | [_, _], _ => rfl, fun _ => kwA F fun _ _ _ _ _ _ ws hl => match ws, hl with | [_, _], _ => by kernel_rfl, fun j h => absurd h (by decide)⟩
theorem c57 : (cBody G ⟨Ns.getD 57 [], defScope (HeadL.top 75), none⟩ (defBody (HeadL.top 75))).map (·.1) = some b_law_row := by kernel_rfl
theorem sc57 : FnScope (Ns.getD 57 []) ["tin", "machine_so", "long_so"] (defScope (HeadL.top 75)) := C8.fnScope_by (by decide +kernel)
theorem f57 {K : PySem.W.Frag} {mg : Str → Option Value} {h : Heap} (X : K.In h) (Gn : h.Ns mainGlobals mg) (c : He.SaysD HeadL.fa HeadL.fn K) : FnFact K mg G T "_law_row" ⟨F_law_row, ["tin", "machine_so", "long_so"], [0], []⟩ := by
  obtain ⟨fd, F⟩ := c.def_ 57 (d := HeadL.dd "_law_row" 75 []) rfl
  exact ⟨_, _, _, _, _, _, _, fd, Ns.getD 57 [], ⟨4, 3, [0], b_law_row⟩, F, He.glo_ok X Gn (c.fact 57 (f := .glo "_law_row") rfl), sc57, by kernel_rfl, rfl, rfl, rfl, ssOk_of c57, fun _ => F.bindsN fun _ _ _ _ _ _ us hl => match us, hl with | [_, _, _], _ => rfl, fun _ => kwA F fun _ _ _ _ _ _ ws hl => match ws, hl with | [_, _, _], _ => by kernel_rfl, fun j h => absurd h (by decide)⟩
theorem c58 : (cBody G ⟨Ns.getD 58 [], defScope (HeadL.top 76), none⟩ (defBody (HeadL.top 76))).map (·.1) = some b_law_turned := by kernel_rfl
theorem sc58 : FnScope (Ns.getD 58 []) ["tin"] (defScope (HeadL.top 76)) := C8.fnScope_by (by decide +kernel)
theorem f58 {K : PySem.W.Frag} {mg : Str → Option Value} {h : Heap} (X : K.In h) (Gn : h.Ns mainGlobals mg) (c : He.SaysD HeadL.fa HeadL.fn K) : FnFact K mg G T "_law_turned" ⟨F_law_turned, ["tin"], [0], []⟩ := by
  obtain ⟨fd, F⟩ := c.def_ 58 (d := HeadL.dd "_law_turned" 76 []) rfl
  exact ⟨_, _, _, _, _, _, _, fd, Ns.getD 58 [], ⟨6, 1, [0], b_law_turned⟩, F, He.glo_ok X Gn (c.fact 58 (f := .glo "_law_turned") rfl), sc58, by kernel_rfl, rfl, rfl, rfl, ssOk_of c58, fun _ => F.bindsN fun _ _ _ _ _ _ us hl => match us, hl with | [_], _ => rfl, fun _ => kwA F fun _ _ _ _ _ _ ws hl => match ws, hl with | [_], _ => by kernel_rfl, fun j h => absurd h (by decide)⟩
theorem c59 : (cBody G ⟨Ns.getD 59 [], defScope (HeadL.top 77), none⟩ (defBody (HeadL.top 77))).map (·.1) = some b_law_k28 := by kernel_rfl
theorem sc59 : FnScope (Ns.getD 59 []) ["script"] (defScope (HeadL.top 77)) := C8.fnScope_by (by decide +kernel)
theorem f59 {K : PySem.W.Frag} {mg : Str → Option Value} {h : Heap} (X : K.In h) (Gn : h.Ns mainGlobals mg) (c : He.SaysD HeadL.fa HeadL.fn K) : FnFact K mg G T "law" ⟨F_law_k28, ["script"], [], []⟩ := by
  obtain ⟨fd, F⟩ := c.def_ 59 (d := HeadL.dd "law" 77 []) rfl
  exact ⟨_, _, _, _, _, _, _, fd, Ns.getD 59 [], ⟨24, 1, [], b_law_k28⟩, F, He.glo_ok X Gn (c.fact 59 (f := .glo "law") rfl), sc59, by kernel_rfl, rfl, rfl, rfl, ssOk_of c59, fun _ => F.bindsN fun _ _ _ _ _ _ us hl => match us, hl with | [_], _ => rfl, fun _ => kwA F fun _ _ _ _ _ _ ws hl => match ws, hl with | [_], _ => by kernel_rfl, fun j h => absurd h (by decide)⟩
section
variable {K : PySem.W.Frag} {mg : Str → Option Value} {h : Heap}
theorem allF (X : K.In h) (Gn : h.Ns mainGlobals mg) (c : He.SaysD HeadL.fa HeadL.fn K) : AllF K mg G T fes := ⟨f0 X Gn c, f1 X Gn c, f2 X Gn c, f3 X Gn c, f4 X Gn c, f5 X Gn c, f6 X Gn c, f7 X Gn c, f8 X Gn c, f9 X Gn c, f10 X Gn c, f11 X Gn c, f12 X Gn c, f13 X Gn c, f14 X Gn c, f15 X Gn c, f16 X Gn c, f17 X Gn c, f18 X Gn c, f19 X Gn c, f20 X Gn c, f21 X Gn c, f22 X Gn c, f23 X Gn c, f24 X Gn c, f25 X Gn c, f26 X Gn c, f27 X Gn c, f28 X Gn c, f29 X Gn c, f30 X Gn c, f31 X Gn c, f32 X Gn c, f33 X Gn c, f34 X Gn c, f35 X Gn c, f36 X Gn c, f37 X Gn c, f38 X Gn c, f39 X Gn c, f40 X Gn c, f41 X Gn c, f42 X Gn c, f43 X Gn c, f44 X Gn c, f45 X Gn c, f46 X Gn c, f47 X Gn c, f48 X Gn c, f49 X Gn c, f50 X Gn c, f51 X Gn c, f52 X Gn c, f53 X Gn c, f54 X Gn c, f55 X Gn c, f56 X Gn c, f57 X Gn c, f58 X Gn c, f59 X Gn c, True.intro⟩
theorem allB (X : K.In h) (Gn : h.Ns mainGlobals mg) (c : He.SaysD HeadL.fa HeadL.fn K) : AllB mg G.bis := ⟨He.free_ok X Gn (c.fact 60 (f := .free "abs") rfl), He.free_ok X Gn (c.fact 61 (f := .free "all") rfl), He.free_ok X Gn (c.fact 62 (f := .free "bool") rfl), He.free_ok X Gn (c.fact 63 (f := .free "enumerate") rfl), He.free_ok X Gn (c.fact 64 (f := .free "int") rfl), He.free_ok X Gn (c.fact 65 (f := .free "isinstance") rfl), He.free_ok X Gn (c.fact 66 (f := .free "len") rfl), He.free_ok X Gn (c.fact 67 (f := .free "list") rfl), He.free_ok X Gn (c.fact 68 (f := .free "min") rfl), He.free_ok X Gn (c.fact 69 (f := .free "range") rfl), He.free_ok X Gn (c.fact 70 (f := .free "sorted") rfl), He.free_ok X Gn (c.fact 71 (f := .free "str") rfl), He.free_ok X Gn (c.fact 72 (f := .free "tuple") rfl), He.free_ok X Gn (c.fact 73 (f := .free "zip") rfl), True.intro⟩
theorem allN (X : K.In h) (Gn : h.Ns mainGlobals mg) (c : He.SaysD HeadL.fa HeadL.fn K) : AllN mg G.cons := ⟨(He.int_ok X Gn (c.fact 74 (f := .int "LEAST_WIDE" (2)) rfl)).elim fun t e => ⟨_, e, t, rfl⟩, (He.int_ok X Gn (c.fact 75 (f := .int "MOST_WIDE" (5)) rfl)).elim fun t e => ⟨_, e, t, rfl⟩, (He.int_ok X Gn (c.fact 76 (f := .int "MOST_STATES" (12)) rfl)).elim fun t e => ⟨_, e, t, rfl⟩, (He.int_ok X Gn (c.fact 77 (f := .int "MOST_WORD" (40)) rfl)).elim fun t e => ⟨_, e, t, rfl⟩, (He.int_ok X Gn (c.fact 78 (f := .int "MOST_ROW" (40)) rfl)).elim fun t e => ⟨_, e, t, rfl⟩, (He.int_ok X Gn (c.fact 79 (f := .int "MOST_LEVEL" (10)) rfl)).elim fun t e => ⟨_, e, t, rfl⟩, (He.int_ok X Gn (c.fact 80 (f := .int "MOST_ROWS" (1024)) rfl)).elim fun t e => ⟨_, e, t, rfl⟩, (He.int_ok X Gn (c.fact 81 (f := .int "MOST_WORDS" (5000)) rfl)).elim fun t e => ⟨_, e, t, rfl⟩, True.intro⟩
end
end LawE
open PySem PySem.W PySem.Calls PyProof.Rows
theorem end_holds (eq : ∀ ns : List Int, ns.length ≤ 63 → (∀ z ∈ ns, Builtin.Int.intBits z ≤ 1048576) → Ev.run Ev.T 100 Ev.F_law_k28 [] [.list (ns.map PyData.int)] = .ok (.bool true) false []) : PySem.Challenge.rw_lettermovers_k28_across_rows_and_words_m.Holds := by
  w_on; o_law
  refine HandSHeadRun.head_any (r := HeadL.R) (q := view HeadL.R.prog [77]) (H := HeadL.hk) (ob := HeadL.ob) (M := 3120) (loose := HeadL.loose) (d := HandSHeadRun.topDef HeadL.R.prog 77) (kwd := []) HeadL.ob_eq
    (by kernel_rfl) (fun s => by kernel_rfl) HeadL.run (by kernel_rfl) (by kernel_rfl) (by kernel_rfl) (by rfl) (by first | assumption | decide +kernel) (by decide +kernel) ⟨rfl, rfl, rfl, rfl, rfl, by decide +kernel⟩ ?hw ?hc
  case hw => w_witness2
  case hc =>
    refine L2.walk_ofEB (l := PySem.Challenge.rw_lettermovers_k28_across_rows_and_words_m) (n := 63) (k := 100) (x := "script") (CX := fun w => L2.CX (PySem.Challenge.rw_lettermovers_k28_across_rows_and_words_m).prog w) rfl (by decide) (by kernel_rfl) ⟨rfl, by decide, by decide⟩ ?F (fun w H s e s' h => Ev.cx_no h)
    intro w mg fa h Y Gn hmg0
    obtain ⟨K, KX, c⟩ := Y
    have hmg : mg ("law" : PySem.Str) = some (.ref fa) := by
      have e : (HandSHeadRun.topDef HeadL.R.prog 77).name = ("law" : PySem.Str) := by kernel_rfl
      rw [← e]
      exact hmg0
    obtain ⟨fd, F⟩ := c.def_ 59 (d := HeadL.dd "law" 77 []) rfl
    have e := hmg.symm.trans (He.glo_ok KX Gn (c.fact 59 (f := .glo "law") rfl))
    cases e
    have b := L2.FunD.bindsA (ps := ["script"]) F fun _ _ _ _ _ _ us hl => match us, hl with | [_], _ => rfl
    exact ⟨K, fd, Ev.spF K w (fun _ => .none) (Ev.run Ev.T 100) Ev.F_law_k28 [] 1, KX, fun s v => b s [v] rfl, fun H a ns hl hb _ hS => Ev.law_sp (Nat.le_trans hl (by decide)) hS (eq ns hl hb),
      fun base _ _ => Ev.law_ok (d := ⟨24, 1, [], Ev.b_law_k28⟩) F LawE.sc59 (by kernel_rfl) rfl rfl rfl (Ev.ssOk_of LawE.c59) (LawE.allF KX Gn c) (LawE.allN KX Gn c) (LawE.allB KX Gn c) base⟩

set_option maxRecDepth 100000 in
set_option maxHeartbeats 0 in
theorem PySem.Challenge.cw_lettermovers_k28_across_rows_and_words_m_holds : PySem.Challenge.rw_lettermovers_k28_across_rows_and_words_m.Holds := by
  exact end_holds fun ns hl hb => Ev.law_k28_ok 60 ns hl
