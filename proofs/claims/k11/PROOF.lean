import PyProof.Rows.All
import Wide.All
import OpenK.AllK
import Wide.FinOn
import HandS.ForMost
import HandS.ForExc
import HandS.TupAny
import HandS.Style
import HandS.TupMul
import HandS.IsInst
import HandS.Deep
import HandS.Conv
import HandS.Text
import HandS.Iter
import HandS.Dict
import HandS.Comp
import KE.KDictPairs
import HandS.More
import HandS.WordsDict
import HandS.Small
import PyProof.ListStr
import HandS.Codes
import HandS.Replace
import PyProof.StrLawsIn
import HandS.Steps
import HandS.WordsExc
import HandS.HeadWalk
import KE.KExcSuper
import HandS.Nested
import HandS.ExcInit
import HandS.ExcIs
import HandS.ExcField
import KE.KExcIs
import HandS.HeadHook1
import HandS.HeadHook2
import HandS.Defaults
import HandS.Head0
import HandS.Head1
import HandS.Head2
import HandS.HeadEnd
import PySem.Challenge.RW_usecounts_k11_whole_first_wrong_signs
set_option Elab.async false
set_option linter.all false
set_option maxRecDepth 100000
set_option maxHeartbeats 0
/-! Mp1: a small language of pure data over a heap of lists, dicts, instances; its interpreter. -/
namespace U
/-- data: None, bools, ints, texts (by codes), tuples -/
inductive PV where
  | non | bool (b : Bool) | int (i : Int) | str (s : List Nat) | tup (xs : List PV)
  deriving Inhabited
/-- a value: data, an object, a tuple that holds objects, the hand of draws, the script -/
inductive Val where
  | p (v : PV) | r (a : Nat) | t (xs : List Val) | hd | sc
  deriving Inhabited
inductive Obj where
  | list (xs : List Val)
  | dict (kvs : List (PV × Val))
  | inst (c : Nat) (fs : List (Nat × Val))
  deriving Inhabited
/-- the state of the draws -/
structure Hand where
  cells : List Int
  at_ : Nat
  big : Int
  mix : Int
  cnt : Int
structure S where
  h : List Obj
  d : Option Hand
  sc : List Int
structure Exc where
  cls : Nat
  fs : List (Nat × PV)
inductive R (α : Type) where
  | ok (a : α) (s : S) | exc (e : Exc) (s : S) | bot
abbrev Env := List (Option Val)
def R.bind {α β : Type} (x : R α) (f : α → S → R β) : R β := match x with
  | .ok a s => f a s
  | .exc e s => .exc e s
  | .bot => .bot
@[simp] theorem R.bind_ok {α β : Type} (a : α) (s : S) (f : α → S → R β) : (R.ok a s).bind f = f a s := rfl
@[simp] theorem R.bind_exc {α β : Type} (e : Exc) (s : S) (f : α → S → R β) : (R.exc e s).bind f = .exc e s := rfl
@[simp] theorem R.bind_bot {α β : Type} (f : α → S → R β) : (R.bot : R α).bind f = .bot := rfl

/-- the length that lists and texts keep -/
abbrev LIM : Nat := 16777216

/-! ### data -/
mutual
def PV.toD : PV → PySem.PyData
  | .non => .none
  | .bool b => .bool b
  | .int i => .int i
  | .str s => .str ⟨s.toArray⟩
  | .tup xs => .tuple (PV.toDs xs)
def PV.toDs : List PV → List PySem.PyData
  | [] => []
  | x :: xs => x.toD :: PV.toDs xs
end
mutual
/-- == -/
def PV.eq : PV → PV → Bool
  | .non, .non => true
  | .bool a, .bool b => a == b
  | .bool a, .int j => (if a then 1 else 0) == j
  | .int i, .bool b => i == (if b then 1 else 0)
  | .int i, .int j => i == j
  | .str x, .str y => x == y
  | .tup xs, .tup ys => PV.eqs xs ys
  | _, _ => false
def PV.eqs : List PV → List PV → Bool
  | [], [] => true
  | x :: xs, y :: ys => x.eq y && PV.eqs xs ys
  | _, _ => false
end
mutual
def PV.dep : PV → Nat
  | .tup xs => PV.deps xs + 1
  | _ => 0
def PV.deps : List PV → Nat
  | [] => 0
  | x :: xs => max x.dep (PV.deps xs)
end
mutual
def PV.beq : PV → PV → Bool
  | .non, .non => true
  | .bool a, .bool b => a == b
  | .int i, .int j => i == j
  | .str x, .str y => x == y
  | .tup xs, .tup ys => PV.beqs xs ys
  | _, _ => false
def PV.beqs : List PV → List PV → Bool
  | [], [] => true
  | x :: xs, y :: ys => x.beq y && PV.beqs xs ys
  | _, _ => false
end
mutual
def Val.beq : Val → Val → Bool
  | .p a, .p b => a.beq b
  | .r a, .r b => a == b
  | .t xs, .t ys => Val.beqs xs ys
  | .hd, .hd => true
  | .sc, .sc => true
  | _, _ => false
def Val.beqs : List Val → List Val → Bool
  | [], [] => true
  | x :: xs, y :: ys => x.beq y && Val.beqs xs ys
  | _, _ => false
end
/-- truth of data -/
def PV.truth : PV → Bool
  | .non => false
  | .bool b => b
  | .int i => i != 0
  | .str s => !s.isEmpty
  | .tup xs => !xs.isEmpty
def Val.isP : Val → Bool
  | .p _ => true
  | _ => false
/-- all of them data: these -/
def allP : List Val → Option (List PV)
  | [] => some []
  | .p v :: r => (allP r).map (v :: ·)
  | _ :: _ => none
def mkTup (vs : List Val) : Val := match allP vs with
  | some xs => .p (.tup xs)
  | none => .t vs
/-- an object without objects within -/
def Obj.pure : Obj → Bool
  | .list xs => xs.all Val.isP
  | .dict kvs => kvs.all fun q => q.2.isP
  | .inst _ fs => fs.all fun q => q.2.isP

/-! ### the syntax -/
inductive BOp where | add | sub | mul | fdiv | mod | pow
  deriving DecidableEq
inductive COp where | eq | ne | lt | le | gt | ge | is_ | isnt | in_ | nin
  deriving DecidableEq
/-- what isinstance is asked for -/
inductive Ty where | int | bool | str | tuple | list | dict | cls (c : Nat)
  deriving DecidableEq
/-- built-ins of values -/
inductive Bi where | len | abs | int | str | tuple | list | dict | sorted | ord | max2 | min2
  deriving DecidableEq
/-- built-ins of a fresh list -/
inductive Lb where | all | any | tuple | sum | len | sorted
  deriving DecidableEq
/-- built-in methods -/
inductive Bm where | append | pop | popAt | extend | index | join | get2 | get1
  deriving DecidableEq
mutual
inductive Ex where
  | lit (v : PV)
  | var (i : Nat)
  | tup (as : Exs)
  | bin (o : BOp) (a b : Ex)
  | neg (a : Ex)
  | cmp (o : COp) (a b : Ex)
  | chain (o o' : COp) (a b c : Ex)
  | and (a b : Ex)
  | or (a b : Ex)
  | not (a : Ex)
  | ite (c a b : Ex)
  | idx (a i : Ex)
  | slc (a : Ex) (lo hi : Ox)
  | rev (a : Ex)
  | call (f : Nat) (as : Exs)
  | mk (c : Nat) (as : Exs)
  | meth (c f : Nat) (o : Ex) (as : Exs)
  | fld (o : Ex) (f : Nat)
  | bi (b : Bi) (as : Exs)
  | isi (e : Ex) (t : List Ty)
  | bm (b : Bm) (o : Ex) (as : Exs)
  | lst (l : Le)
  | lb (b : Lb) (l : Le)
  | joinL (o : Ex) (l : Le)
  | dnew
  | hand (a : Ex)
  | draw (h m : Ex)
inductive Ox where
  | no | some (e : Ex)
inductive Exs where
  | nil | cons (e : Ex) (r : Exs)
/-- a list that is made here -/
inductive Le where
  | disp (as : Exs)
  | comp (t : Tg) (src : It) (c : Ox) (e : Ex)
/-- what is walked -/
inductive It where
  | ex (e : Ex)
  | le (l : Le)
  | rng1 (a : Ex) | rng2 (a b : Ex) | rng3 (a b c : Ex)
  | enum (e : Ex)
  | srt (e : Ex)
inductive Tg where
  | var (i : Nat) | tup (ts : Tgs)
inductive Tgs where
  | nil | cons (t : Tg) (r : Tgs)
end
mutual
inductive St where
  | ex (e : Ex)
  | asg (t : Tg) (e : Ex)
  | asgS (o i e : Ex)
  | asgF (o : Ex) (f : Nat) (e : Ex)
  | par (i j : Nat) (a b : Ex)
  | aug (i : Nat) (o : BOp) (e : Ex)
  | augF (o : Ex) (f : Nat) (p : BOp) (e : Ex)
  | ret (e : Ex)
  | retN
  | ite (c : Ex) (a b : Bk)
  | whl (c : Ex) (b : Bk)
  | for_ (t : Tg) (i : It) (b : Bk)
  | brk | cnt | pass
  | raise (c : Nat) (as : Exs)
  | raiseF (c f : Nat) (e : Ex)
  /-- try: x = (l, f(as) if c else g(bs)); except .. as n: if isinstance(n, k's class) and ..: x = (l2, n.fl) -/
  | tryT (x : Nat) (l : List Nat) (c : Ex) (f : Nat) (as : Exs) (g : Nat) (bs : Exs) (n k fl : Nat) (l2 : List Nat)
inductive Bk where
  | nil | cons (s : St) (r : Bk)
end
/-- what a body calls: functions, instances made, methods -/
inductive X where
  | next (env : Env) (s : S) | ret (v : Val) (s : S) | brk (env : Env) (s : S) | cnt (env : Env) (s : S) | exc (e : Exc) (s : S) | bot
structure Calls where
  fn : Nat → List Val → S → R Val
  ini : Nat → List Val → S → R Val
  lp : (Env → S → R Bool) → (Env → S → X) → Env → S → X

/-! ### operations -/
def ret {α : Type} (a : α) : S → R α := fun s => .ok a s
def small64 (i : Int) : Bool := decide (-(2 ^ 64) < i) && decide (i < 2 ^ 64)
def binP (o : BOp) : PV → PV → Option PV
  | .int i, .int j => match o with
    | .add => some (.int (i + j))
    | .sub => some (.int (i - j))
    | .mul => if small64 i || small64 j then some (.int (i * j)) else none
    | .fdiv => if 0 < j && decide (j < 1073741824) then some (.int (i / j)) else none
    | .mod => if 0 < j then some (.int (i % j)) else none
    | .pow => if 0 ≤ j ∧ j ≤ 1000000 ∧ i.natAbs < 2 ^ 64 then some (.int (i ^ j.toNat)) else none
  | .str a, .str b => match o with
    | .add => if a.length + b.length ≤ LIM then some (.str (a ++ b)) else none
    | _ => none
  | .tup a, .tup b => match o with
    | .add => if a.length + b.length ≤ LIM then some (.tup (a ++ b)) else none
    | _ => none
  | _, _ => none
def binop (o : BOp) (x y : Val) (s : S) : R Val := match x, y with
  | .p a, .p b => match binP o a b with
    | some v => .ok (.p v) s
    | none => .bot
  | .r a, .r b => match o, s.h[a]?, s.h[b]? with
    | .add, some (.list xs), some (.list ys) => if xs.length + ys.length ≤ LIM then .ok (.r s.h.length) { s with h := s.h ++ [.list (xs ++ ys)] } else .bot
    | _, _, _ => .bot
  | .r a, .p (.int k) => match o, s.h[a]? with
    | .mul, some (.list xs) => if xs.length * k.toNat ≤ LIM ∧ k < 2 ^ 63 ∧ -(2 ^ 63) ≤ k then .ok (.r s.h.length) { s with h := s.h ++ [.list (List.replicate k.toNat xs).flatten] } else .bot
    | _, _ => .bot
  | _, _ => .bot
/-- o= on values that never change -/
def augop (o : BOp) (x y : Val) (s : S) : R Val := match x, y with
  | .p (.int i), .p (.int j) => (match o with
    | .add => .ok (.p (.int (i + j))) s
    | .sub => .ok (.p (.int (i - j))) s
    | _ => .bot)
  | .p (.str a), .p (.str b) => (match o with
    | .add => if a.length + b.length ≤ LIM then .ok (.p (.str (a ++ b))) s else .bot
    | _ => .bot)
  | _, _ => .bot
def PV.flat : PV → Bool
  | .tup _ => false
  | _ => true
def cmpP (o : COp) (a b : PV) : Option Bool := match o with
  | .eq => if a.dep ≤ 64 ∧ b.dep ≤ 64 then some (a.eq b) else none
  | .ne => if a.dep ≤ 64 ∧ b.dep ≤ 64 then some (!a.eq b) else none
  | .lt => match a, b with
    | .int i, .int j => some (decide (i < j))
    | _, _ => none
  | .le => match a, b with
    | .int i, .int j => some (decide (i ≤ j))
    | _, _ => none
  | .gt => match a, b with
    | .int i, .int j => some (decide (j < i))
    | _, _ => none
  | .ge => match a, b with
    | .int i, .int j => some (decide (j ≤ i))
    | _, _ => none
  | .is_ => match b with
    | .non => some (match a with | .non => true | _ => false)
    | _ => none
  | .isnt => match b with
    | .non => some (match a with | .non => false | _ => true)
    | _ => none
  | .in_ => match a, b with
    | .str [c], .str l => some (decide (c ∈ l))
    | _, .tup xs => if a.flat && xs.all PV.flat then some (xs.any fun y => y.eq a) else none
    | _, _ => none
  | .nin => match a, b with
    | .str [c], .str l => some (!decide (c ∈ l))
    | _, .tup xs => if a.flat && xs.all PV.flat then some (!xs.any fun y => y.eq a) else none
    | _, _ => none
def PV.key : PV → Bool
  | .int _ => true
  | .str _ => true
  | _ => false
def dget (k : PV) : List (PV × Val) → Option Val
  | [] => none
  | (q, v) :: r => if q.beq k then some v else dget k r
def dput (k : PV) (v : Val) (kvs : List (PV × Val)) : List (PV × Val) :=
  if kvs.any fun q => q.1.beq k then kvs.map fun q => if q.1.beq k then (q.1, v) else q else kvs ++ [(k, v)]
def allFlat : List Val → Option (List PV)
  | [] => some []
  | .p v :: r => if v.flat then (allFlat r).map (v :: ·) else none
  | _ :: _ => none
def cmpV (o : COp) (x y : Val) (s : S) : Option Bool := match x, y with
  | .p a, .p b => cmpP o a b
  | .p a, .r j => match o, s.h[j]? with
    | .in_, some (.dict kvs) => if a.key then some (dget a kvs).isSome else none
    | .nin, some (.dict kvs) => if a.key then some (!(dget a kvs).isSome) else none
    | .in_, some (.list xs) => if a.flat then (allFlat xs).map fun ys => ys.any fun y => y.eq a else none
    | .nin, some (.list xs) => if a.flat then (allFlat xs).map fun ys => !ys.any fun y => y.eq a else none
    | _, _ => none
  | .r _, .p .non => match o with
    | .is_ => some false
    | .isnt => some true
    | _ => none
  | _, _ => none
/-- the place that an index means -/
def ixN (n : Nat) (i : Int) : Option Nat := if 0 ≤ i then (if i < n then some i.toNat else none) else if -(n : Int) ≤ i then some (i + n).toNat else none
def atI {α : Type} (xs : List α) (i : Int) : Option α := (ixN xs.length i).bind fun j => xs[j]?
def idxV (x y : Val) (s : S) : Option Val := match x, y with
  | .p (.tup xs), .p (.int i) => (atI xs i).map Val.p
  | .p (.str xs), .p (.int i) => (atI xs i).map fun c => Val.p (.str [c])
  | .t xs, .p (.int i) => atI xs i
  | .r a, .p k => match s.h[a]? with
    | some (.list xs) => (match k with
      | .int i => atI xs i
      | _ => none)
    | some (.dict kvs) => if k.key then dget k kvs else none
    | _ => none
  | _, _ => none
/-- a slice's bound as a place among n (d where it is left out) -/
def sIx (n d : Nat) : Option Int → Nat
  | none => d
  | some v => if v < 0 then (max (v + n) 0).toNat else min v.toNat n
def cut {α : Type} (xs : List α) (lo hi : Option Int) : List α := (xs.drop (sIx xs.length 0 lo)).take (sIx xs.length xs.length hi - sIx xs.length 0 lo)
def slcV (x : Val) (lo hi : Option Int) (s : S) : R Val := match x with
  | .p (.tup xs) => .ok (.p (.tup (cut xs lo hi))) s
  | .p (.str xs) => .ok (.p (.str (cut xs lo hi))) s
  | .r a => match s.h[a]? with
    | some (.list xs) => .ok (.r s.h.length) { s with h := s.h ++ [.list (cut xs lo hi)] }
    | _ => .bot
  | .sc => .ok (.r s.h.length) { s with h := s.h ++ [.list (cut (s.sc.map fun i => .p (.int i)) lo hi)] }
  | _ => .bot
def revV (x : Val) (s : S) : R Val := match x with
  | .p (.tup xs) => .ok (.p (.tup xs.reverse)) s
  | .r a => match s.h[a]? with
    | some (.list xs) => .ok (.r s.h.length) { s with h := s.h ++ [.list xs.reverse] }
    | _ => .bot
  | _ => .bot
/-- truth -/
def truth (x : Val) (s : S) : Option Bool := match x with
  | .p v => some v.truth
  | .t xs => some (!xs.isEmpty)
  | .r a => match s.h[a]? with
    | some (.list xs) => some (!xs.isEmpty)
    | some (.dict kvs) => some (!kvs.isEmpty)
    | _ => none
  | _ => none
def tyP (v : PV) : Ty → Bool
  | .int => (match v with | .int _ => true | .bool _ => true | _ => false)
  | .bool => (match v with | .bool _ => true | _ => false)
  | .str => (match v with | .str _ => true | _ => false)
  | .tuple => (match v with | .tup _ => true | _ => false)
  | _ => false
def isiV (x : Val) (t : Ty) (s : S) : Option Bool := match x with
  | .p v => some (tyP v t)
  | .t _ => some (match t with | .tuple => true | _ => false)
  | .r a => match s.h[a]?, t with
    | some (.list _), .list => some true
    | some (.list _), .cls _ => none
    | some (.list _), _ => some false
    | some (.dict _), .dict => some true
    | some (.dict _), .cls _ => none
    | some (.dict _), _ => some false
    | _, _ => none
  | _ => none
def isiAny (x : Val) (s : S) : List Ty → Option Bool
  | [] => some false
  | t :: r => (isiV x t s).bind fun b => if b then some true else isiAny x s r
/-- the signs of a number -/
def natSigns (n : Nat) : List Nat := (Nat.toDigits 10 n).map Char.toNat
def intSigns (i : Int) : List Nat := if i < 0 then 45 :: natSigns i.natAbs else natSigns i.natAbs
def itemsOf (x : Val) (s : S) : Option (List Val) := match x with
  | .p (.tup xs) => some (xs.map Val.p)
  | .p (.str xs) => some (xs.map fun c => Val.p (.str [c]))
  | .t xs => some xs
  | .r a => match s.h[a]? with
    | some (.list xs) => some xs
    | some (.dict kvs) => some (kvs.map fun q => .p q.1)
    | _ => none
  | _ => none
def lenV (x : Val) (s : S) : Option Nat := match x with
  | .p (.tup xs) => some xs.length
  | .p (.str xs) => some xs.length
  | .t xs => some xs.length
  | .r a => match s.h[a]? with
    | some (.list xs) => some xs.length
    | some (.dict kvs) => some kvs.length
    | _ => none
  | _ => none
def allI : List Val → Option (List Int)
  | [] => some []
  | .p (.int i) :: r => (allI r).map (i :: ·)
  | _ :: _ => none
def allB : List Val → Option (List Bool)
  | [] => some []
  | .p (.bool b) :: r => (allB r).map (b :: ·)
  | _ :: _ => none
def allS : List Val → Option (List (List Nat))
  | [] => some []
  | .p (.str b) :: r => (allS r).map (b :: ·)
  | _ :: _ => none
/-- a list's items sorted (ints; texts) -/
def leS (a b : List Nat) : Bool := decide (a ≤ b)
def sortedP (xs : List Val) : Option (List Val) := if xs.length < 64 then (match allI xs with
  | some ns => some ((ns.mergeSort fun a b => decide (a ≤ b)).map fun i => .p (.int i))
  | none => match allS xs with
    | some ss => some ((ss.mergeSort leS).map fun x => .p (.str x))
    | none => none) else none
/-- pairs to a dict -/
def mergeD : List Val → List (PV × Val) → Option (List (PV × Val))
  | [], acc => some acc
  | .p (.tup [k, v]) :: r, acc => if k.key then mergeD r (dput k (.p v) acc) else none
  | .t [.p k, v] :: r, acc => if k.key then mergeD r (dput k v acc) else none
  | _ :: _, _ => none
def new (o : Obj) (s : S) : R Val := .ok (.r s.h.length) { s with h := s.h ++ [o] }
def biV (b : Bi) (as : List Val) (s : S) : R Val := match b, as with
  | .len, [x] => match lenV x s with
    | some n => .ok (.p (.int n)) s
    | none => .bot
  | .abs, [.p (.int i)] => .ok (.p (.int (if i < 0 then -i else i))) s
  | .int, [.p (.int i)] => .ok (.p (.int i)) s
  | .int, [.p (.bool b)] => .ok (.p (.int (if b then 1 else 0))) s
  | .str, [.p (.int i)] => if i.natAbs.log2 < 1920 then .ok (.p (.str (intSigns i))) s else .bot
  | .tuple, [.p (.tup xs)] => .ok (.p (.tup xs)) s
  | .tuple, [.r a] => match s.h[a]? with
    | some (.list xs) => .ok (mkTup xs) s
    | _ => .bot
  | .list, [x] => match itemsOf x s with
    | some xs => new (.list xs) s
    | none => .bot
  | .dict, [.p (.tup xs)] => match mergeD (xs.map Val.p) [] with
    | some kvs => new (.dict kvs) s
    | none => .bot
  | .dict, [.r a] => match s.h[a]? with
    | some (.dict kvs) => new (.dict kvs) s
    | some (.list xs) => (match mergeD xs [] with
      | some kvs => new (.dict kvs) s
      | none => .bot)
    | _ => .bot
  | .sorted, [.r a] => match (itemsOf (.r a) s).bind sortedP with
    | some xs => new (.list xs) s
    | none => .bot
  | .ord, [.p (.str [c])] => .ok (.p (.int c)) s
  | .max2, [.p (.int i), .p (.int j)] => .ok (.p (.int (if j > i then j else i))) s
  | .min2, [.p (.int i), .p (.int j)] => .ok (.p (.int (if j < i then j else i))) s
  | _, _ => .bot
def lbV (b : Lb) (xs : List Val) (s : S) : R Val := match b with
  | .all => match allB xs with
    | some bs => .ok (.p (.bool (bs.all id))) s
    | none => .bot
  | .any => match allB xs with
    | some bs => .ok (.p (.bool (bs.any id))) s
    | none => .bot
  | .tuple => .ok (mkTup xs) s
  | .sum => match allI xs with
    | some ns => .ok (.p (.int ns.sum)) s
    | none => .bot
  | .len => .ok (.p (.int xs.length)) s
  | .sorted => match sortedP xs with
    | some ys => new (.list ys) s
    | none => .bot
/-- how many signs a join makes -/
def joinLen (a : Nat) (xs : List (List Nat)) : Nat := (xs.map fun x => x.length + a).sum
def joinS (a : List Nat) : List (List Nat) → List Nat
  | [] => []
  | [x] => x
  | x :: y :: r => x ++ a ++ joinS a (y :: r)
def joinV (o : Val) (xs : List Val) (s : S) : R Val := match o, allS xs with
  | .p (.str a), some ss => if joinLen a.length ss ≤ LIM then .ok (.p (.str (joinS a ss))) s else .bot
  | _, _ => .bot
def findC (c : Nat) : List Nat → Nat → Option Nat
  | [], _ => none
  | x :: r, k => if x = c then some k else findC c r (k + 1)
def setO (s : S) (a : Nat) (o : Obj) : S := { s with h := s.h.set a o }
def bmV (b : Bm) (o : Val) (as : List Val) (s : S) : R Val := match o with
  | .r a => match s.h[a]? with
    | some (.list xs) => (match b, as with
      | .append, [v] => if xs.length < LIM then .ok (.p .non) (setO s a (.list (xs ++ [v]))) else .bot
      | .pop, [] => (match xs.getLast? with
        | some v => .ok v (setO s a (.list xs.dropLast))
        | none => .bot)
      | .popAt, [.p (.int i)] => (match ixN xs.length i with
        | some k => (match xs[k]? with
          | some v => .ok v (setO s a (.list (xs.eraseIdx k)))
          | none => .bot)
        | none => .bot)
      | .extend, [.r b] => (match s.h[b]? with
        | some (.list ys) => if xs.length + ys.length ≤ LIM then .ok (.p .non) (setO s a (.list (xs ++ ys))) else .bot
        | _ => .bot)
      | .extend, [.p (.tup ys)] => if xs.length + ys.length ≤ LIM then .ok (.p .non) (setO s a (.list (xs ++ ys.map Val.p))) else .bot
      | _, _ => .bot)
    | some (.dict kvs) => (match b, as with
      | .get2, [.p k, v] => if k.key then .ok ((dget k kvs).getD v) s else .bot
      | .get1, [.p k] => if k.key then .ok ((dget k kvs).getD (.p .non)) s else .bot
      | _, _ => .bot)
    | _ => .bot
  | .p (.str xs) => (match b, as with
    | .index, [.p (.str [c])] => (match findC c xs 0 with
      | some k => .ok (.p (.int k)) s
      | none => .bot)
    | .join, [.r a] => (match s.h[a]? with
      | some (.list ys) => joinV o ys s
      | _ => .bot)
    | _, _ => .bot)
  | _ => .bot
def Hand.draw (h : Hand) (m : Int) : Int × Hand :=
  let h1 : Hand := if h.big = 0 ∧ h.at_ < h.cells.length then
      let c := h.cells.getD h.at_ 0
      { h with at_ := h.at_ + 1, mix := (h.mix * 69621 + c + 11) % 2147483629, big := if 10 ^ 18 ≤ c then c else h.big }
    else h
  if 0 < h1.big then (h1.big % m, { h1 with big := h1.big / m })
  else
    let n := h1.cnt + 1
    let a := ((h1.mix + 7919 * n) * 48271) % 2147483647
    let b := (a * (a / 1009 + 69621)) % 2147483647
    let c := (b * (b / 2003 + 40692)) % 2147483399
    ((c / 16) % m, { h1 with cnt := n })
def drawV (h m : Val) (s : S) : R Val := match h, m, s.d with
  | .hd, .p (.int k), some d => if 0 < k ∧ k < 1073741824 then .ok (.p (.int (d.draw k).1)) { s with d := some (d.draw k).2 } else .bot
  | _, _, _ => .bot
def Hand.start (sc : List Int) : Hand := ⟨(sc.take 63).map fun i => (i.natAbs : Int), 0, 0, 1 + (sc.take 63).length, 0⟩
def handV (a : Val) (s : S) : R Val := match a, s.d with
  | .sc, none => .ok .hd { s with d := some (Hand.start s.sc) }
  | _, _ => .bot
def fget (f : Nat) : List (Nat × Val) → Option Val
  | [] => none
  | (g, v) :: r => if g = f then some v else fget f r
def fput (f : Nat) (v : Val) : List (Nat × Val) → List (Nat × Val)
  | [] => [(f, v)]
  | (g, u) :: r => if g = f then (g, v) :: r else (g, u) :: fput f v r
def fldV (o : Val) (f : Nat) (s : S) : Option Val := match o with
  | .r a => match s.h[a]? with
    | some (.inst _ fs) => fget f fs
    | _ => none
  | _ => none
def isOf (c : Nat) (o : Val) (s : S) : Bool := match o with
  | .r a => match s.h[a]? with
    | some (.inst d _) => d == c
    | _ => false
  | _ => false
/-- an instance's class -/
def clsOf (o : Val) (s : S) : Option Nat := match o with
  | .r a => match s.h[a]? with
    | some (.inst c _) => some c
    | _ => none
  | _ => none
/-- what a built-in method is asked of -/
inductive Tag where | list | dict | str | other
  deriving DecidableEq
def tag (x : Val) (s : S) : Tag := match x with
  | .p (.str _) => .str
  | .r a => match s.h[a]? with
    | some (.list _) => .list
    | some (.dict _) => .dict
    | _ => .other
  | _ => .other
def opt {α : Type} (x : Option α) (s : S) : R α := match x with
  | some a => .ok a s
  | none => .bot
/-- o[i] = v -/
def setV (o i v : Val) (s : S) : Option S := match o, i with
  | .r a, .p k => match s.h[a]? with
    | some (.list xs) => (match k with
      | .int i => (ixN xs.length i).map fun j => setO s a (.list (xs.set j v))
      | _ => none)
    | some (.dict kvs) => if k.key ∧ kvs.length < LIM then some (setO s a (.dict (dput k v kvs))) else none
    | _ => none
  | _, _ => none
def fsetV (o : Val) (f : Nat) (v : Val) (s : S) : Option S := match o with
  | .r a => match s.h[a]? with
    | some (.inst c fs) => if fs.length < 100 then some (setO s a (.inst c (fput f v fs))) else none
    | _ => none
  | _ => none
def rangeL (lo : Int) (c : Int) : Nat → List Val
  | 0 => []
  | n + 1 => .p (.int lo) :: rangeL (lo + c) c n
def R62 (i : Int) : Bool := decide (-(2 ^ 62) ≤ i) && decide (i < 2 ^ 62)
/-- a range's items -/
def range1 : Val → Option (List Val)
  | .p (.int n) => if R62 n then some (rangeL 0 1 n.toNat) else none
  | _ => none
def range2 : Val → Val → Option (List Val)
  | .p (.int a), .p (.int b) => if R62 a && R62 b then some (rangeL a 1 (b - a).toNat) else none
  | _, _ => none
def range3 : Val → Val → Val → Option (List Val)
  | .p (.int a), .p (.int b), .p (.int c) => if R62 a && R62 b then
      (if c = -1 then some (rangeL a (-1) (a - b).toNat) else none) else none
  | _, _, _ => none
def numbered : Nat → List Val → List Val
  | _, [] => []
  | k, v :: r => mkTup [.p (.int k), v] :: numbered (k + 1) r
/-- the list at a is still as it was -/
def still (s : S) (g : List (Nat × List Val)) : Bool := g.all fun q => match s.h[q.1]? with
  | some (.list ys) => Val.beqs ys q.2
  | _ => false
/-- what must stay while x is walked -/
def guardOf (x : Val) (s : S) : Option (List (Nat × List Val)) := match x with
  | .p (.tup _) => some []
  | .p (.str _) => some []
  | .t _ => some []
  | .r a => match s.h[a]? with
    | some (.list xs) => some [(a, xs)]
    | _ => none
  | _ => none
def Tgs.len : Tgs → Nat
  | .nil => 0
  | .cons _ r => r.len + 1
def partsOf : Val → Option (List Val)
  | .p (.tup xs) => some (xs.map Val.p)
  | .t xs => some xs
  | _ => none
mutual
/-- the slots that a target names -/
def Tg.slots : Tg → List Nat
  | .var i => [i]
  | .tup ts => ts.slots
def Tgs.slots : Tgs → List Nat
  | .nil => []
  | .cons t r => t.slots ++ r.slots
end
mutual
/-- a comprehension's target: names alone -/
def Tg.bind : Tg → Val → Env → Option Env
  | .var i, v, env => some (env.set i (some v))
  | .tup ts, v, env => (partsOf v).bind fun vs => ts.bind vs env
def Tgs.bind : Tgs → List Val → Env → Option Env
  | .nil, [], env => some env
  | .cons t r, v :: vs, env => (t.bind v env).bind fun e => r.bind vs e
  | _, _, _ => none
end
def wipeE (env : Env) : List Nat → Env
  | [] => env
  | i :: r => wipeE (env.set i none) r
/-- nothing may be raised -/
def R.quiet {α : Type} : R α → R α
  | .exc _ _ => .bot
  | x => x
@[simp] theorem R.quiet_ok {α : Type} (a : α) (s : S) : (R.ok a s).quiet = .ok a s := rfl
@[simp] theorem R.quiet_exc {α : Type} (e : Exc) (s : S) : (R.exc e s : R α).quiet = .bot := rfl
@[simp] theorem R.quiet_bot {α : Type} : (R.bot : R α).quiet = .bot := rfl
/-- a comprehension's turns -/
def turns (g : S → Bool) (put : Val → Option Env) (c : Env → S → R Bool) (e : Env → S → R Val) : List Val → S → R (List Val)
  | [], s => if g s then .ok [] s else .bot
  | v :: r, s => if g s then
      (match put v with
      | none => .bot
      | some env => (c env s).quiet.bind fun k s1 => if k then (e env s1).quiet.bind fun y s2 => (turns g put c e r s2).bind fun ys s3 => .ok (y :: ys) s3 else turns g put c e r s1)
    else .bot
def bmTag : Bm → Tag
  | .append => .list
  | .pop => .list
  | .popAt => .list
  | .extend => .list
  | .index => .str
  | .join => .str
  | .get2 => .dict
  | .get1 => .dict
mutual
def ev (C : Calls) : Ex → Env → S → R Val
  | .lit v, _, s => .ok (.p v) s
  | .var i, env, s => match env[i]? with
    | some (some v) => .ok v s
    | _ => .bot
  | .tup as, env, s => (evs C as env s).bind fun vs s => if vs.length ≤ LIM then .ok (mkTup vs) s else .bot
  | .bin o a b, env, s => (ev C a env s).bind fun x s => (ev C b env s).bind fun y s => binop o x y s
  | .neg a, env, s => (ev C a env s).bind fun x s => match x with
    | .p (.int i) => .ok (.p (.int (-i))) s
    | _ => .bot
  | .cmp o a b, env, s => (ev C a env s).bind fun x s => (ev C b env s).bind fun y s => match cmpV o x y s with
    | some k => .ok (.p (.bool k)) s
    | none => .bot
  | .chain o o' a b c, env, s => (ev C a env s).bind fun x s => (ev C b env s).bind fun y s => match cmpV o x y s with
    | none => .bot
    | some false => .ok (.p (.bool false)) s
    | some true => (ev C c env s).bind fun z s => match cmpV o' y z s with
      | some k => .ok (.p (.bool k)) s
      | none => .bot
  | .and a b, env, s => (ev C a env s).bind fun x s => match x with
    | .p (.bool k) => if k then ev C b env s else .ok (.p (.bool false)) s
    | _ => .bot
  | .or a b, env, s => (ev C a env s).bind fun x s => match x with
    | .p (.bool k) => if k then .ok (.p (.bool true)) s else ev C b env s
    | _ => .bot
  | .not a, env, s => (ev C a env s).bind fun x s => match x with
    | .p (.bool k) => .ok (.p (.bool (!k))) s
    | _ => .bot
  | .ite c a b, env, s => (evT C c env s).bind fun k s => if k then ev C a env s else ev C b env s
  | .idx a i, env, s => (ev C a env s).bind fun x s => (ev C i env s).bind fun y s => opt (idxV x y s) s
  | .slc a lo hi, env, s => (ev C a env s).bind fun x s => (evO C lo env s).bind fun l s => (evO C hi env s).bind fun u s => slcV x l u s
  | .rev a, env, s => (ev C a env s).bind fun x s => revV x s
  | .call f as, env, s => (evs C as env s).bind fun vs s => C.fn f vs s
  | .mk c as, env, s => (evs C as env s).bind fun vs s => C.ini c vs s
  | .meth c f o as, env, s => (ev C o env s).bind fun x s => if isOf c x s then (evs C as env s).bind fun vs s => C.fn f (x :: vs) s else .bot
  | .fld o f, env, s => (ev C o env s).bind fun x s => opt (fldV x f s) s
  | .bi b as, env, s => (evs C as env s).bind fun vs s => biV b vs s
  | .isi e t, env, s => (ev C e env s).bind fun x s => match isiAny x s t with
    | some k => .ok (.p (.bool k)) s
    | none => .bot
  | .bm b o as, env, s => (ev C o env s).bind fun x s => if tag x s = bmTag b then (evs C as env s).bind fun vs s => bmV b x vs s else .bot
  | .lst l, env, s => (evL C l env s).bind fun vs s => new (.list vs) s
  | .lb b l, env, s => (evL C l env s).bind fun vs s => lbV b vs s
  | .joinL o l, env, s => (ev C o env s).bind fun x s => if tag x s = .str then (evL C l env s).bind fun vs s => joinV x vs s else .bot
  | .dnew, _, s => new (.dict []) s
  | .hand a, env, s => (ev C a env s).bind fun x s => handV x s
  | .draw h m, env, s => (ev C h env s).bind fun x s => (ev C m env s).bind fun y s => drawV x y s
def evO (C : Calls) : Ox → Env → S → R (Option Int)
  | .no, _, s => .ok none s
  | .some e, env, s => (ev C e env s).bind fun x s => match x with
    | .p (.int i) => .ok (some i) s
    | _ => .bot
def evs (C : Calls) : Exs → Env → S → R (List Val)
  | .nil, _, s => .ok [] s
  | .cons e r, env, s => (ev C e env s).bind fun v s => (evs C r env s).bind fun vs s => .ok (v :: vs) s
/-- as a test -/
def evT (C : Calls) : Ex → Env → S → R Bool
  | .and a b, env, s => (evT C a env s).bind fun k s => if k then evT C b env s else .ok false s
  | .or a b, env, s => (evT C a env s).bind fun k s => if k then .ok true s else evT C b env s
  | .not a, env, s => (evT C a env s).bind fun k s => .ok (!k) s
  | .ite c a b, env, s => (evT C c env s).bind fun k s => if k then evT C a env s else evT C b env s
  | .cmp o a b, env, s => (ev C a env s).bind fun x s => (ev C b env s).bind fun y s => opt (cmpV o x y s) s
  | .chain o o' a b c, env, s => (ev C a env s).bind fun x s => (ev C b env s).bind fun y s => match cmpV o x y s with
    | none => .bot
    | some false => .ok false s
    | some true => (ev C c env s).bind fun z s => opt (cmpV o' y z s) s
  | .lit v, _, s => .ok v.truth s
  | .var i, env, s => match env[i]? with
    | some (some v) => opt (truth v s) s
    | _ => .bot
  | .tup as, env, s => (evs C as env s).bind fun vs s => if vs.length ≤ LIM then opt (truth (mkTup vs) s) s else .bot
  | .bin o a b, env, s => (ev C a env s).bind fun x s => (ev C b env s).bind fun y s => (binop o x y s).bind fun v s => opt (truth v s) s
  | .neg a, env, s => .bot
  | .idx a i, env, s => (ev C a env s).bind fun x s => (ev C i env s).bind fun y s => (opt (idxV x y s) s).bind fun v s => opt (truth v s) s
  | .slc a lo hi, env, s => (ev C a env s).bind fun x s => (evO C lo env s).bind fun l s => (evO C hi env s).bind fun u s => (slcV x l u s).bind fun v s => opt (truth v s) s
  | .rev a, env, s => .bot
  | .call f as, env, s => (evs C as env s).bind fun vs s => (C.fn f vs s).bind fun v s => opt (truth v s) s
  | .mk c as, env, s => .bot
  | .meth c f o as, env, s => (ev C o env s).bind fun x s => if isOf c x s then (evs C as env s).bind fun vs s => (C.fn f (x :: vs) s).bind fun v s => opt (truth v s) s else .bot
  | .fld o f, env, s => (ev C o env s).bind fun x s => (opt (fldV x f s) s).bind fun v s => opt (truth v s) s
  | .bi b as, env, s => (evs C as env s).bind fun vs s => (biV b vs s).bind fun v s => opt (truth v s) s
  | .isi e t, env, s => (ev C e env s).bind fun x s => opt (isiAny x s t) s
  | .bm b o as, env, s => (ev C o env s).bind fun x s => if tag x s = bmTag b then (evs C as env s).bind fun vs s => (bmV b x vs s).bind fun v s => opt (truth v s) s else .bot
  | .lst l, env, s => .bot
  | .lb b l, env, s => (evL C l env s).bind fun vs s => (lbV b vs s).bind fun v s => opt (truth v s) s
  | .joinL o l, env, s => .bot
  | .dnew, _, s => .bot
  | .hand a, _, s => .bot
  | .draw h m, env, s => (ev C h env s).bind fun x s => (ev C m env s).bind fun y s => (drawV x y s).bind fun v s => opt (truth v s) s
def evL (C : Calls) : Le → Env → S → R (List Val)
  | .disp as, env, s => (evs C as env s).bind fun vs s => if vs.length ≤ LIM then .ok vs s else .bot
  | .comp t src c e, env, s => (evI C src env s).bind fun q s => if q.1.length ≤ LIM then
    turns (fun s => still s q.2) (fun v => t.bind v (wipeE env t.slots)) (fun env s => evC C c env s) (fun env s => ev C e env s) q.1 s else .bot
def evC (C : Calls) : Ox → Env → S → R Bool
  | .no, _, s => .ok true s
  | .some e, env, s => evT C e env s
/-- what is walked: the items, and which lists must stay as they are meanwhile -/
def evI (C : Calls) : It → Env → S → R (List Val × List (Nat × List Val))
  | .ex e, env, s => (ev C e env s).bind fun x s => match itemsOf x s, guardOf x s with
    | some xs, some g => .ok (xs, g) s
    | _, _ => .bot
  | .le l, env, s => (evL C l env s).bind fun vs s => .ok (vs, []) s
  | .rng1 a, env, s => (ev C a env s).bind fun x s => match range1 x with
    | some xs => .ok (xs, []) s
    | none => .bot
  | .rng2 a b, env, s => (ev C a env s).bind fun x s => (ev C b env s).bind fun y s => match range2 x y with
    | some xs => .ok (xs, []) s
    | none => .bot
  | .rng3 a b c, env, s => (ev C a env s).bind fun x s => (ev C b env s).bind fun y s => (ev C c env s).bind fun z s => match range3 x y z with
    | some xs => .ok (xs, []) s
    | none => .bot
  | .enum e, env, s => (ev C e env s).bind fun x s => match itemsOf x s, guardOf x s with
    | some xs, some g => .ok (numbered 0 xs, g) s
    | _, _ => .bot
  | .srt e, env, s => (ev C e env s).bind fun x s => match (itemsOf x s).bind sortedP with
    | some xs => .ok (xs, []) s
    | none => .bot
end

/-! ### statements -/
def R.then {α : Type} (x : R α) (f : α → S → X) : X := match x with
  | .ok a s => f a s
  | .exc e s => .exc e s
  | .bot => .bot
@[simp] theorem R.then_ok {α : Type} (a : α) (s : S) (f : α → S → X) : (R.ok a s).then f = f a s := rfl
@[simp] theorem R.then_exc {α : Type} (e : Exc) (s : S) (f : α → S → X) : (R.exc e s : R α).then f = .exc e s := rfl
@[simp] theorem R.then_bot {α : Type} (f : α → S → X) : (R.bot : R α).then f = .bot := rfl
/-- while: n turns at most -/
def wl (c : Env → S → R Bool) (b : Env → S → X) : Nat → Env → S → Option X
  | 0, _, _ => none
  | n + 1, env, s => match c env s with
    | .bot => some .bot
    | .exc e s => some (.exc e s)
    | .ok false s => some (.next env s)
    | .ok true s => match b env s with
      | .next env s => wl c b n env s
      | .cnt env s => wl c b n env s
      | .brk env s => some (.next env s)
      | x => some x
open Classical in
/-- while, as many turns as it takes -/
noncomputable def loop (c : Env → S → R Bool) (b : Env → S → X) (env : Env) (s : S) : X :=
  if h : ∃ n x, wl c b n env s = some x then h.choose_spec.choose else .bot
/-- for -/
def forL (g : S → Bool) (put : Val → Env → Option Env) (b : Env → S → X) : List Val → Env → S → X
  | [], env, s => if g s then .next env s else .bot
  | v :: r, env, s => if g s then (match put v env with
    | none => .bot
    | some env => match b env s with
      | .next env s => forL g put b r env s
      | .cnt env s => forL g put b r env s
      | .brk env s => .next env s
      | x => x)
    else .bot
mutual
def ex (C : Calls) : St → Env → S → X
  | .ex e, env, s => (ev C e env s).then fun _ s => .next env s
  | .asg t e, env, s => (ev C e env s).then fun v s => match t.bind v env with
    | some env => .next env s
    | none => .bot
  | .asgS o i e, env, s => (ev C e env s).then fun v s => (ev C o env s).then fun x s => (ev C i env s).then fun y s => match setV x y v s with
    | some s => .next env s
    | none => .bot
  | .asgF o f e, env, s => (ev C e env s).then fun v s => (ev C o env s).then fun x s => match fsetV x f v s with
    | some s => .next env s
    | none => .bot
  | .par i j a b, env, s => (ev C a env s).then fun x s => (ev C b env s).then fun y s => if i < env.length ∧ j < env.length then .next ((env.set i (some x)).set j (some y)) s else .bot
  | .aug i o e, env, s => match env[i]? with
    | some (some x) => (ev C e env s).then fun y s => (augop o x y s).then fun z s => .next (env.set i (some z)) s
    | _ => .bot
  | .augF o f p e, env, s => (ev C o env s).then fun x s0 => (opt (fldV x f s0) s0).then fun y s0 => (ev C e env s0).then fun z s => (augop p y z s).then fun v s => if clsOf x s0 = clsOf x s then (match fsetV x f v s with
    | some s' => .next env s'
    | none => .bot) else .bot
  | .ret e, env, s => (ev C e env s).then fun v s => .ret v s
  | .retN, env, s => .ret (.p .non) s
  | .ite c a b, env, s => (evT C c env s).then fun k s => if k then exs C a env s else exs C b env s
  | .whl c b, env, s => C.lp (fun env s => evT C c env s) (fun env s => exs C b env s) env s
  | .for_ t i b, env, s => (evI C i env s).then fun q s => forL (fun s => still s q.2) (fun v env => t.bind v env) (fun env s => exs C b env s) q.1 env s
  | .brk, env, s => .brk env s
  | .cnt, env, s => .cnt env s
  | .pass, env, s => .next env s
  | .raise c as, env, s => .bot
  | .raiseF c f e, env, s => (ev C e env s).then fun v s => match v with
    | .p u => .exc ⟨c, [(f, u)]⟩ s
    | _ => .bot
  | .tryT x l c f as g bs n k fl l2, env, s => match (evT C c env s).quiet.bind fun b s => if b then (evs C as env s).quiet.bind (C.fn f) else (evs C bs env s).quiet.bind (C.fn g) with
    | .ok v s => .next (env.set x (some (mkTup [.p (.str l), v]))) s
    | .exc e s => (match e.fs with
      | [(h, u)] => if e.cls = k ∧ h = fl ∧ n < env.length then .next ((env.set x (some (.p (.tup [.str l2, u])))).set n none) s else .bot
      | _ => .bot)
    | .bot => .bot
def exs (C : Calls) : Bk → Env → S → X
  | .nil, env, s => .next env s
  | .cons t r, env, s => match ex C t env s with
    | .next env s => exs C r env s
    | x => x
end

/-! ### functions -/
/-- a def: how many parameters, how many names, its body; raw: it is called on the whole heap -/
structure Fn where
  ps : Nat
  ns : Nat
  raw : Bool
  dyn : Bool := false
  body : Bk
/-- a program: its defs; its classes: the def that makes an instance, the methods -/
structure Prog where
  fns : List Fn
  cls : List Nat
def body (P : Prog) (C : Calls) (f : Nat) (as : List Val) (s : S) : R Val := match P.fns[f]? with
  | none => .bot
  | some F => if as.length = F.ps then
      (match exs C F.body (as.map some ++ List.replicate (F.ns - F.ps) none) s with
      | .next _ s => .ok (.p .non) s
      | .ret v s => .ok v s
      | .exc e s => .exc e s
      | _ => .bot) else .bot
/-- the objects among the arguments -/
def refs : List Val → List Nat
  | [] => []
  | .r a :: l => a :: refs l
  | _ :: l => refs l
def flatA : Val → Bool
  | .t _ => false
  | _ => true
def renum : Nat → List Val → List Val
  | _, [] => []
  | k, .r _ :: l => .r k :: renum (k + 1) l
  | k, v :: l => v :: renum k l
def gather (h : List Obj) : List Nat → Option (List Obj)
  | [] => some []
  | a :: l => (h[a]?).bind fun o => (gather h l).map (o :: ·)
def scatter : List Obj → List Nat → List Obj → List Obj
  | h, a :: l, o :: os => scatter (h.set a o) l os
  | h, _, _ => h
def nodup : List Nat → Bool
  | [] => true
  | a :: l => !l.contains a && nodup l
/-- the value behind a call: what is new of it is laid at the heap's end -/
def landV (k : Nat) (rs : List Nat) (small : List Obj) (h : List Obj) : Val → Option (Val × List Obj)
  | .p v => some (.p v, h)
  | .r j => if j < k then (rs[j]?).map fun a => (.r a, h) else (small[j]?).bind fun o => if o.pure then some (.r h.length, h ++ [o]) else none
  | .t vs => if nodup (refs vs) then (landT k rs small h vs).map fun q => (.t q.1, q.2) else none
  | .hd => some (.hd, h)
  | .sc => none
where landT (k : Nat) (rs : List Nat) (small : List Obj) : List Obj → List Val → Option (List Val × List Obj)
  | h, [] => some ([], h)
  | h, .p v :: l => (landT k rs small h l).map fun q => (.p v :: q.1, q.2)
  | h, .r j :: l => if j < k then none else (small[j]?).bind fun o => if o.pure then (landT k rs small (h ++ [o]) l).map fun q => (.r h.length :: q.1, q.2) else none
  | _, _ :: _ => none
/-- a def's run on the objects of its arguments alone -/
def foot (run : List Val → S → R Val) (as : List Val) (s : S) : R Val :=
  let rs := refs as
  match gather s.h rs with
  | none => .bot
  | some os => if nodup rs && as.all flatA && os.all Obj.pure then
      (match run (renum 0 as) ⟨os, s.d, s.sc⟩ with
      | .bot => .bot
      | .exc e s' => if (s'.h.take rs.length).all Obj.pure && decide (rs.length ≤ s'.h.length) then .exc e ⟨scatter s.h rs (s'.h.take rs.length), s'.d, s.sc⟩ else .bot
      | .ok v s' => if (s'.h.take rs.length).all Obj.pure && decide (rs.length ≤ s'.h.length) then
          (match landV rs.length rs s'.h (scatter s.h rs (s'.h.take rs.length)) v with
          | some (v, h) => .ok v ⟨h, s'.d, s.sc⟩
          | none => .bot)
        else .bot)
    else .bot
/-- objects of its arguments alone will do -/
def footB (as : List Val) (s : S) : Bool := match gather s.h (refs as) with
  | none => false
  | some os => as.all flatA && os.all Obj.pure
/-- a def called: on its objects alone, or raw -/
def fnOf (P : Prog) (run : Nat → List Val → S → R Val) (f : Nat) (as : List Val) (s : S) : R Val := match P.fns[f]? with
  | none => .bot
  | some F => if F.raw || (F.dyn && !footB as s) then run f as s else foot (run f) as s
/-- an instance made -/
def iniOf (P : Prog) (run : Nat → List Val → S → R Val) (c : Nat) (as : List Val) (s : S) : R Val := match P.cls[c]? with
  | none => .bot
  | some f => if as.all Val.isP then
      (foot (run f) (.r s.h.length :: as) { s with h := s.h ++ [.inst c []] }).bind fun v s' => match v with
        | .p .non => .ok (.r s.h.length) s'
        | _ => .bot
    else if (P.fns[f]?).any Fn.dyn then
      (run f (.r s.h.length :: as) { s with h := s.h ++ [.inst c []] }).bind fun v s' => match v with
        | .p .non => .ok (.r s.h.length) s'
        | _ => .bot
    else .bot
abbrev Lp := (Env → S → R Bool) → (Env → S → X) → Env → S → X
/-- a def run at a level; calls one level lower, instances two -/
def runG (lp : Lp) (P : Prog) : Nat → Nat → List Val → S → R Val
  | 0 => fun _ _ _ => .bot
  | 1 => fun _ _ _ => .bot
  | n + 2 => body P ⟨fnOf P (runG lp P (n + 1)), iniOf P (runG lp P n), lp⟩
/-- for trying alone -/
def tryLp : Lp := fun c b env s => match wl c b 100000 env s with
  | some x => x
  | none => .bot
end U
/-! Mp2a: how the small language's values and heap lie in the abstract heap; what a step keeps. -/
namespace U
open PySem L2
/-- the world: the written part, where the classes stand, how the fields are called -/
structure Wd where
  K : PySem.W.Frag
  cA : Nat → Addr
  fN : Nat → Str
  okC : Nat → Bool
  okF : Nat → Bool
/-- where objects stand -/
structure Inj where
  a : List Addr
  hd : Option (Addr × Addr)
  sc : Option Addr
theorem lim_eq : sizeLine = LIM := sizeLine_eq
/-! ### lists of pairs -/
section
variable {α β γ : Type} {F G : α → β → Prop}
theorem Pd.get : ∀ {xs : List α} {ys : List β} {i : Nat} {x : α}, Paired F xs ys → xs[i]? = some x → ∃ y, ys[i]? = some y ∧ F x y
  | _, _, _, _, .nil, e => by simp at e
  | _, _, 0, _, .cons r _, e => by simp at e; subst e; exact ⟨_, rfl, r⟩
  | _, _, i + 1, x, .cons _ t, e => by
    obtain ⟨u, h1, h2⟩ := Pd.get (i := i) (x := x) t (by simpa using e)
    exact ⟨u, by simpa using h1, h2⟩
theorem Pd.app : ∀ {xs xs' : List α} {ys ys' : List β}, Paired F xs ys → Paired F xs' ys' → Paired F (xs ++ xs') (ys ++ ys')
  | _, _, _, _, .nil, s => s
  | _, _, _, _, .cons r t, s => .cons r (Pd.app t s)
theorem Pd.take : ∀ {xs : List α} {ys : List β} (n : Nat), Paired F xs ys → Paired F (xs.take n) (ys.take n)
  | _, _, 0, _ => by simpa using Paired.nil
  | _, _, _ + 1, .nil => .nil
  | _, _, n + 1, .cons r t => .cons r (Pd.take n t)
theorem Pd.drop : ∀ {xs : List α} {ys : List β} (n : Nat), Paired F xs ys → Paired F (xs.drop n) (ys.drop n)
  | _, _, 0, r => r
  | _, _, _ + 1, .nil => .nil
  | _, _, n + 1, .cons _ t => Pd.drop n t
theorem Pd.rev : ∀ {xs : List α} {ys : List β}, Paired F xs ys → Paired F xs.reverse ys.reverse
  | _, _, .nil => .nil
  | _, _, .cons r t => by
    rw [List.reverse_cons, List.reverse_cons]
    exact Pd.app (Pd.rev t) (.cons r .nil)
theorem Pd.set {x : α} {y : β} (r : F x y) : ∀ {xs : List α} {ys : List β} (i : Nat), Paired F xs ys → Paired F (xs.set i x) (ys.set i y)
  | _, _, _, .nil => .nil
  | _, _, 0, .cons _ t => .cons r t
  | _, _, i + 1, .cons q t => .cons q (Pd.set r i t)
theorem Pd.erase : ∀ {xs : List α} {ys : List β} (i : Nat), Paired F xs ys → Paired F (xs.eraseIdx i) (ys.eraseIdx i)
  | _, _, _, .nil => .nil
  | _, _, 0, .cons _ t => t
  | _, _, i + 1, .cons q t => .cons q (Pd.erase i t)
theorem Pd.dropLast : ∀ {xs : List α} {ys : List β}, Paired F xs ys → Paired F xs.dropLast ys.dropLast
  | _, _, .nil => .nil
  | _, _, .cons _ .nil => .nil
  | _, _, .cons q (.cons r t) => .cons q (Pd.dropLast (.cons r t))
theorem Pd.rep {xs : List α} {ys : List β} (h : Paired F xs ys) : ∀ n : Nat, Paired F (List.replicate n xs).flatten (List.replicate n ys).flatten
  | 0 => .nil
  | n + 1 => by
    rw [List.replicate_succ, List.replicate_succ, List.flatten_cons, List.flatten_cons]
    exact Pd.app h (Pd.rep h n)
theorem Pd.map {δ : Type} {f : γ → α} {g : δ → β} {H : γ → δ → Prop} (hh : ∀ c d, H c d → F (f c) (g d)) : ∀ {xs : List γ} {ys : List δ}, Paired H xs ys → Paired F (xs.map f) (ys.map g)
  | _, _, .nil => .nil
  | _, _, .cons r t => .cons (hh _ _ r) (Pd.map hh t)
theorem Pd.nilL {ys : List β} (h : Paired F [] ys) : ys = [] := by cases h; rfl
theorem Pd.consL {x : α} {xs : List α} {ys : List β} (h : Paired F (x :: xs) ys) : ∃ y r, ys = y :: r ∧ F x y ∧ Paired F xs r := by
  cases h with
  | cons a b => exact ⟨_, _, rfl, a, b⟩
theorem Pd.emp {xs : List α} {ys : List β} (h : Paired F xs ys) : xs.isEmpty = ys.isEmpty := by cases h <;> rfl
theorem Pd.imp : ∀ {xs : List α} {ys : List β}, Paired F xs ys → (∀ x ∈ xs, ∀ y, F x y → G x y) → Paired G xs ys
  | _, _, .nil, _ => .nil
  | _, _, .cons r t, h => .cons (h _ List.mem_cons_self _ r) (Pd.imp t fun x hx => h x (List.mem_cons_of_mem _ hx))
theorem Pd.ofMap {f : γ → α} : ∀ {xs : List γ} {ys : List β}, Paired F (xs.map f) ys → Paired (fun c y => F (f c) y) xs ys
  | [], _, h => by cases h; exact .nil
  | x :: xs, _, h => by
    cases h with
    | cons a b => exact .cons a (Pd.ofMap b)
theorem Pd.toMap {f : γ → α} : ∀ {xs : List γ} {ys : List β}, Paired (fun c y => F (f c) y) xs ys → Paired F (xs.map f) ys
  | _, _, .nil => .nil
  | _, _, .cons a b => .cons a (Pd.toMap b)
theorem Pd.getLast {xs : List α} {ys : List β} {x : α} (h : Paired F xs ys) (e : xs.getLast? = some x) : ∃ y, ys[ys.length - 1]? = some y ∧ F x y := by
  rw [List.getLast?_eq_getElem?] at e
  have l := Paired.length h
  rw [← l]
  exact Pd.get h e
end
/-! ### data -/
/-- a tuple of these stands at a; its object has no dict -/
def TupAt (H : Hp) (a : Addr) (ws : List V) : Prop := ∃ o, H a = some (.frz o (.tup ws)) ∧ o.cls = .type "tuple" ∧ o.dict = none ∧ o.slots = #[]
theorem TupAt.sq {K : PySem.W.Frag} {H : Hp} {a : Addr} {ws : List V} (h : TupAt H a ws) : SqT K H a ws := let ⟨o, e, _⟩ := h; .inl (.inr ⟨o, e⟩)
/-- a tuple is laid at p -/
def NewT (H : Hp) (p : Addr) (ws : List V) (H' : Hp) : Prop := ∃ o, H' = upd H p (.frz o (.tup ws)) ∧ o.cls = .type "tuple" ∧ o.dict = none ∧ o.slots = #[]
theorem NewT.at_ {H H' : Hp} {p : Addr} {ws : List V} (h : NewT H p ws H') : TupAt H' p ws := let ⟨o, e, c, d⟩ := h; ⟨o, by rw [e]; exact upd_same, c, d⟩
def StrOk (s : List Nat) : Prop := s.length ≤ sizeLine ∧ ∀ c ∈ s, c < 1114112
inductive RelPV (K : PySem.W.Frag) (H : Hp) : PV → V → Prop
  | non : RelPV K H .non .non
  | bool (b : Bool) : RelPV K H (.bool b) (.bl b)
  | int (i : Int) : RelPV K H (.int i) (.int i)
  | str (s : List Nat) (h : StrOk s) : RelPV K H (.str s) (.str ⟨s.toArray⟩)
  | tup {a : Addr} {xs : List PV} {ws : List V} : TupAt H a ws → xs.length ≤ sizeLine → Paired (RelPV K H) xs ws → RelPV K H (.tup xs) (.ref a)
inductive RelVal (K : PySem.W.Frag) (H : Hp) (ι : Inj) : Val → V → Prop
  | p {v : PV} {w : V} : RelPV K H v w → RelVal K H ι (.p v) w
  | r {n : Nat} {a : Addr} : ι.a[n]? = some a → RelVal K H ι (.r n) (.ref a)
  | t {a : Addr} {xs : List Val} {ws : List V} : TupAt H a ws → xs.length ≤ sizeLine → Paired (RelVal K H ι) xs ws → RelVal K H ι (.t xs) (.ref a)
  | hd {a b : Addr} : ι.hd = some (a, b) → RelVal K H ι .hd (.ref a)
  | sc {a : Addr} : ι.sc = some a → RelVal K H ι .sc (.ref a)
def keyOf : PV → Option Key
  | .int i => some (.inl i)
  | .str s => some (.inr ⟨s.toArray⟩)
  | _ => none
def KeyIs (a : PV) (b : Key) : Prop := keyOf a = some b ∧ ∀ l, a = .str l → StrOk l
abbrev RelKV (K : PySem.W.Frag) (H : Hp) (ι : Inj) : List (PV × Val) → List (Key × V) → Prop := Paired fun p q => KeyIs p.1 q.1 ∧ RelVal K H ι p.2 q.2
abbrev RelFs (D : Wd) (H : Hp) (ι : Inj) : List (Nat × Val) → List (Str × V) → Prop := Paired fun p q => (D.okF p.1 = true ∧ D.fN p.1 = q.1) ∧ RelVal D.K H ι p.2 q.2
def RelObj (D : Wd) (H : Hp) (ι : Inj) : Obj → Addr → Prop
  | .list xs, a => ∃ ws, H a = some (.lst ws) ∧ xs.length ≤ sizeLine ∧ Paired (RelVal D.K H ι) xs ws
  | .dict kvs, a => ∃ kws, H a = some (.dK kws) ∧ kvs.length ≤ sizeLine ∧ RelKV D.K H ι kvs kws
  | .inst c fs, a => ∃ dx fws, H a = some (.ins (D.cA c) dx fws) ∧ fs.length ≤ 100 ∧ RelFs D H ι fs fws ∧ D.okC c = true
def HandAt (H : Hp) (as : List Addr) (d : Hand) (a b : Addr) : Prop :=
  H a = some (.lst [.ref b, .int d.at_, .int d.big, .int d.mix, .int d.cnt]) ∧ H b = some (.lst (d.cells.map V.int)) ∧ a ∉ as ∧ b ∉ as ∧ a ≠ b ∧ d.cells.length ≤ 63
def ScAt (D : Wd) (H : Hp) (ι : Inj) (a : Addr) (ns : List Int) : Prop :=
  (∀ H' : Hp, SqL D.K H' a (ns.map V.int)) ∨ (∃ o, H a = some (.frz o (.lst (ns.map V.int)))) ∧ a ∉ ι.a ∧ ∀ q, ι.hd ≠ some (a, q)
structure Sim (D : Wd) (H : Hp) (ι : Inj) (s : S) : Prop where
  len : ι.a.length = s.h.length
  nd : ι.a.Nodup
  obj : ∀ (n : Nat) (o : Obj) (a : Addr), s.h[n]? = some o → ι.a[n]? = some a → RelObj D H ι o a
  hand : match s.d with
    | none => ι.hd = none
    | some d => ∃ a b, ι.hd = some (a, b) ∧ HandAt H ι.a d a b
  scr : ∀ a, ι.sc = some a → s.sc.length ≤ 63 ∧ ScAt D H ι a s.sc
/-- what a value's place needs -/
structure Ext0 (K : PySem.W.Frag) (ι : Inj) (H : Hp) (ι' : Inj) (H' : Hp) : Prop where
  get : ∀ {n : Nat} {a : Addr}, ι.a[n]? = some a → ι'.a[n]? = some a
  hd : ∀ q, ι.hd = some q → ι'.hd = some q
  sc : ι'.sc = ι.sc
  tup : ∀ a xs, TupAt H a xs → TupAt H' a xs
/-- what a run keeps -/
structure Ext (K : PySem.W.Frag) (ι : Inj) (H : Hp) (ι' : Inj) (H' : Hp) : Prop where
  pre : ∃ t, ι'.a = ι.a ++ t
  new : ∀ a ∈ ι'.a, a ∈ ι.a ∨ H a = none
  hd : ∀ q, ι.hd = some q → ι'.hd = some q
  hdn : ι.hd = none → ∀ p q, ι'.hd = some (p, q) → H p = none ∧ H q = none
  sc : ι'.sc = ι.sc
  keep : ∀ a o, H a = some o → a ∉ ι.a → (∀ q, ι.hd ≠ some (a, q)) → H' a = some o
  stay : ∀ a, H' a = none → H a = none
  tup : ∀ a xs, TupAt H a xs → TupAt H' a xs
section
variable {K : PySem.W.Frag} {D : Wd} {H H1 H2 H' : Hp} {ι ι1 ι2 ι' : Inj} {s : S}
theorem Ext.refl : Ext K ι H ι H := ⟨⟨[], by simp⟩, fun _ h => .inl h, fun _ h => h, fun h p q h' => (by rw [h] at h'; cases h'), rfl, fun _ _ h _ _ => h, fun _ h => h, fun _ _ h => h⟩
theorem Ext.trans (a : Ext K ι H ι1 H1) (b : Ext K ι1 H1 ι2 H2) : Ext K ι H ι2 H2 := by
  have back : ∀ {c : Addr}, H c ≠ none → c ∉ ι.a → c ∉ ι1.a := fun {c} h n m => by
    rcases a.new c m with z | z
    · exact n z
    · exact h z
  refine ⟨?_, fun c hc => ?_, fun q h => b.hd q (a.hd q h), fun h p q h' => ?_, b.sc.trans a.sc, fun c o e n nh => ?_, fun c h => a.stay c (b.stay c h), fun c xs h => b.tup c xs (a.tup c xs h)⟩
  · obtain ⟨t1, e1⟩ := a.pre
    obtain ⟨t2, e2⟩ := b.pre
    exact ⟨t1 ++ t2, by rw [e2, e1, List.append_assoc]⟩
  · rcases b.new c hc with z | z
    · exact a.new c z
    · exact .inr (a.stay c z)
  · cases e : ι1.hd with
    | none =>
      obtain ⟨z1, z2⟩ := b.hdn e p q h'
      exact ⟨a.stay p z1, a.stay q z2⟩
    | some q' =>
      have := b.hd q' e
      rw [h'] at this
      cases this
      exact a.hdn h p q e
  · have h1 := a.keep c o e n nh
    refine b.keep c o h1 (back (by rw [e]; simp) n) fun q hq => ?_
    cases e0 : ι.hd with
    | none =>
      have z := (a.hdn e0 c q hq).1
      rw [e] at z; cases z
    | some q0 =>
      have z := a.hd q0 e0
      rw [hq] at z
      cases z
      exact nh q e0
mutual
theorem RelPV.mono (ht : ∀ a xs, TupAt H a xs → TupAt H' a xs) : ∀ {v : PV} {w : V}, RelPV K H v w → RelPV K H' v w
  | .non, _, h => by cases h; exact .non
  | .bool b, _, h => by cases h; exact .bool b
  | .int i, _, h => by cases h; exact .int i
  | .str s, _, h => by cases h with | str _ z => exact .str s z
  | .tup xs, _, h => by cases h with | tup t l p => exact .tup (ht _ _ t) l (RelPV.monos ht p)
theorem RelPV.monos (ht : ∀ a xs, TupAt H a xs → TupAt H' a xs) : ∀ {vs : List PV} {ws : List V}, Paired (RelPV K H) vs ws → Paired (RelPV K H') vs ws
  | [], _, h => by cases h; exact .nil
  | v :: vs, _, h => by cases h with | cons a b => exact .cons (RelPV.mono ht a) (RelPV.monos ht b)
end
theorem Ext.get (e : Ext K ι H ι' H') {n : Nat} {a : Addr} (h : ι.a[n]? = some a) : ι'.a[n]? = some a := by
  obtain ⟨t, q⟩ := e.pre
  rw [q, List.getElem?_append_left (List.getElem?_eq_some_iff.mp h).1]
  exact h
theorem Ext.to (e : Ext K ι H ι' H') : Ext0 K ι H ι' H' := ⟨e.get, e.hd, e.sc, e.tup⟩
mutual
theorem RelVal.mono (e : Ext0 K ι H ι' H') : ∀ {v : Val} {w : V}, RelVal K H ι v w → RelVal K H' ι' v w
  | .p v, _, h => by cases h with | p h => exact .p (h.mono e.tup)
  | .r n, _, h => by cases h with | r h => exact .r (e.get h)
  | .t xs, _, h => by cases h with | t t l p => exact .t (e.tup _ _ t) l (RelVal.monos e p)
  | .hd, _, h => by cases h with | hd h => exact .hd (e.hd _ h)
  | .sc, _, h => by cases h with | sc h => exact .sc (by rw [e.sc]; exact h)
theorem RelVal.monos (e : Ext0 K ι H ι' H') : ∀ {vs : List Val} {ws : List V}, Paired (RelVal K H ι) vs ws → Paired (RelVal K H' ι') vs ws
  | [], _, h => by cases h; exact .nil
  | v :: vs, _, h => by cases h with | cons a b => exact .cons (RelVal.mono e a) (RelVal.monos e b)
end
theorem RelKV.mono (e : Ext0 K ι H ι' H') {xs : List (PV × Val)} {ys : List (Key × V)} (h : RelKV K H ι xs ys) : RelKV K H' ι' xs ys := Paired.mono (fun _ _ q => ⟨q.1, q.2.mono e⟩) h
theorem RelFs.mono (e : Ext0 D.K ι H ι' H') {xs : List (Nat × Val)} {ys : List (Str × V)} (h : RelFs D H ι xs ys) : RelFs D H' ι' xs ys := Paired.mono (fun _ _ q => ⟨q.1, q.2.mono e⟩) h
/-- an object that stands as it stood -/
theorem RelObj.mono (e : Ext0 D.K ι H ι' H') {o : Obj} {a : Addr} (h : RelObj D H ι o a) (ha : H' a = H a) : RelObj D H' ι' o a := by
  cases o with
  | list xs => obtain ⟨ws, h1, h2, h3⟩ := h; exact ⟨ws, by rw [ha]; exact h1, h2, RelVal.monos e h3⟩
  | dict kvs => obtain ⟨ws, h1, h2, h3⟩ := h; exact ⟨ws, by rw [ha]; exact h1, h2, RelKV.mono e h3⟩
  | inst c fs => obtain ⟨dx, ws, h1, h2, h3⟩ := h; exact ⟨dx, ws, by rw [ha]; exact h1, h2, RelFs.mono e h3.1, h3.2⟩
theorem RelObj.ex {o : Obj} {a : Addr} (h : RelObj D H ι o a) : ∃ u, H a = some u := by
  cases o with
  | list xs => obtain ⟨ws, h1, _⟩ := h; exact ⟨_, h1⟩
  | dict kvs => obtain ⟨ws, h1, _⟩ := h; exact ⟨_, h1⟩
  | inst c fs => obtain ⟨dx, ws, h1, _⟩ := h; exact ⟨_, h1⟩
theorem RelObj.noTup {o : Obj} {a : Addr} (h : RelObj D H ι o a) : ∀ xs, H a ≠ some (.tup xs) := by
  intro xs z
  cases o with
  | list xs => obtain ⟨ws, h1, _⟩ := h; rw [h1] at z; cases z
  | dict kvs => obtain ⟨ws, h1, _⟩ := h; rw [h1] at z; cases z
  | inst c fs => obtain ⟨dx, ws, h1, _⟩ := h; rw [h1] at z; cases z
theorem RelObj.noFrz {o : Obj} {a : Addr} (h : RelObj D H ι o a) : ∀ ob u, H a ≠ some (.frz ob u) := by
  intro xs u z
  cases o with
  | list xs => obtain ⟨ws, h1, _⟩ := h; rw [h1] at z; cases z
  | dict kvs => obtain ⟨ws, h1, _⟩ := h; rw [h1] at z; cases z
  | inst c fs => obtain ⟨dx, ws, h1, _⟩ := h; rw [h1] at z; cases z
theorem Sim.at_ (m : Sim D H ι s) {n : Nat} {a : Addr} (e : ι.a[n]? = some a) : ∃ o, s.h[n]? = some o ∧ RelObj D H ι o a := by
  have l : n < s.h.length := by rw [← m.len]; exact (List.getElem?_eq_some_iff.mp e).1
  exact ⟨s.h[n], List.getElem?_eq_getElem l, m.obj n _ a (List.getElem?_eq_getElem l) e⟩
theorem Sim.mem (m : Sim D H ι s) {a : Addr} (h : a ∈ ι.a) : ∃ o, RelObj D H ι o a := by
  obtain ⟨n, hn, e⟩ := List.mem_iff_getElem.mp h
  obtain ⟨o, _, z⟩ := m.at_ (n := n) (a := a) (by rw [← e]; exact List.getElem?_eq_getElem hn)
  exact ⟨o, z⟩
theorem Sim.notMem (m : Sim D H ι s) {a : Addr} (h : H a = none) : a ∉ ι.a := fun z => by
  obtain ⟨o, y⟩ := m.mem z
  obtain ⟨u, e⟩ := y.ex
  rw [h] at e; cases e
theorem Sim.notHd (m : Sim D H ι s) {a : Addr} (h : H a = none) : ∀ q, ι.hd ≠ some (a, q) := fun q z => by
  have := m.hand
  cases e : s.d with
  | none => rw [e] at this; rw [this] at z; cases z
  | some d =>
    rw [e] at this
    obtain ⟨p, q', e1, hh⟩ := this
    rw [e1] at z; cases z
    rw [hh.1] at h; cases h
/-- a tuple stays behind an update at a place that holds no locked thing -/
theorem tupAt_upd {a b : Addr} {o : HO} {xs : List V} (h : TupAt H a xs) (hf : ∀ ob u, H b ≠ some (.frz ob u)) : TupAt (upd H b o) a xs := by
  obtain ⟨ob, e, c, d⟩ := h
  exact ⟨ob, by rw [upd_ne (fun z => hf ob _ (by rw [← z]; exact e))]; exact e, c, d⟩
/-- a new object that is not told of -/
theorem Ext.fresh {p : Addr} {o : HO} (hp : H p = none) : Ext K ι H ι (upd H p o) := by
  refine ⟨⟨[], by simp⟩, fun _ h => .inl h, fun _ h => h, fun h p q h' => (by rw [h] at h'; cases h'), rfl, fun a u e _ _ => by rw [upd_ne (ne_of_none e hp)]; exact e, fun a h => ?_, fun a xs h => tupAt_upd h (by rw [hp]; simp)⟩
  by_cases z : a = p
  · subst z; exact hp
  · rwa [upd_ne z] at h
theorem Sim.keepAll (m : Sim D H ι s) (e : Ext D.K ι H ι H') (k : ∀ a o, H a = some o → H' a = some o) : Sim D H' ι s := by
  refine ⟨m.len, m.nd, fun n o a h1 h2 => ?_, ?_, fun a h => ?_⟩
  · have z := m.obj n o a h1 h2
    obtain ⟨u, hu⟩ := z.ex
    exact z.mono e.to (by rw [hu, k a u hu])
  · have := m.hand
    cases e : s.d with
    | none => rw [e] at this; exact this
    | some d =>
      rw [e] at this
      obtain ⟨p, q, e1, h1, h2, h3⟩ := this
      exact ⟨p, q, e1, k _ _ h1, k _ _ h2, h3⟩
  · obtain ⟨h1, h2⟩ := m.scr a h
    refine ⟨h1, ?_⟩
    rcases h2 with h2 | ⟨⟨o, h2⟩, h3⟩
    · exact .inl h2
    · exact .inr ⟨⟨o, k _ _ h2⟩, h3⟩
theorem Sim.fresh (m : Sim D H ι s) {p : Addr} {o : HO} (hp : H p = none) : Sim D (upd H p o) ι s := m.keepAll (Ext.fresh hp) fun a u e => by rw [upd_ne (ne_of_none e hp)]; exact e
abbrev Inj.add (ι : Inj) (p : Addr) : Inj := { ι with a := ι.a ++ [p] }
/-- what is new is told of: it is the heap's last object -/
theorem Ext.add {p : Addr} (e : Ext K ι H ι' H') (hp : H p = none) : Ext K ι H (ι'.add p) H' := by
  obtain ⟨t, ht⟩ := e.pre
  refine ⟨⟨t ++ [p], by show ι'.a ++ [p] = _; rw [ht, List.append_assoc]⟩, fun a h => ?_, e.hd, e.hdn, e.sc, e.keep, e.stay, e.tup⟩
  rcases List.mem_append.mp h with h | h
  · exact e.new a h
  · have : a = p := by simpa using h
    subst this; exact .inr hp
theorem Inj.get_add {ι : Inj} {p : Addr} : (ι.add p).a[ι.a.length]? = some p := by simp [Inj.add]
theorem Inj.lt_add {ι : Inj} {p : Addr} {n : Nat} {a : Addr} (h : (ι.add p).a[n]? = some a) : ι.a[n]? = some a ∨ (n = ι.a.length ∧ a = p) := by
  by_cases l : n < ι.a.length
  · left
    have h' : (ι.a ++ [p])[n]? = some a := h
    rwa [List.getElem?_append_left l] at h'
  · right
    have h' : (ι.a ++ [p])[n]? = some a := h
    rw [List.getElem?_append_right (by omega)] at h'
    have z : n - ι.a.length = 0 := by
      have := (List.getElem?_eq_some_iff.mp h').1
      simp at this
      omega
    rw [z] at h'
    simp at h'
    exact ⟨by omega, h'.symm⟩
theorem Ext0.add {p : Addr} : Ext0 K ι H (ι.add p) H := ⟨fun {n a} h => by
  show (ι.a ++ [p])[n]? = some a
  rw [List.getElem?_append_left (List.getElem?_eq_some_iff.mp h).1]
  exact h, fun _ h => h, rfl, fun _ _ h => h⟩
theorem Sim.add (m : Sim D H ι s) {p : Addr} {o : Obj} (hn : p ∉ ι.a) (hh : ∀ a b, ι.hd = some (a, b) → p ≠ a ∧ p ≠ b) (h : RelObj D H (ι.add p) o p) : Sim D H (ι.add p) { s with h := s.h ++ [o] } := by
  refine ⟨by simp [m.len], ?_, fun n u a h1 h2 => ?_, ?_, fun a h => ?_⟩
  · show (ι.a ++ [p]).Nodup
    rw [List.nodup_append]
    exact ⟨m.nd, by simp, fun a ha b hb => by
      have : b = p := by simpa using hb
      subst this
      intro z; subst z; exact hn ha⟩
  · rcases Inj.lt_add h2 with h2 | ⟨rfl, rfl⟩
    · have l : n < s.h.length := by rw [← m.len]; exact (List.getElem?_eq_some_iff.mp h2).1
      have h1' : (s.h ++ [o])[n]? = some u := h1
      rw [List.getElem?_append_left l] at h1'
      exact (m.obj n u a h1' h2).mono Ext0.add rfl
    · have h1' : (s.h ++ [o])[ι.a.length]? = some u := h1
      rw [m.len] at h1'
      simp at h1'
      subst h1'
      exact h
  · have := m.hand
    cases e : s.d with
    | none => rw [e] at this; exact this
    | some d =>
      rw [e] at this
      obtain ⟨a, b, e1, h1, h2, h3, h4, h5⟩ := this
      refine ⟨a, b, e1, h1, h2, fun z => ?_, fun z => ?_, h5⟩
      · rcases List.mem_append.mp z with z | z
        · exact h3 z
        · exact (hh a b e1).1 (Eq.symm (by simpa using z))
      · rcases List.mem_append.mp z with z | z
        · exact h4 z
        · exact (hh a b e1).2 (Eq.symm (by simpa using z))
  · obtain ⟨h1, h2⟩ := m.scr a h
    refine ⟨h1, ?_⟩
    rcases h2 with h2 | ⟨⟨ob, h2⟩, h3, h4⟩
    · exact .inl h2
    · refine .inr ⟨⟨ob, h2⟩, fun z => ?_, h4⟩
      rcases List.mem_append.mp z with z | z
      · exact h3 z
      · have : a = p := by simpa using z
        subst this
        exact RelObj.noFrz ‹_› _ _ h2
/-- a new object, laid and told of -/
theorem Sim.new (m : Sim D H ι s) {p : Addr} {o : Obj} {u : HO} (hp : H p = none) (h : ∀ ι' : Inj, Ext0 D.K ι H ι' (upd H p u) → RelObj D (upd H p u) ι' o p) :
    Sim D (upd H p u) (ι.add p) { s with h := s.h ++ [o] } ∧ Ext D.K ι H (ι.add p) (upd H p u) := by
  have e : Ext D.K ι H ι (upd H p u) := Ext.fresh hp
  have e' : Ext D.K ι H (ι.add p) (upd H p u) := e.add hp
  refine ⟨(m.fresh hp).add (m.notMem hp) (fun a b z => ⟨fun y => ?_, fun y => ?_⟩) (h _ e'.to), e'⟩
  · subst y; exact m.notHd hp b z
  · subst y
    have := m.hand
    cases e : s.d with
    | none => rw [e] at this; rw [this] at z; cases z
    | some d =>
      rw [e] at this
      obtain ⟨p', q', e1, hh⟩ := this
      rw [e1] at z; cases z
      rw [hh.2.1] at hp; cases hp
/-- an object of ours is written -/
theorem Sim.write (m : Sim D H ι s) {n : Nat} {a : Addr} {o o' : Obj} {u : HO} (ha : ι.a[n]? = some a) (ho : s.h[n]? = some o) (h : ∀ ι' : Inj, Ext0 D.K ι H ι' (upd H a u) → RelObj D (upd H a u) ι' o' a) :
    Sim D (upd H a u) ι (setO s n o') ∧ Ext D.K ι H ι (upd H a u) := by
  have ro := m.obj n o a ho ha
  obtain ⟨ob, hob⟩ := ro.ex
  have am : a ∈ ι.a := List.mem_of_getElem? ha
  have e : Ext D.K ι H ι (upd H a u) := by
    refine ⟨⟨[], by simp⟩, fun _ h => .inl h, fun _ h => h, fun h p q h' => (by rw [h] at h'; cases h'), rfl, fun b v e nb _ => by rw [upd_ne (fun z => nb (by rw [z]; exact am))]; exact e, fun b h => ?_, fun b xs h => tupAt_upd h ro.noFrz⟩
    by_cases z : b = a
    · subst z; rw [upd_same] at h; cases h
    · rwa [upd_ne z] at h
  refine ⟨⟨by simp [setO, m.len], m.nd, fun k v b h1 h2 => ?_, ?_, fun b h => ?_⟩, e⟩
  · by_cases z : k = n
    · subst z
      rw [ha] at h2; cases h2
      have l : k < s.h.length := (List.getElem?_eq_some_iff.mp ho).1
      have h1' : (s.h.set k o')[k]? = some v := h1
      rw [List.getElem?_set_self l] at h1'
      cases h1'
      exact h _ e.to
    · have h1' : (s.h.set n o')[k]? = some v := h1
      rw [List.getElem?_set_ne (Ne.symm z)] at h1'
      refine (m.obj k v b h1' h2).mono e.to (upd_ne fun y => ?_)
      subst y
      have l1 := (List.getElem?_eq_some_iff.mp h2).1
      have l2 := (List.getElem?_eq_some_iff.mp ha).1
      have e1 := (List.getElem?_eq_some_iff.mp h2).2
      have e2 := (List.getElem?_eq_some_iff.mp ha).2
      exact z ((List.getElem_inj m.nd).mp (e1.trans e2.symm))
  · have := m.hand
    cases e : s.d with
    | none => rw [e] at this; simp only [setO]; rw [e]; exact this
    | some d =>
      rw [e] at this
      obtain ⟨p, q, e1, h1, h2, h3, h4, h5⟩ := this
      simp only [setO]
      rw [e]
      exact ⟨p, q, e1, by rw [upd_ne (show p ≠ a from fun z => h3 (by rw [z]; exact am))]; exact h1, by rw [upd_ne (show q ≠ a from fun z => h4 (by rw [z]; exact am))]; exact h2, h3, h4, h5⟩
  · obtain ⟨h1, h2⟩ := m.scr b h
    refine ⟨h1, ?_⟩
    rcases h2 with h2 | ⟨⟨ob, h2⟩, h3, h4⟩
    · exact .inl h2
    · exact .inr ⟨⟨ob, by rw [upd_ne (show b ≠ a from fun z => h3 (by rw [z]; exact am))]; exact h2⟩, h3, h4⟩
end
end U
namespace HT
open PySem PyProof.Rows
open PySem.SeqAt
open PySem.AutoSeq1 (wpAny_loadPart')
open PySem.MeetsSeq PySem.MeetsSeq2 PySem.MeetsSeq3
variable {prog : Program} {w : World} {A : Around} {E : Value → Shared → Prop} {s : Shared}
theorem adjust_rev (n : Nat) : Builtin.Slice.sliceAdjust none none (-1) (n : Int) = ((n : Int) - 1, -1) := by
  unfold Builtin.Slice.sliceAdjust
  simp
theorem places_rev (n : Nat) : Builtin.Slice.slicePlaces ((n : Int) - 1) (-1) (-1) = n := by
  unfold Builtin.Slice.slicePlaces
  simp
  split <;> omega
theorem sliceApplied_rev {sl : Addr} {vl vu vs : Value} {n : Nat} {Q : Int × Int × Nat → Shared → Prop} (hs : s.heap.IsSliceOf sl vl vu vs) (pl : IsPart vl none) (pu : IsPart vu none) (ps : IsPart vs (some (-1)))
    (h : Q ((n : Int) - 1, -1, n) s) : wpAny (model prog w) A (Builtin.Slice.sliceApplied (.ref sl) (pure (n : Int))) Q E s := by
  obtain ⟨os, hos, hcs, hds⟩ := id hs
  unfold Builtin.Slice.sliceApplied Builtin.Slice.sliceFields
  refine wpAny_bind (wpAny_bind (wpAny_field hos hds (x := vl) rfl (wpAny_bind (wpAny_field hos hds (x := vu) rfl (wpAny_bind (wpAny_field hos hds (x := vs) rfl (wpAny_pure ?_)))))))
  refine wpAny_bind (slicePart_ ps ?_)
  show wpAny _ _ (if ((-1 : Int) == 0) = true then _ else _) _ _ s
  rw [if_neg (by decide)]
  refine wpAny_bind (slicePart_ pl (wpAny_bind (slicePart_ pu (wpAny_bind (wpAny_pure ?_)))))
  show wpAny _ _ (match Builtin.Slice.sliceAdjust none none (-1) (n : Int) with | (lo, hi) => pure (lo, (-1 : Int), Builtin.Slice.slicePlaces lo hi (-1))) _ _ s
  rw [adjust_rev n]
  show wpAny _ _ (pure ((n : Int) - 1, (-1 : Int), Builtin.Slice.slicePlaces ((n : Int) - 1) (-1) (-1))) _ _ s
  rw [places_rev]
  exact wpAny_pure h
theorem fm_congr {α β : Type} {f g : α → Option β} : ∀ {l : List α}, (∀ x ∈ l, f x = g x) → l.filterMap f = l.filterMap g
  | [], _ => rfl
  | a :: l, h => by
    rw [List.filterMap_cons, List.filterMap_cons, h a List.mem_cons_self, fm_congr fun x hx => h x (List.mem_cons_of_mem _ hx)]
theorem pick_rev (xs : Array Value) : ((List.range xs.size).filterMap fun (m : Nat) => xs[(((xs.size : Int) - 1) + (m : Int) * (-1)).toNat]?).toArray = xs.toList.reverse.toArray := by
  congr 1
  have e : (List.range xs.size).filterMap (fun (m : Nat) => xs[(((xs.size : Int) - 1) + (m : Int) * (-1)).toNat]?) = (List.range xs.size).map fun m => xs.toList.reverse.getD m .none := by
    rw [← List.filterMap_eq_map]
    refine fm_congr fun m hm => ?_
    have hm' : m < xs.size := List.mem_range.mp hm
    have hl : (((xs.size : Int) - 1) + (m : Int) * (-1)).toNat = xs.size - 1 - m := by omega
    rw [hl]
    have h2 : xs.size - 1 - m < xs.size := by omega
    rw [Array.getElem?_eq_getElem h2]
    simp [List.getD_eq_getElem?_getD, hm']
  rw [e]
  apply List.ext_getElem
  · simp
  · intro i h1 h2
    simp at h1 h2
    simp [List.getD_eq_getElem?_getD, h1]
theorem getItem_tuple_rev {t sl : Addr} {items : Array Value} {vl vu vs : Value} {Q : Value → Shared → Prop} (ht : IsTup s.heap t items) (hs : s.heap.IsSliceOf sl vl vu vs) (pl : IsPart vl none) (pu : IsPart vu none) (ps : IsPart vs (some (-1)))
    (h : Q (.ref s.heap.objs.size) { s with heap := s.heap.push { cls := .type "tuple", data := .seq items.toList.reverse.toArray } })
    (hsz : items.size ≤ sizeLine) : wpAny (model prog w) A (getItem (.ref t) (.ref sl)) Q E s := by
  have htake : sizeOk (.seq items.toList.reverse.toArray) := by
    show (items.toList.reverse.toArray).size ≤ sizeLine
    rw [List.size_toArray, List.length_reverse, Array.length_toList]
    omega
  obtain ⟨os, hos, hcs, hds⟩ := id hs
  have hTs : s.TypeIs (.ref sl) "slice" := ⟨os, hos, hcs⟩
  unfold getItem
  try with_reducible refine wpAny_holding ?_
  first | refine wpAny_bind (wpAny_pure ?_) | skip
  refine wpAny_bind (wpAny_sequenceKey ht.typeIs (by decide) ?_)
  refine wpAny_bind (wpAny_callSpecial?_slot (name := Str.ofString "__getitem__") ht.typeIs PyProof.Rows.slot_tuple_getitem
    (wpAny_call_entry PyProof.Rows.slot_tuple_getitem ht.typeIs entry_tuple_getitem ?_ (args_tuple_getitem _ _)))
  show wpAny _ _ (Builtin.Tuple.tupleItemsOf (.ref t) >>= _) _ _ s
  refine wpAny_bind (tupleItemsOf_ ht ?_)
  refine wpAny_bind (wpAny_typeOf hTs ?_)
  rw [if_pos (by decide)]
  refine wpAny_bind (sliceApplied_rev hs pl pu ps ?_)
  have hno : ¬ ((((items.size : Int) - 1) == 0 && (-1 : Int) == 1 && items.size == items.size) = true) := by
    intro q
    rw [Bool.and_eq_true, Bool.and_eq_true] at q
    exact absurd q.1.2 (by decide)
  show wpAny _ _ (if (((items.size : Int) - 1) == 0 && (-1 : Int) == 1 && items.size == items.size) = true then _ else _) _ _ s
  rw [if_neg hno, pick_rev]
  first
    | exact wpAny_bind (m := Builtin.Tuple.tupleExact _) (wpAny_newObj_type (wpAny_pure ⟨_, rfl, wpAny_pure h⟩) htake)
    | exact wpAny_bind (m := Builtin.Tuple.tupleExact _) (wpAny_newObj_type (wpAny_bind (wpAny_pure (wpAny_pure ⟨_, rfl, wpAny_pure h⟩))) htake)
    | exact wpAny_bind (wpAny_bind (m := Builtin.Tuple.tupleExact _) (wpAny_newObj_type (wpAny_pure (wpAny_pure ⟨_, rfl, wpAny_pure h⟩)) htake))
    | exact wpAny_bind (wpAny_bind (m := Builtin.Tuple.tupleExact _) (wpAny_newObj_type (wpAny_pure ⟨_, rfl, wpAny_pure h⟩) htake))
end HT
namespace U
open PySem L2 PySem.Spec PyProof.Rows
section
variable {X : L2.Cx} {pins : List (Addr × PySem.Obj)} {σ : L2.St} {H : Hp} {s : Shared}
/-- a tuple is laid, known to the object -/
theorem laidT {its : List Value} {ws : List V} {tk : Nat} (I : L2.Inv X pins σ H s) (r : Vals ws its) (hz : ws.length ≤ sizeLine) {Q : VK} (q : ∀ p H', H p = none → NewT H p ws H' → Q (.ref p) H') :
    EP X pins σ Q (.ref s.heap.objs.size) { s with heap := s.heap.push { cls := .type "tuple", data := .seq its.toArray }, toks := tk } := by
  refine ⟨.ref s.heap.objs.size, upd H s.heap.objs.size (.frz { cls := .type "tuple", data := .seq its.toArray } (.tup ws)), I.laid (t' := tk) (fun b u e => Heap.get?_push_of_some _ e) (Nat.le_refl _) ?_, rfl, q _ _ (I.hok.fresh (Nat.le_refl _)) ⟨_, rfl, rfl, rfl, rfl⟩⟩
  exact ⟨Heap.get?_push_size _ rfl, hz, its, r, ⟨_, Heap.get?_push_size _ rfl, rfl, _, rfl⟩⟩
def tTupF (t : TA) : TE := fun σ H Q => t σ H fun xs H1 => xs.length ≤ sizeLine ∧ ∀ p H', H1 p = none → NewT H1 p xs H' → Q (.ref p) H'
theorem pe_tupF {es : List Expr} {t : TA} {x1 : Nat} {pos : Pos} (h : PA X es t) : PE X (.Tuple es x1 pos) (tTupF t) := by
  refine ⟨fun pins s σ H Q I hq => ?_⟩
  refine wpAny_Tuple_spliced (thn (h.run pos pins s σ H _ I hq) fun us s1 ⟨xs, H1, I1, r, z, q⟩ => ⟨by rw [← r.length]; exact z, ?_⟩)
  exact laidT (tk := s1.toks) I1 r z q
/-- tuple(x): of a list a new one, a tuple itself -/
theorem call_tupF : CallR X (.type "tuple") (fun xs H Q => ∃ p ys, xs = [.ref p] ∧ ((SqL X.K H p ys ∧ ∀ l H', H l = none → NewT H l ys H' → Q (.ref l) H') ∨ (SqT X.K H p ys ∧ Q (.ref p) H))) := by
  intro pins s σ H xs us Q I r h
  obtain ⟨p, ys, rfl, h⟩ := h
  obtain ⟨u, rfl, rx⟩ := vals1 r
  cases rx
  rcases h with ⟨hq, q⟩ | ⟨hq, q⟩
  · obtain ⟨its, r', pl, hz⟩ := I.list hq
    have hlen := r'.length
    refine call_tuple_list pl.isList (fun h' kp => ?_) (by simp only [List.size_toArray] <;> omega)
    have I1 : L2.Inv X pins σ H { s with heap := h' } := I.kept (t' := s.toks) kp
    exact laidT (tk := s.toks) I1 r' hz q
  · obtain ⟨its, r', pl, hz⟩ := I.tuple hq
    exact call_tuple_same pl ⟨.ref p, H, I, rfl, q⟩
def rCatF (K : PySem.W.Frag) : R2 := fun x y H Q => ∃ a b xs ys, x = .ref a ∧ y = .ref b ∧ SqT K H a xs ∧ SqT K H b ys ∧ xs.length + ys.length ≤ sizeLine ∧
  (xs = [] → Q (.ref b) H) ∧ (xs ≠ [] → ys = [] → Q (.ref a) H) ∧ (xs ≠ [] → ys ≠ [] → ∀ p H', H p = none → NewT H p (xs ++ ys) H' → Q (.ref p) H')
theorem op_catF : OpR X (binaryOp .Add) (rCatF X.K) := by
  intro pins s σ H x y v u Q I rx ry h
  obtain ⟨a, b, xs, ys, rfl, rfl, ha, hb, hz, q0, q1, q2⟩ := h
  cases rx
  cases ry
  obtain ⟨its, r1, p1, _⟩ := I.tuple ha
  obtain ⟨its2, r2, p2, _⟩ := I.tuple hb
  have l1 := r1.length
  have l2 := r2.length
  by_cases hx : xs = []
  · subst hx
    cases r1
    exact cat_tup0 p1 p2 ⟨.ref b, H, I, rfl, q0 rfl⟩
  · refine HT.cat_tup p1 p2 (fun z => hx ((L2.Vals.nil_iff r1).mp z)) (fun z => ⟨.ref a, H, I, rfl, q1 hx ((L2.Vals.nil_iff r2).mp z)⟩) (fun z => ?_) (by omega)
    exact laidT (tk := s.toks) I (r1.append r2) (by rw [List.length_append]; exact hz) (q2 hx fun y => z ((L2.Vals.nil_iff r2).mpr y))
def rSlF (K : PySem.W.Frag) : V → Option Int → Option Int → Hp → VK → Prop := fun x lo hi H Q => ∃ a xs, x = .ref a ∧ SqT K H a xs ∧
  (HT.sIx xs.length 0 lo = 0 ∧ HT.sIx xs.length xs.length hi = xs.length → Q (.ref a) H) ∧ (¬ (HT.sIx xs.length 0 lo = 0 ∧ HT.sIx xs.length xs.length hi = xs.length) → ∀ p H', H p = none → NewT H p (cutV xs lo hi) H' → Q (.ref p) H')
theorem sl_tupF : SlR X (rSlF X.K) := by
  intro pins s σ H x v vl vu lo hi sl Q I rx hs pl pu h
  obtain ⟨a, xs, rfl, hx, q1, q2⟩ := h
  cases rx
  obtain ⟨its, r, ht, hz⟩ := I.tuple hx
  have hlen : its.toArray.size = xs.length := by rw [List.size_toArray]; exact r.length.symm
  refine ⟨"tuple", _, PyProof.Rows.slot_tuple_getitem.lookup, ht.typeIs, ?_⟩
  by_cases hw : HT.sIx xs.length 0 lo = 0 ∧ HT.sIx xs.length xs.length hi = xs.length
  · exact getItem_tuple_whole ht hs pl pu (by rw [hlen]; exact hw) ⟨.ref a, H, I, rfl, q1 hw⟩
  · refine HT.getItem_tuple_cut ht hs pl pu (by rw [hlen]; exact hw) ?_ (by rw [hlen]; exact hz)
    rw [hlen]
    refine laidT (tk := s.toks) (ws := cutV xs lo hi) I ?_ (Nat.le_trans (cutV_length _ _ _) hz) (q2 hw)
    exact (r.drop _).take _
def tRevA (K : PySem.W.Frag) (te : TE) : TE := fun σ H Q => te σ H fun x H1 => ∃ a xs, x = .ref a ∧ ((SqL K H1 a xs ∧ ∀ p, H1 p = none → Q (.ref p) (upd H1 p (.lst xs.reverse))) ∨ (SqT K H1 a xs ∧ ∀ p H', H1 p = none → NewT H1 p xs.reverse H' → Q (.ref p) H'))
theorem pe_revB {e : Expr} {te : TE} {k : Nat} {p1 p2 p3 pos : Pos} (he : PE X e te) : PE X (.Subscript e (.Slice none none (some (.UnaryOp .USub (.Constant (.int 1) k p1) p2)) p3) pos) (tRevA X.K te) := by
  refine ⟨fun pins s σ H Q I h => ?_⟩
  refine Subscript_ (thn (he.run pins s σ H _ I h) fun v s1 ⟨x, H1, I1, r1, q1⟩ => ?_)
  obtain ⟨a, xs, ex, q⟩ := q1
  subst ex
  cases r1
  have hst : PO X (some (.UnaryOp .USub (.Constant (.int 1) k p1) p2)) (tPart (tUn (rU fun i => .int (-i)) (tC (.int 1)))) := po_some (pe_un un_neg pe_int)
  refine wpAny_Slice (thn (po_none.run pins s1 σ H1 (fun o H2 => o = none ∧ H2 = H1) I1 ⟨rfl, rfl⟩) fun vl s2 ⟨l, H2, I2, pl, el, e2⟩ => ?_)
  subst el e2
  refine thn (po_none.run pins s2 σ H2 (fun o H3 => o = none ∧ H3 = H2) I2 ⟨rfl, rfl⟩) fun vu s3 ⟨u, H3, I3, pu, eu, e3⟩ => ?_
  subst eu e3
  refine thn (hst.run pins s3 σ H3 (fun o H4 => o = some (-1) ∧ H4 = H3) I3 ⟨1, rfl, -1, rfl, rfl, rfl⟩) fun vs s4 ⟨o, H4, I4, ps, eo, e4⟩ => ?_
  subst eo e4
  have I5 : L2.Inv X pins σ H4 { s4 with heap := s4.heap.push { cls := .type "slice", data := .fields #[vl, vu, vs] } } := I4.kept (t' := s4.toks) fun b ob q => Heap.get?_push_of_some _ q
  show wpAny (model X.prog X.w) X.A (subscriptTail e (.Slice none none (some (.UnaryOp .USub (.Constant (.int 1) k p1) p2)) p3) (.ref a) (.ref s4.heap.objs.size)) (EP X pins σ Q) X.xe { s4 with heap := s4.heap.push { cls := .type "slice", data := .fields #[vl, vu, vs] } }
  rcases q with ⟨hx, q⟩ | ⟨hx, q⟩
  · obtain ⟨its, r, ht, hz⟩ := I5.list hx
    have hlen := r.length
    refine tail_any (ops := [.ref a, .ref s4.heap.objs.size]) ht.isList.typeIs (PySem.slot_list_getitem.lookup) ?_ (by with_unfolding_all rfl)
    refine wpAny_getItem_list_slice ht.isList (Heap.IsSliceOf.new _ vl vu vs) pl pu ps (by decide) ?_ (by rw [List.size_toArray]; omega)
    rw [PySem.W.krv_pick]
    refine ⟨.ref _, _, I5.laid (t' := s4.toks) (o := .lst xs.reverse) (fun b ob q => Heap.get?_push_of_some _ q) (Nat.le_refl _) ?_, rfl, q _ (I5.hok.fresh (Nat.le_refl _))⟩
    exact ⟨by rw [List.length_reverse]; exact hz, _, 0, r.reverse, Heap.get?_push_size _ rfl⟩
  · obtain ⟨its, r, ht, hz⟩ := I5.tuple hx
    have hlen := r.length
    refine tail_any (ops := [.ref a, .ref s4.heap.objs.size]) ht.typeIs PyProof.Rows.slot_tuple_getitem.lookup ?_ (by with_unfolding_all rfl)
    refine HT.getItem_tuple_rev ht (Heap.IsSliceOf.new _ vl vu vs) pl pu ps ?_ (by rw [List.size_toArray]; omega)
    exact laidT (tk := s4.toks) I5 r.reverse (by rw [List.length_reverse]; exact hz) q
end
end U
/-! Mp2b: readings of the small language; its expressions are sound. -/
namespace U
open PySem L2
def RelEnv (K : PySem.W.Frag) (H : Hp) (ι : Inj) (env : Env) (σ : L2.St) : Prop := env.length = σ.length ∧ ∀ (i : Nat) (v : Val), env[i]? = some (some v) → ∃ w, σ[i]? = some (some w) ∧ RelVal K H ι v w
def RelExc (D : Wd) (H : Hp) (e : Exc) (c : Value) (d : Option Addr) : Prop := c = .ref (D.cA e.cls) ∧ match e.fs with
  | [] => d = none
  | fs => ∃ dx fws, d = some dx ∧ H dx = some (.xd fws) ∧ Paired (fun (p : Nat × PV) (q : Str × V) => D.fN p.1 = q.1 ∧ RelPV D.K H p.2 q.2) fs fws
def post {α β : Type} (D : Wd) (E : XK) (ι : Inj) (H : Hp) (rel : Inj → Hp → α → β → Prop) (Q : β → Hp → Prop) : R α → Prop
  | .ok v s => ∀ (ι' : Inj) (H' : Hp) (w : β), Ext D.K ι H ι' H' → Sim D H' ι' s → rel ι' H' v w → Q w H'
  | .exc e s => ∀ (ι' : Inj) (H' : Hp) (c : Value) (d : Option Addr), Ext D.K ι H ι' H' → Sim D H' ι' s → RelExc D H' e c d → E c d H'
  | .bot => False
abbrev relV (D : Wd) : Inj → Hp → Val → V → Prop := fun ι H v w => RelVal D.K H ι v w
abbrev relVs (D : Wd) : Inj → Hp → List Val → List V → Prop := fun ι H => Paired (RelVal D.K H ι)
abbrev relE {α : Type} : Inj → Hp → α → α → Prop := fun _ _ a b => a = b
/-- a reading by the interpreter's run -/
def tG {α β : Type} (D : Wd) (E : XK) (rel : Inj → Hp → α → β → Prop) (f : Env → S → R α) : L2.St → Hp → (β → Hp → Prop) → Prop := fun σ H Q =>
  ∃ ι env s, Sim D H ι s ∧ RelEnv D.K H ι env σ ∧ post D E ι H rel Q (f env s)
section
variable {D : Wd} {E : XK} {α β γ δ : Type} {rel : Inj → Hp → α → β → Prop} {rel' : Inj → Hp → γ → δ → Prop} {ι ι' : Inj} {H H' : Hp} {s : S}
theorem RelEnv.mono {env : Env} {σ : L2.St} (h : RelEnv D.K H ι env σ) (e : Ext D.K ι H ι' H') : RelEnv D.K H' ι' env σ :=
  ⟨h.1, fun i v q => let ⟨w, a, b⟩ := h.2 i v q; ⟨w, a, b.mono e.to⟩⟩
theorem post.ext {x : R α} {Q : β → Hp → Prop} (h : post D E ι H rel Q x) (e : Ext D.K ι H ι' H') : post D E ι' H' rel Q x := by
  cases x with
  | ok v s => exact fun ι2 H2 w e2 m r => h ι2 H2 w (e.trans e2) m r
  | exc x s => exact fun ι2 H2 c d e2 m r => h ι2 H2 c d (e.trans e2) m r
  | bot => exact h
theorem post.imp {x : R α} {Q Q' : β → Hp → Prop} (h : post D E ι H rel Q x) (i : ∀ w H, Q w H → Q' w H) : post D E ι H rel Q' x := by
  cases x with
  | ok v s => exact fun ι2 H2 w e2 m r => i _ _ (h ι2 H2 w e2 m r)
  | exc x s => exact h
  | bot => exact h
theorem post.bind {x : R α} {g : α → S → R γ} {Q : δ → Hp → Prop} (h : post D E ι H rel' Q (x.bind g)) :
    post D E ι H rel (fun w H1 => ∃ ι1 s1 a, Ext D.K ι H ι1 H1 ∧ Sim D H1 ι1 s1 ∧ rel ι1 H1 a w ∧ post D E ι1 H1 rel' Q (g a s1)) x := by
  cases x with
  | ok v s => exact fun ι2 H2 w e2 m r => ⟨ι2, s, v, e2, m, r, post.ext (show post D E ι H rel' Q (g v s) from h) e2⟩
  | exc x s => exact h
  | bot => exact h
theorem post.now {v : α} {w : β} {Q : β → Hp → Prop} (h : post D E ι H rel Q (.ok v s)) (m : Sim D H ι s) (r : rel ι H v w) : Q w H := h ι H w Ext.refl m r
end
section
variable {D : Wd} {E : XK} {X : L2.Cx} {C : Calls} {ι : Inj} {H : Hp} {s : S} {Q : VK}
theorem pe_by {e : Expr} {t t' : TE} (h : PE X e t) (i : ∀ σ H Q, t' σ H Q → t σ H Q) : PE X e t' := ⟨fun pins s σ H Q I q => h.run pins s σ H Q I (i σ H Q q)⟩
theorem pt_by {e : Expr} {t t' : TT} (h : PT X e t) (i : ∀ σ H Q, t' σ H Q → t σ H Q) : PT X e t' := ⟨fun pins s σ H Q I q => h.run pins s σ H Q I (i σ H Q q)⟩
theorem pa_by {e : List Expr} {t t' : TA} (h : PA X e t) (i : ∀ σ H Q, t' σ H Q → t σ H Q) : PA X e t' := ⟨fun pos pins s σ H Q I q => h.run pos pins s σ H Q I (i σ H Q q)⟩
theorem opr_imp {f : Value → Value → Sem Value} {r r' : R2} (h : OpR X f r) (i : ∀ x y H Q, r' x y H Q → r x y H Q) : OpR X f r' := fun pins s σ H x y v u Q I rx ry q => h pins s σ H x y v u Q I rx ry (i x y H Q q)
theorem callr_imp {f : Value} {r r' : List V → Hp → VK → Prop} (h : CallR X f r) (i : ∀ x H Q, r' x H Q → r x H Q) : CallR X f r' := fun pins s σ H x u Q I rx q => h pins s σ H x u Q I rx (i x H Q q)
abbrev tE (D : Wd) (E : XK) (C : Calls) (m : Ex) : TE := tG D E (relV D) (ev C m)
abbrev tT (D : Wd) (E : XK) (C : Calls) (m : Ex) : TT := tG D E relE (evT C m)
abbrev tA (D : Wd) (E : XK) (C : Calls) (m : Exs) : TA := tG D E (relVs D) (evs C m)
/-! ### values read -/
theorem rv_p {K : PySem.W.Frag} {v : PV} {w : V} (h : RelVal K H ι (.p v) w) : RelPV K H v w := by cases h; assumption
theorem rv_non {K : PySem.W.Frag} {w : V} (h : RelVal K H ι (.p .non) w) : w = .non := by cases rv_p h; rfl
theorem rv_bool {K : PySem.W.Frag} {b : Bool} {w : V} (h : RelVal K H ι (.p (.bool b)) w) : w = .bl b := by cases rv_p h; rfl
theorem rv_int {K : PySem.W.Frag} {i : Int} {w : V} (h : RelVal K H ι (.p (.int i)) w) : w = .int i := by cases rv_p h; rfl
theorem rv_str {K : PySem.W.Frag} {l : List Nat} {w : V} (h : RelVal K H ι (.p (.str l)) w) : w = .str ⟨l.toArray⟩ ∧ StrOk l := by cases rv_p h; exact ⟨rfl, by assumption⟩
theorem rv_tup {K : PySem.W.Frag} {xs : List PV} {w : V} (h : RelVal K H ι (.p (.tup xs)) w) : ∃ a ws, w = .ref a ∧ TupAt H a ws ∧ xs.length ≤ sizeLine ∧ Paired (RelPV K H) xs ws := by
  cases rv_p h with | tup a b c => exact ⟨_, _, rfl, a, b, c⟩
theorem rv_t {K : PySem.W.Frag} {xs : List Val} {w : V} (h : RelVal K H ι (.t xs) w) : ∃ a ws, w = .ref a ∧ TupAt H a ws ∧ xs.length ≤ sizeLine ∧ Paired (RelVal K H ι) xs ws := by
  cases h with | t a b c => exact ⟨_, _, rfl, a, b, c⟩
theorem rv_r {K : PySem.W.Frag} {n : Nat} {w : V} (h : RelVal K H ι (.r n) w) : ∃ a, w = .ref a ∧ ι.a[n]? = some a := by cases h; exact ⟨_, rfl, by assumption⟩
/-- an object of ours, read -/
theorem Sim.list (m : Sim D H ι s) {n : Nat} {a : Addr} {xs : List Val} (ha : ι.a[n]? = some a) (ho : s.h[n]? = some (.list xs)) : ∃ ws, H a = some (.lst ws) ∧ xs.length ≤ sizeLine ∧ Paired (RelVal D.K H ι) xs ws := m.obj n _ a ho ha
theorem Sim.dict (m : Sim D H ι s) {n : Nat} {a : Addr} {xs : List (PV × Val)} (ha : ι.a[n]? = some a) (ho : s.h[n]? = some (.dict xs)) : ∃ ws, H a = some (.dK ws) ∧ xs.length ≤ sizeLine ∧ RelKV D.K H ι xs ws := m.obj n _ a ho ha
theorem Sim.inst (m : Sim D H ι s) {n : Nat} {a : Addr} {c : Nat} {xs : List (Nat × Val)} (ha : ι.a[n]? = some a) (ho : s.h[n]? = some (.inst c xs)) : ∃ dx ws, H a = some (.ins (D.cA c) dx ws) ∧ xs.length ≤ 100 ∧ RelFs D H ι xs ws ∧ D.okC c = true := m.obj n _ a ho ha
theorem pv_vals {K : PySem.W.Frag} {xs : List PV} {ws : List V} (h : Paired (RelPV K H) xs ws) : Paired (RelVal K H ι) (xs.map Val.p) ws := Pd.toMap (Paired.mono (fun _ _ q => .p q) h)
theorem allP_eq : ∀ {vs : List Val} {xs : List PV}, allP vs = some xs → vs = xs.map Val.p
  | [], xs, h => by simp [allP] at h; subst h; rfl
  | .p v :: r, xs, h => by
    simp only [allP, Option.map_eq_some_iff] at h
    obtain ⟨ys, h1, rfl⟩ := h
    rw [allP_eq h1]; rfl
  | .r _ :: _, _, h => by simp [allP] at h
  | .t _ :: _, _, h => by simp [allP] at h
  | .hd :: _, _, h => by simp [allP] at h
  | .sc :: _, _, h => by simp [allP] at h
theorem pv_of {K : PySem.W.Frag} {xs : List PV} {ws : List V} (h : Paired (RelVal K H ι) (xs.map Val.p) ws) : Paired (RelPV K H) xs ws := Paired.mono (fun _ _ q => rv_p q) (Pd.ofMap h)
/-- a tuple of such values -/
theorem rv_mk {K : PySem.W.Frag} {vs : List Val} {ws : List V} {a : Addr} (t : TupAt H a ws) (l : vs.length ≤ sizeLine) (h : Paired (RelVal K H ι) vs ws) : RelVal K H ι (mkTup vs) (.ref a) := by
  unfold mkTup
  cases e : allP vs with
  | none => exact .t t l h
  | some xs =>
    have z := allP_eq e
    subst z
    exact .p (.tup t (by simpa using l) (pv_of h))
theorem Ext.newT {K : PySem.W.Frag} {p : Addr} {ws : List V} {H' : Hp} (hp : H p = none) (n : NewT H p ws H') : Ext K ι H ι H' := by
  obtain ⟨o, rfl, _⟩ := n
  exact Ext.fresh hp
theorem Sim.newT {p : Addr} {ws : List V} {H' : Hp} (m : Sim D H ι s) (hp : H p = none) (n : NewT H p ws H') : Sim D H' ι s := by
  obtain ⟨o, rfl, _⟩ := n
  exact m.fresh hp
/-- a new tuple -/
theorem post.mkT {vs : List Val} {ws : List V} {p : Addr} {H' : Hp} (h : post D E ι H (relV D) Q (.ok (U.mkTup vs) s)) (m : Sim D H ι s) (hp : H p = none) (n : NewT H p ws H') (l : vs.length ≤ sizeLine) (r : Paired (RelVal D.K H ι) vs ws) : Q (.ref p) H' :=
  h ι _ _ (Ext.newT hp n) (m.newT hp n) (rv_mk n.at_ l (RelVal.monos (Ext.newT (K := D.K) hp n).to r))
theorem post.mkTup {vs : List PV} {ws : List V} {p : Addr} {H' : Hp} (h : post D E ι H (relV D) Q (.ok (.p (.tup vs)) s)) (m : Sim D H ι s) (hp : H p = none) (n : NewT H p ws H') (l : vs.length ≤ sizeLine) (r : Paired (RelPV D.K H) vs ws) : Q (.ref p) H' :=
  h ι _ _ (Ext.newT hp n) (m.newT hp n) (.p (.tup n.at_ l (RelPV.monos (Ext.newT (K := D.K) (ι := ι) hp n).tup r)))
/-- a new object -/
theorem post.mkNew {o : Obj} {u : HO} {p : Addr} (h : post D E ι H (relV D) Q (new o s)) (m : Sim D H ι s) (hp : H p = none) (r : ∀ ι' : Inj, Ext0 D.K ι H ι' (upd H p u) → RelObj D (upd H p u) ι' o p) : Q (.ref p) (upd H p u) := by
  obtain ⟨m', e'⟩ := m.new hp r
  exact h _ _ _ e' m' (.r (by rw [← m.len]; exact Inj.get_add))
theorem post.mkList {vs : List Val} {ws : List V} {p : Addr} (h : post D E ι H (relV D) Q (new (.list vs) s)) (m : Sim D H ι s) (hp : H p = none) (l : vs.length ≤ sizeLine) (r : Paired (RelVal D.K H ι) vs ws) : Q (.ref p) (upd H p (.lst ws)) :=
  h.mkNew m hp fun ι' e => ⟨ws, upd_same, l, RelVal.monos e r⟩
theorem small64_of {i : Int} (h : small64 i = true) : -(2 ^ 64) < i ∧ i < 2 ^ 64 := by
  obtain ⟨a, b⟩ := Bool.and_eq_true_iff.mp h
  exact ⟨of_decide_eq_true a, of_decide_eq_true b⟩
/-! ### operators -/
/-- an operator of values, as the interpreter has it -/
def OpS (D : Wd) (E : XK) (X : L2.Cx) (f : Value → Value → Sem Value) (g : Val → Val → S → R Val) : Prop := OpR X f fun x y H Q =>
  ∃ ι s a b, Sim D H ι s ∧ RelVal D.K H ι a x ∧ RelVal D.K H ι b y ∧ post D E ι H (relV D) Q (g a b s)
theorem arr_app (a b : List Nat) : ((⟨a.toArray⟩ : Str) ++ ⟨b.toArray⟩) = ⟨(a ++ b).toArray⟩ := by
  show (⟨a.toArray ++ b.toArray⟩ : Str) = _
  simp
theorem binP_add {a b v : PV} (h : binP .add a b = some v) : (∃ i j, a = .int i ∧ b = .int j ∧ v = .int (i + j)) ∨ (∃ i j, a = .str i ∧ b = .str j ∧ i.length + j.length ≤ LIM ∧ v = .str (i ++ j)) ∨
    ∃ i j, a = .tup i ∧ b = .tup j ∧ i.length + j.length ≤ LIM ∧ v = .tup (i ++ j) := by
  cases a <;> cases b <;> simp_all [binP]
theorem binop_pp {o : BOp} {a b : PV} (h : post D E ι H (relV D) Q (binop o (.p a) (.p b) s)) : ∃ v, binP o a b = some v ∧ post D E ι H (relV D) Q (.ok (.p v) s) := by
  simp only [binop] at h
  cases e : binP o a b with
  | none => simp only [e] at h; exact h.elim
  | some v => simp only [e] at h; exact ⟨v, rfl, h⟩
/-- both are data, both are objects, or an object and an int -/
theorem binop_cases {o : BOp} {a b : Val} (h : post D E ι H (relV D) Q (binop o a b s)) : (∃ x y, a = .p x ∧ b = .p y) ∨ (∃ x y, a = .r x ∧ b = .r y) ∨ ∃ x i, a = .r x ∧ b = .p (.int i) := by
  unfold binop at h
  split at h
  · exact .inl ⟨_, _, rfl, rfl⟩
  · exact .inr (.inl ⟨_, _, rfl, rfl⟩)
  · exact .inr (.inr ⟨_, _, rfl, rfl⟩)
  · exact h.elim
theorem ops_add (hK : X.K = D.K) : OpS D E X (binaryOp .Add) (binop .add) := by
  refine opr_imp ((op_add.or op_add_str).or (op_catF.or op_cat)) fun x y H Q ⟨ι, s, a, b, m, ra, rb, h⟩ => ?_
  rw [hK]
  rcases binop_cases h with ⟨a, b, rfl, rfl⟩ | ⟨i, j, rfl, rfl⟩ | ⟨i, j, rfl, rfl⟩
  · obtain ⟨v, e, h⟩ := binop_pp h
    rcases binP_add e with ⟨i, j, rfl, rfl, rfl⟩ | ⟨i, j, rfl, rfl, l, rfl⟩ | ⟨i, j, rfl, rfl, l, rfl⟩
    · exact .inl (.inl ⟨i, j, rv_int ra, rv_int rb, h.now m (.p (.int _))⟩)
    · obtain ⟨e1, l1⟩ := rv_str ra
      obtain ⟨e2, l2⟩ := rv_str rb
      refine .inl (.inr ⟨_, _, e1, e2, by rw [lim_eq]; simpa [Str.length] using l, ?_⟩)
      rw [arr_app]
      exact h.now m (.p (.str _ ⟨by rw [lim_eq]; simpa using l, fun c hc => (List.mem_append.mp hc).elim (l1.2 c) (l2.2 c)⟩))
    · obtain ⟨a, ws, rfl, t1, l1, p1⟩ := rv_tup ra
      obtain ⟨b, us, rfl, t2, l2, p2⟩ := rv_tup rb
      have q1 := Paired.length p1
      have q2 := Paired.length p2
      refine .inr (.inl ⟨a, b, ws, us, rfl, rfl, t1.sq, t2.sq, by rw [lim_eq]; omega, fun e => ?_, fun e e' => ?_, fun e e' p H' hp n => ?_⟩)
      · subst e
        have : i = [] := List.eq_nil_of_length_eq_zero (by simpa using q1)
        subst this
        exact h.now m (.p (.tup t2 l2 p2))
      · subst e'
        have : j = [] := List.eq_nil_of_length_eq_zero (by simpa using q2)
        subst this
        refine h.now m (.p (.tup t1 (by simpa using l1) (by simpa using p1)))
      · exact h.mkTup m hp n (by rw [lim_eq]; simpa using l) (Pd.app p1 p2)
  · obtain ⟨a, rfl, ha⟩ := rv_r ra
    obtain ⟨b, rfl, hb⟩ := rv_r rb
    simp only [binop] at h
    split at h
    · rename_i h0 h1 h2
      cases h0
      split at h
      · rename_i l
        obtain ⟨ws, w1, w2, w3⟩ := m.list ha h1
        obtain ⟨us, u1, u2, u3⟩ := m.list hb h2
        have q1 := Paired.length w3
        have q2 := Paired.length u3
        exact .inr (.inr ⟨a, b, ws, us, rfl, rfl, w1, u1, by rw [lim_eq]; omega, fun p hp => post.mkList (show post D E ι H (relV D) Q (new _ s) from h) m hp (by rw [lim_eq]; simpa using l) (Pd.app w3 u3)⟩)
      · exact h.elim
    · exact h.elim
  · exact h.elim
theorem rep_len {α : Type} (xs : List α) : ∀ n : Nat, (List.replicate n xs).flatten.length = xs.length * n
  | 0 => rfl
  | n + 1 => by rw [List.replicate_succ, List.flatten_cons, List.length_append, rep_len xs n, Nat.mul_succ]; omega
theorem binP_sub {a b v : PV} (h : binP .sub a b = some v) : ∃ i j, a = .int i ∧ b = .int j ∧ v = .int (i - j) := by
  cases a <;> cases b <;> simp_all [binP]
theorem binP_fdiv {a b v : PV} (h : binP .fdiv a b = some v) : ∃ i j, a = .int i ∧ b = .int j ∧ (0 < j ∧ j < 1073741824) ∧ v = .int (i / j) := by
  cases a <;> cases b <;> simp_all [binP]
theorem binP_mod {a b v : PV} (h : binP .mod a b = some v) : ∃ i j, a = .int i ∧ b = .int j ∧ 0 < j ∧ v = .int (i % j) := by
  cases a <;> cases b <;> simp_all [binP]
theorem binP_pow {a b v : PV} (h : binP .pow a b = some v) : ∃ i j, a = .int i ∧ b = .int j ∧ (0 ≤ j ∧ j ≤ 1000000 ∧ i.natAbs < 2 ^ 64) ∧ v = .int (i ^ j.toNat) := by
  cases a <;> cases b <;> simp_all [binP]
theorem binP_mul {a b v : PV} (h : binP .mul a b = some v) : ∃ i j, a = .int i ∧ b = .int j ∧ (small64 i || small64 j) = true ∧ v = .int (i * j) := by
  cases a <;> cases b <;> simp_all [binP]
theorem opsI {f : Value → Value → Sem Value} {o : BOp} {CC : Int → Int → Prop} {g : Int → Int → Int} (h : OpR X f (rI CC fun i j => .int (g i j)))
    (hb : ∀ {a b v : PV}, binP o a b = some v → ∃ i j, a = .int i ∧ b = .int j ∧ CC i j ∧ v = .int (g i j)) (hr : ∀ (a b : Val) (s : S), (∀ x y, ¬ (a = .p x ∧ b = .p y)) → binop o a b s = .bot) : OpS D E X f (binop o) := by
  refine opr_imp h fun x y H Q ⟨ι, s, a, b, m, ra, rb, h⟩ => ?_
  by_cases e : ∃ x y, a = .p x ∧ b = .p y
  · obtain ⟨a, b, rfl, rfl⟩ := e
    obtain ⟨v, e, h⟩ := binop_pp h
    obtain ⟨i, j, rfl, rfl, c, rfl⟩ := hb e
    exact ⟨i, j, rv_int ra, rv_int rb, c, h.now m (.p (.int _))⟩
  · rw [hr a b s fun x y z => e ⟨x, y, z⟩] at h
    exact h.elim
theorem rI_of0 {f : Value → Value → Sem Value} {g : Int → Int → V} (h : OpR X f (rI0 g)) : OpR X f (rI (fun _ _ => True) g) := opr_imp h fun x y H Q ⟨i, j, a, b, _, q⟩ => ⟨i, j, a, b, q⟩
theorem binop_pp_only {o : BOp} (ho : o ≠ .add ∧ o ≠ .mul) (a b : Val) (s : S) (h : ∀ x y, ¬ (a = .p x ∧ b = .p y)) : binop o a b s = .bot := by
  unfold binop
  split
  · exact absurd ⟨rfl, rfl⟩ (h _ _)
  · split
    · exact absurd rfl ho.1
    · rfl
  · split
    · exact absurd rfl ho.2
    · rfl
  · rfl
theorem ops_sub : OpS D E X (binaryOp .Sub) (binop .sub) := opsI (rI_of0 op_sub) (fun h => by obtain ⟨i, j, a, b, c⟩ := binP_sub h; exact ⟨i, j, a, b, trivial, c⟩) (binop_pp_only (by decide))
theorem ops_fdiv : OpS D E X (binaryOp .FloorDiv) (binop .fdiv) := opsI op_fdiv binP_fdiv (binop_pp_only (by decide))
theorem ops_mod : OpS D E X (binaryOp .Mod) (binop .mod) := opsI op_mod (fun h => binP_mod h) (binop_pp_only (by decide))
theorem ops_pow : OpS D E X (binaryOp .Pow) (binop .pow) := opsI op_pow (fun h => binP_pow h) (binop_pp_only (by decide))
theorem ops_mul (hK : X.K = D.K) : OpS D E X (binaryOp .Mult) (binop .mul) := by
  refine opr_imp (op_mul.or op_rep) fun x y H Q ⟨ι, s, a, b, m, ra, rb, h⟩ => ?_
  rcases binop_cases h with ⟨a, b, rfl, rfl⟩ | ⟨i, j, rfl, rfl⟩ | ⟨i, k, rfl, rfl⟩
  · obtain ⟨v, e, h⟩ := binop_pp h
    obtain ⟨i, j, rfl, rfl, c, rfl⟩ := binP_mul e
    refine .inl ⟨i, j, rv_int ra, rv_int rb, ?_, h.now m (.p (.int _))⟩
    rcases Bool.or_eq_true_iff.mp c with c | c
    · exact .inl (small64_of c)
    · exact .inr (small64_of c)
  · exact h.elim
  · obtain ⟨a, rfl, ha⟩ := rv_r ra
    have e := rv_int rb
    subst e
    simp only [binop] at h
    split at h
    · rename_i h0 h1
      split at h
      · rename_i l
        obtain ⟨ws, w1, w2, w3⟩ := m.list ha h1
        have q1 := Paired.length w3
        exact .inr ⟨a, k, ws, rfl, rfl, w1, l.2.2, l.2.1, by rw [lim_eq, ← q1]; exact l.1, fun p hp => post.mkList (show post D E ι H (relV D) Q (new _ s) from h) m hp (by rw [lim_eq, rep_len]; exact l.1) (Pd.rep w3 _)⟩
      · exact h.elim
    · exact h.elim
/-! ### comparisons -/
mutual
theorem dp_of {K : PySem.W.Frag} : ∀ {v : PV} {w : V}, RelPV K H v w → Dp K H w v.toD
  | .non, _, h => by cases h; exact .non
  | .bool b, _, h => by cases h; exact .bl b
  | .int i, _, h => by cases h; exact .int i
  | .str s, _, h => by cases h; exact .str _
  | .tup xs, _, h => by cases h with | tup t l p => exact .tup t.sq (dps_of p)
theorem dps_of {K : PySem.W.Frag} : ∀ {vs : List PV} {ws : List V}, Paired (RelPV K H) vs ws → DpAll K H ws (PV.toDs vs)
  | [], _, h => by cases h; exact .nil
  | v :: vs, _, h => by cases h with | cons a b => exact .cons (dp_of a) (dps_of b)
end
mutual
theorem lay_of {K : PySem.W.Frag} : ∀ {v : PV} {w : V}, RelPV K H v w → v.toD.canLay0 = true
  | .non, _, h => rfl
  | .bool b, _, h => rfl
  | .int i, _, h => rfl
  | .str s, _, h => by
    cases h with
    | str _ z =>
      show PyData.strOk _ = true
      unfold PyData.strOk
      simp
      intro i hi
      exact z.2 _ (by simpa using hi)
  | .tup xs, _, h => by cases h with | tup t l p => exact lays_of p
theorem lays_of {K : PySem.W.Frag} : ∀ {vs : List PV} {ws : List V}, Paired (RelPV K H) vs ws → PyData.canLayAll0 (PV.toDs vs) = true
  | [], _, h => rfl
  | v :: vs, _, h => by
    cases h with
    | cons a b =>
      show (v.toD.canLay0 && PyData.canLayAll0 (PV.toDs vs)) = true
      rw [lay_of a, lays_of b]; rfl
end
mutual
theorem dep_eq : ∀ v : PV, v.toD.depth = v.dep
  | .non => rfl
  | .bool _ => rfl
  | .int _ => rfl
  | .str _ => rfl
  | .tup xs => congrArg (· + 1) (deps_eq xs)
theorem deps_eq : ∀ vs : List PV, PyData.depthAll (PV.toDs vs) = PV.deps vs
  | [] => rfl
  | v :: vs => by
    show max v.toD.depth (PyData.depthAll (PV.toDs vs)) = max v.dep (PV.deps vs)
    rw [dep_eq v, deps_eq vs]
end
theorem shaped_of {K : PySem.W.Frag} {v : PV} {w : V} (h : RelPV K H v w) (l : v.dep ≤ 64) : SeqAt.shaped v.toD = true := by
  unfold SeqAt.shaped
  rw [lay_of h, dep_eq]
  simpa using l
mutual
theorem eqv_eq : ∀ a b : PV, PyData.eqv a.toD b.toD = a.eq b
  | .non, b => by cases b <;> rfl
  | .bool _, b => by cases b <;> rfl
  | .int _, b => by cases b <;> rfl
  | .str x, .str y => by
    show ((⟨x.toArray⟩ : Str) == ⟨y.toArray⟩) = (x == y)
    by_cases e : x = y
    · subst e; simp
    · have : ¬ ((⟨x.toArray⟩ : Str) = ⟨y.toArray⟩) := fun q => e (by simpa using q)
      rw [beq_eq_false_iff_ne.mpr this, beq_eq_false_iff_ne.mpr e]
  | .str _, .non => rfl
  | .str _, .bool _ => rfl
  | .str _, .int _ => rfl
  | .str _, .tup _ => rfl
  | .tup xs, .tup ys => eqvs_eq xs ys
  | .tup _, .non => rfl
  | .tup _, .bool _ => rfl
  | .tup _, .int _ => rfl
  | .tup _, .str _ => rfl
theorem eqvs_eq : ∀ a b : List PV, PyData.eqvAll (PV.toDs a) (PV.toDs b) = PV.eqs a b
  | [], [] => rfl
  | [], _ :: _ => rfl
  | _ :: _, [] => rfl
  | x :: xs, y :: ys => by
    show (PyData.eqv x.toD y.toD && PyData.eqvAll (PV.toDs xs) (PV.toDs ys)) = _
    rw [eqv_eq x y, eqvs_eq xs ys]; rfl
end
def cmpG (o : COp) (a b : Val) (s : S) : R Val := match cmpV o a b s with
  | some k => .ok (.p (.bool k)) s
  | none => .bot
theorem cmpG_ok {o : COp} {a b : Val} (h : post D E ι H (relV D) Q (cmpG o a b s)) (m : Sim D H ι s) : ∃ k, cmpV o a b s = some k ∧ Q (.bl k) H := by
  unfold cmpG at h
  cases e : cmpV o a b s with
  | none => rw [e] at h; exact h.elim
  | some k => rw [e] at h; exact ⟨k, rfl, h.now m (.p (.bool k))⟩
theorem cmpV_eq {a b : Val} {k : Bool} (h : cmpV .eq a b s = some k) : ∃ x y, a = .p x ∧ b = .p y ∧ (x.dep ≤ 64 ∧ y.dep ≤ 64) ∧ k = x.eq y := by
  cases a <;> cases b <;> simp [cmpV, cmpP] at h
  · exact ⟨_, _, rfl, rfl, h.1, h.2.symm⟩
  · split at h <;> simp_all
theorem cmpV_ne {a b : Val} {k : Bool} (h : cmpV .ne a b s = some k) : ∃ x y, a = .p x ∧ b = .p y ∧ (x.dep ≤ 64 ∧ y.dep ≤ 64) ∧ k = !x.eq y := by
  cases a <;> cases b <;> simp [cmpV, cmpP] at h
  · exact ⟨_, _, rfl, rfl, h.1, by rw [h.2]; simp⟩
  · split at h <;> simp_all
theorem ops_eq (hK : X.K = D.K) (hu : X.A.units + 64 < cLine) : OpS D E X (compareOp .Eq) (cmpG .eq) := by
  refine opr_imp (op_eqD hu) fun x y H Q ⟨ι, s, a, b, m, ra, rb, h⟩ => ?_
  obtain ⟨k, e, q⟩ := cmpG_ok h m
  obtain ⟨a, b, rfl, rfl, l, rfl⟩ := cmpV_eq e
  rw [hK]
  exact ⟨_, _, dp_of (rv_p ra), dp_of (rv_p rb), shaped_of (rv_p ra) l.1, shaped_of (rv_p rb) l.2, by rw [eqv_eq]; exact q⟩
theorem ops_ne (hK : X.K = D.K) (hu : X.A.units + 64 < cLine) : OpS D E X (compareOp .NotEq) (cmpG .ne) := by
  refine opr_imp (op_neD hu) fun x y H Q ⟨ι, s, a, b, m, ra, rb, h⟩ => ?_
  obtain ⟨k, e, q⟩ := cmpG_ok h m
  obtain ⟨a, b, rfl, rfl, l, rfl⟩ := cmpV_ne e
  rw [hK]
  exact ⟨_, _, dp_of (rv_p ra), dp_of (rv_p rb), shaped_of (rv_p ra) l.1, shaped_of (rv_p rb) l.2, by rw [eqv_eq]; exact q⟩
theorem cmpI {f : Value → Value → Sem Value} {o : COp} {g : Int → Int → Bool} (h : OpR X f (rI0 fun i j => .bl (g i j)))
    (hb : ∀ {a b : Val} {s : S} {k : Bool}, cmpV o a b s = some k → ∃ i j, a = .p (.int i) ∧ b = .p (.int j) ∧ k = g i j) : OpS D E X f (cmpG o) := by
  refine opr_imp h fun x y H Q ⟨ι, s, a, b, m, ra, rb, h⟩ => ?_
  obtain ⟨k, e, q⟩ := cmpG_ok h m
  obtain ⟨i, j, rfl, rfl, rfl⟩ := hb e
  exact ⟨i, j, rv_int ra, rv_int rb, q⟩
theorem cmpV_int {o : COp} {g : Int → Int → Bool} (ho : o = .lt ∧ g = (fun i j => decide (i < j)) ∨ o = .le ∧ g = (fun i j => decide (i ≤ j)) ∨ o = .gt ∧ g = (fun i j => decide (j < i)) ∨ o = .ge ∧ g = (fun i j => decide (j ≤ i)))
    {a b : Val} {s : S} {k : Bool} (h : cmpV o a b s = some k) : ∃ i j, a = .p (.int i) ∧ b = .p (.int j) ∧ k = g i j := by
  rcases ho with ⟨rfl, rfl⟩ | ⟨rfl, rfl⟩ | ⟨rfl, rfl⟩ | ⟨rfl, rfl⟩ <;>
  · cases a <;> cases b <;> simp [cmpV, cmpP] at h
    · split at h
      · exact ⟨_, _, rfl, rfl, by simpa using h.symm⟩
      · simp at h
    · split at h <;> simp_all
theorem ops_lt : OpS D E X (compareOp .Lt) (cmpG .lt) := cmpI op_lt (cmpV_int (.inl ⟨rfl, rfl⟩))
theorem ops_le : OpS D E X (compareOp .LtE) (cmpG .le) := cmpI op_le (cmpV_int (.inr (.inl ⟨rfl, rfl⟩)))
theorem ops_gt : OpS D E X (compareOp .Gt) (cmpG .gt) := cmpI op_gt (cmpV_int (.inr (.inr (.inl ⟨rfl, rfl⟩))))
theorem ops_ge : OpS D E X (compareOp .GtE) (cmpG .ge) := cmpI op_ge (cmpV_int (.inr (.inr (.inr ⟨rfl, rfl⟩))))
theorem cmpV_is {a b : Val} {k : Bool} (h : cmpV .is_ a b s = some k) {K : PySem.W.Frag} {x : V} (r : RelVal K H ι a x) : b = .p .non ∧ k = decide (x = .non) := by
  cases a <;> cases b <;> simp [cmpV, cmpP] at h
  · split at h
    · cases r with
      | p r => cases r <;> simp_all
    · simp at h
  all_goals (split at h <;> first | (obtain ⟨a, rfl, _⟩ := rv_r r; simp_all; done) | (simp_all; done))
theorem cmpV_isnt {a b : Val} {k : Bool} (h : cmpV .isnt a b s = some k) {K : PySem.W.Frag} {x : V} (r : RelVal K H ι a x) : b = .p .non ∧ k = !decide (x = .non) := by
  cases a <;> cases b <;> simp [cmpV, cmpP] at h
  · split at h
    · cases r with
      | p r => cases r <;> simp_all
    · simp at h
  all_goals (split at h <;> first | (obtain ⟨a, rfl, _⟩ := rv_r r; simp_all; done) | (simp_all; done))
theorem ops_is : OpS D E X (compareOp .Is) (cmpG .is_) := by
  refine opr_imp op_isN fun x y H Q ⟨ι, s, a, b, m, ra, rb, h⟩ => ?_
  obtain ⟨k, e, q⟩ := cmpG_ok h m
  obtain ⟨rfl, rfl⟩ := cmpV_is e ra
  exact ⟨rv_non rb, q⟩
theorem ops_isnt : OpS D E X (compareOp .IsNot) (cmpG .isnt) := by
  refine opr_imp op_notN fun x y H Q ⟨ι, s, a, b, m, ra, rb, h⟩ => ?_
  obtain ⟨k, e, q⟩ := cmpG_ok h m
  obtain ⟨rfl, rfl⟩ := cmpV_isnt e ra
  exact ⟨rv_non rb, q⟩
/-! keys -/
theorem key_of {K : PySem.W.Frag} {k : PV} {w : V} (r : RelPV K H k w) (h : k.key = true) : ∃ q, keyOf k = some q ∧ w = kV q := by
  cases r <;> simp [PV.key] at h
  · exact ⟨_, rfl, rfl⟩
  · exact ⟨_, rfl, rfl⟩
theorem key_is {K : PySem.W.Frag} {k : PV} {w : V} (r : RelPV K H k w) (h : k.key = true) : ∃ q, KeyIs k q ∧ w = kV q := by
  cases r <;> simp [PV.key] at h
  · exact ⟨_, ⟨rfl, fun l e => nomatch e⟩, rfl⟩
  · rename_i s hs
    exact ⟨_, ⟨rfl, fun l e => by cases e; exact hs⟩, rfl⟩
theorem key_rel {K : PySem.W.Frag} {k : PV} {q : Key} (h : KeyIs k q) : RelPV K H k (kV q) := by
  obtain ⟨h1, h2⟩ := h
  cases k <;> simp [keyOf] at h1 <;> subst h1
  · exact .int _
  · exact .str _ (h2 _ rfl)
theorem str_inj {a b : List Nat} : ((⟨a.toArray⟩ : Str) = ⟨b.toArray⟩) ↔ a = b := by
  constructor
  · intro h; simpa using h
  · rintro rfl; rfl
theorem beq_key {a b : PV} {p q : Key} (h1 : keyOf a = some p) (h2 : keyOf b = some q) : a.beq b = decide (p = q) := by
  cases a <;> cases b <;> simp [keyOf] at h1 h2 <;> subst h1 h2 <;> simp [PV.beq, str_inj, Bool.beq_eq_decide_eq]
theorem dget_of {K : PySem.W.Frag} {k : PV} {q : Key} (hk : keyOf k = some q) : ∀ {kvs : List (PV × Val)} {ws : List (Key × V)}, RelKV K H ι kvs ws →
    match dget k kvs with
    | none => valV ws q = none
    | some v => ∃ w, valV ws q = some w ∧ RelVal K H ι v w
  | [], _, h => by cases h; rfl
  | (a, v) :: r, _, h => by
    cases h with
    | @cons _ p _ ws h1 h2 =>
      have ih := dget_of hk h2
      have e := beq_key h1.1.1 hk
      simp only [dget]
      by_cases c : p.1 = q
      · rw [e, decide_eq_true c, if_pos rfl, valV_pos c]
        exact ⟨_, rfl, h1.2⟩
      · rw [e, decide_eq_false c, if_neg Bool.false_ne_true, valV_neg c]
        exact ih
theorem dget_some {K : PySem.W.Frag} {k : PV} {q : Key} (hk : keyOf k = some q) {kvs : List (PV × Val)} {ws : List (Key × V)} (h : RelKV K H ι kvs ws) : (dget k kvs).isSome = (valV ws q).isSome := by
  have := dget_of hk h
  cases e : dget k kvs with
  | none => rw [e] at this; rw [this]; rfl
  | some v => rw [e] at this; obtain ⟨w, h, _⟩ := this; rw [h]; rfl
theorem op_din (hu : X.A.units + 1 < cLine) : OpR X (compareOp .In) (fun x y H Q => ∃ a o, y = .ref a ∧ DGet H a x o ∧ Q (.bl o.isSome) H) := by
  intro pins s σ H x y v u Q I rx ry ⟨a, o, e, g, q⟩
  subst e
  cases ry
  exact d_in hu I g rx fun s3 I3 => ⟨.bl o.isSome, H, I3, rfl, q⟩
theorem op_dnotin (hu : X.A.units + 1 < cLine) : OpR X (compareOp .NotIn) (fun x y H Q => ∃ a o, y = .ref a ∧ DGet H a x o ∧ Q (.bl (!o.isSome)) H) := by
  intro pins s σ H x y v u Q I rx ry ⟨a, o, e, g, q⟩
  subst e
  cases ry
  exact d_notIn hu I g rx fun s3 I3 => ⟨.bl (!o.isSome), H, I3, rfl, q⟩
theorem flat_of {K : PySem.W.Frag} {v : PV} {w : V} (r : RelPV K H v w) (h : v.flat = true) : flatV w = true := by cases r <;> first | rfl | (simp [PV.flat] at h)
theorem eq_flat {K : PySem.W.Frag} {a b : PV} {x y : V} (ra : RelPV K H a x) (rb : RelPV K H b y) (fa : a.flat = true) (fb : b.flat = true) : a.eq b = eqV x y := by
  cases ra <;> cases rb <;> first | rfl | (simp [PV.flat] at fa) | (simp [PV.flat] at fb) | skip
  rename_i a ha b hb
  show (a == b) = ((⟨a.toArray⟩ : Str) == ⟨b.toArray⟩)
  by_cases e : a = b
  · subst e; simp
  · have : ¬ ((⟨a.toArray⟩ : Str) = ⟨b.toArray⟩) := fun q => e (str_inj.mp q)
    rw [beq_eq_false_iff_ne.mpr this, beq_eq_false_iff_ne.mpr e]
theorem flats_of {K : PySem.W.Frag} : ∀ {xs : List PV} {ws : List V}, Paired (RelPV K H) xs ws → xs.all PV.flat = true → ws.all flatV = true
  | _, _, .nil, _ => rfl
  | _, _, .cons a b, h => by
    rw [List.all_cons] at h ⊢
    obtain ⟨h1, h2⟩ := Bool.and_eq_true_iff.mp h
    rw [flat_of a h1, flats_of b h2]; rfl
theorem any_flat {K : PySem.W.Frag} {a : PV} {x : V} (ra : RelPV K H a x) (fa : a.flat = true) : ∀ {xs : List PV} {ws : List V}, Paired (RelPV K H) xs ws → xs.all PV.flat = true → (xs.any fun y => y.eq a) = inV x ws
  | _, _, .nil, _ => rfl
  | _, _, .cons r b, h => by
    rw [List.all_cons] at h
    obtain ⟨h1, h2⟩ := Bool.and_eq_true_iff.mp h
    unfold inV
    rw [List.any_cons, List.any_cons, eq_flat r ra h1 fa]
    congr 1
    exact any_flat ra fa b h2
theorem allFlat_eq : ∀ {vs : List Val} {xs : List PV}, allFlat vs = some xs → vs = xs.map Val.p ∧ xs.all PV.flat = true
  | [], xs, h => by simp [allFlat] at h; subst h; exact ⟨rfl, rfl⟩
  | .p v :: r, xs, h => by
    simp only [allFlat] at h
    split at h
    · rename_i f
      obtain ⟨ys, h1, rfl⟩ := Option.map_eq_some_iff.mp h
      obtain ⟨e1, e2⟩ := allFlat_eq h1
      exact ⟨by rw [e1]; rfl, by rw [List.all_cons, f, e2]; rfl⟩
    · cases h
  | .r _ :: _, _, h => by simp [allFlat] at h
  | .t _ :: _, _, h => by simp [allFlat] at h
  | .hd :: _, _, h => by simp [allFlat] at h
  | .sc :: _, _, h => by simp [allFlat] at h
/-- the ways of in, not in -/
inductive InWay (D : Wd) (H : Hp) (ι : Inj) (s : S) (x y : V) (k : Bool) : Prop
  | sign (c : Nat) (z : Str) (h1 : x = .str ⟨#[c]⟩) (h2 : y = .str z) (h : k = decide (c ∈ z.cps.toList))
  | dict (a : Addr) (o : Option V) (h1 : y = .ref a) (h2 : DGet H a x o) (h : k = o.isSome)
  | seq (a : Addr) (ws : List V) (h1 : y = .ref a) (h2 : SqL D.K H a ws ∨ SqT D.K H a ws) (h3 : flatV x = true) (h4 : ws.all flatV = true) (h : k = inV x ws)
theorem in_way {a b : Val} {x y : V} {k : Bool} (m : Sim D H ι s) (ra : RelVal D.K H ι a x) (rb : RelVal D.K H ι b y) (h : cmpV .in_ a b s = some k ∨ cmpV .nin a b s = some (!k)) : InWay D H ι s x y k := by
  match a, b, ra, rb, h with
  | .p (.str [c]), .p (.str l), ra, rb, h =>
    obtain ⟨e1, _⟩ := rv_str ra
    obtain ⟨e2, _⟩ := rv_str rb
    refine .sign c ⟨l.toArray⟩ e1 e2 ?_
    rcases h with h | h
    · simp [cmpV, cmpP] at h; rw [← h]
    · simp [cmpV, cmpP] at h
      cases k <;> simp_all
  | .p a, .p (.tup xs), ra, rb, h =>
    obtain ⟨p, ws, e, t, l, r⟩ := rv_tup rb
    have hh : a.flat = true ∧ xs.all PV.flat = true ∧ k = xs.any fun y => y.eq a := by
      rcases h with h | h
      · have h' : (if (a.flat && xs.all PV.flat) = true then some (xs.any fun y => y.eq a) else none) = some k := by
          rw [← h]; simp only [cmpV, cmpP]
        split at h'
        · rename_i f
          obtain ⟨f1, f2⟩ := Bool.and_eq_true_iff.mp f
          cases h'; exact ⟨f1, f2, rfl⟩
        · cases h'
      · have h' : (if (a.flat && xs.all PV.flat) = true then some (!xs.any fun y => y.eq a) else none) = some (!k) := by
          rw [← h]; simp only [cmpV, cmpP]
        split at h'
        · rename_i f
          obtain ⟨f1, f2⟩ := Bool.and_eq_true_iff.mp f
          have h2 := Option.some.inj h'
          exact ⟨f1, f2, by cases k <;> simp_all⟩
        · cases h'
    obtain ⟨f1, f2, rfl⟩ := hh
    exact .seq p ws e (.inr t.sq) (flat_of (rv_p ra) f1) (flats_of r f2) (any_flat (rv_p ra) f1 r f2)
  | .p a, .r j, ra, rb, h =>
    obtain ⟨p, e, hp⟩ := rv_r rb
    cases ho : s.h[j]? with
    | none => rcases h with h | h <;> simp [cmpV, ho] at h
    | some o =>
      cases o with
      | inst c fs => rcases h with h | h <;> simp [cmpV, ho] at h
      | dict kvs =>
        obtain ⟨ws, w1, w2, w3⟩ := m.dict hp ho
        have hk : a.key = true ∧ k = (dget a kvs).isSome := by
          rcases h with h | h <;> simp [cmpV, ho] at h
          · exact ⟨h.1, h.2.symm⟩
          · exact ⟨h.1, by cases k <;> simp_all⟩
        obtain ⟨q, k1, k2⟩ := key_of (rv_p ra) hk.1
        refine .dict p (valV ws q) e (by rw [k2]; exact DGet.k w1) ?_
        rw [hk.2, dget_some k1 w3]
      | list xs =>
        obtain ⟨ws, w1, w2, w3⟩ := m.list hp ho
        have hk : a.flat = true ∧ ∃ ys, allFlat xs = some ys ∧ k = ys.any fun y => y.eq a := by
          rcases h with h | h <;> simp [cmpV, ho] at h
          · obtain ⟨f, ys, e1, e2⟩ := h
            exact ⟨f, ys, e1, e2.symm⟩
          · obtain ⟨f, ys, e1, e2⟩ := h
            exact ⟨f, ys, e1, by cases k <;> simp_all⟩
        obtain ⟨f, ys, e1, rfl⟩ := hk
        obtain ⟨rfl, f2⟩ := allFlat_eq e1
        exact .seq p ws e (.inl (SqL.of w1)) (flat_of (rv_p ra) f) (flats_of (pv_of w3) f2) (any_flat (rv_p ra) f (pv_of w3) f2)
  | .p (.str []), .p (.str l), _, _, h => rcases h with h | h <;> simp [cmpV, cmpP] at h
  | .p (.str (_ :: _ :: _)), .p (.str l), _, _, h => rcases h with h | h <;> simp [cmpV, cmpP] at h
  | .p .non, .p (.str l), _, _, h => rcases h with h | h <;> simp [cmpV, cmpP] at h
  | .p (.bool _), .p (.str l), _, _, h => rcases h with h | h <;> simp [cmpV, cmpP] at h
  | .p (.int _), .p (.str l), _, _, h => rcases h with h | h <;> simp [cmpV, cmpP] at h
  | .p (.tup _), .p (.str l), _, _, h => rcases h with h | h <;> simp [cmpV, cmpP] at h
  | .p a, .p .non, _, _, h => rcases h with h | h <;> simp [cmpV, cmpP] at h
  | .p a, .p (.bool _), _, _, h => rcases h with h | h <;> simp [cmpV, cmpP] at h
  | .p a, .p (.int _), _, _, h => rcases h with h | h <;> simp [cmpV, cmpP] at h
  | .p _, .t _, _, _, h => rcases h with h | h <;> simp [cmpV] at h
  | .p _, .hd, _, _, h => rcases h with h | h <;> simp [cmpV] at h
  | .p _, .sc, _, _, h => rcases h with h | h <;> simp [cmpV] at h
  | .r _, .p v, _, _, h => rcases h with h | h <;> cases v <;> simp [cmpV] at h
  | .r _, .r _, _, _, h => rcases h with h | h <;> simp [cmpV] at h
  | .r _, .t _, _, _, h => rcases h with h | h <;> simp [cmpV] at h
  | .r _, .hd, _, _, h => rcases h with h | h <;> simp [cmpV] at h
  | .r _, .sc, _, _, h => rcases h with h | h <;> simp [cmpV] at h
  | .t _, b, _, _, h => rcases h with h | h <;> cases b <;> simp [cmpV] at h
  | .hd, b, _, _, h => rcases h with h | h <;> cases b <;> simp [cmpV] at h
  | .sc, b, _, _, h => rcases h with h | h <;> cases b <;> simp [cmpV] at h
theorem ops_in (hK : X.K = D.K) (hu : X.A.units + 1 < cLine) : OpS D E X (compareOp .In) (cmpG .in_) := by
  refine opr_imp (op_in_sign.or ((op_din hu).or op_in_seq)) fun x y H Q ⟨ι, s, a, b, m, ra, rb, h⟩ => ?_
  obtain ⟨k, e, q⟩ := cmpG_ok h m
  cases in_way m ra rb (.inl e) with
  | sign c z h1 h2 h => subst h; exact .inl ⟨c, z, h1, h2, q⟩
  | dict a o h1 h2 h => subst h; exact .inr (.inl ⟨a, o, h1, h2, q⟩)
  | seq a ws h1 h2 h3 h4 h => subst h; rw [hK]; exact .inr (.inr ⟨a, ws, h1, h2, h3, h4, q⟩)
theorem ops_nin (hK : X.K = D.K) (hu : X.A.units + 1 < cLine) : OpS D E X (compareOp .NotIn) (cmpG .nin) := by
  refine opr_imp (op_notIn_sign.or ((op_dnotin hu).or op_notIn_seq)) fun x y H Q ⟨ι, s, a, b, m, ra, rb, h⟩ => ?_
  obtain ⟨k, e, q⟩ := cmpG_ok h m
  cases in_way (k := !k) m ra rb (.inr (by simpa using e)) with
  | sign c z h1 h2 h =>
    have : k = !decide (c ∈ z.cps.toList) := by rw [← h]; simp
    subst this; exact .inl ⟨c, z, h1, h2, q⟩
  | dict a o h1 h2 h =>
    have : k = !o.isSome := by rw [← h]; simp
    subst this; exact .inr (.inl ⟨a, o, h1, h2, q⟩)
  | seq a ws h1 h2 h3 h4 h =>
    have : k = !inV x ws := by rw [← h]; simp
    subst this; rw [hK]; exact .inr (.inr ⟨a, ws, h1, h2, h3, h4, q⟩)
end
end U
/-! Mp2c: the expressions of the small language are sound, form by form. -/
namespace U
open PySem L2
/-! ### the text's forms -/
/-- no star, no slice, no set, no generator: evaluated as it stands -/
def pl : Expr → Bool
  | .Starred .. => false
  | .Slice .. => false
  | .Set .. => false
  | .SetComp .. => false
  | .DictComp .. => false
  | .GeneratorExp .. => false
  | .Lambda .. => false
  | .NamedExpr .. => false
  | .Await .. => false
  | .Yield .. => false
  | .YieldFrom .. => false
  | _ => true
/-- its test is its value's truth -/
def plT : Expr → Bool
  | .BoolOp .. => false
  | .UnaryOp .Not _ _ => false
  | .IfExp .. => false
  | .Compare .. => false
  | _ => true
def noComp : Expr → Bool
  | .ListComp .. => false
  | .SetComp .. => false
  | .DictComp .. => false
  | _ => true
/-- no call of a name without arguments (super()) -/
def noCall0 : Expr → Bool
  | .Call (.Name _ _) [] [] _ => false
  | _ => true
theorem star_of {e : Expr} {es : List Expr} {env : PySem.Env} (h : pl e = true) : starEach (e :: es) env = (false, eval e env) :: starEach es env := by
  cases e <;> first | rfl | (simp [pl] at h)
theorem isTrue_of {e : Expr} {env : PySem.Env} (h : plT e = true) : ∀ whole, isTrue e env whole = (do let v ← whole; standAt e.pos; holding [v] (truthy v)) := by
  intro whole
  cases e with
  | UnaryOp op x p => cases op <;> first | rfl | (simp [plT] at h)
  | BoolOp _ _ _ => simp [plT] at h
  | IfExp _ _ _ _ => simp [plT] at h
  | Compare _ _ _ _ => simp [plT] at h
  | _ => rfl
theorem sub_of {e : Expr} (h : pl e = true) : PlainIxT e := by
  intro o i
  cases e <;> first | rfl | (simp [pl] at h)
theorem folded_of {e : Expr} {env : PySem.Env} (h : pl e = true) : ∀ x, foldedSetIterable e env x = pure x := by
  intro x
  cases e <;> first | rfl | (simp [pl] at h)
theorem mark_of {e : Expr} {op : CmpOp} (h : pl e = true) : behindInMarks op e = false := by
  cases e <;> first | rfl | (simp [pl] at h)
theorem swap_of {e : Expr} {t : Option Expr} {n : Nat} {env : PySem.Env} (h : noComp e = true) : swapsWith e t n env = pure false := by
  cases e <;> first | rfl | (simp [noComp] at h)
theorem base_of {e : Expr} {a : Str} {env : PySem.Env} {w : Sem Value} (h : noCall0 e = true) : attributeBase e a env w = w := by
  unfold attributeBase
  split
  · simp [noCall0] at h
  · rfl
/-- the context -/
structure XOk (D : Wd) (X : L2.Cx) : Prop where
  hK : X.K = D.K
  calm : X.calm = true
  nd : X.N.Nodup
  room : ∃ k, Room k X.A
section
variable {D : Wd} {E : XK} {X : L2.Cx} {C : Calls}
theorem XOk.u64 (O : XOk D X) : X.A.units + 64 < cLine := by obtain ⟨k, h⟩ := O.room; exact h.units
theorem XOk.u65 (O : XOk D X) : X.A.units + 65 < cLine := by obtain ⟨k, h⟩ := O.room; have := h.un; omega
theorem XOk.u1 (O : XOk D X) : X.A.units + 1 < cLine := by have := O.u64; omega
theorem XOk.u0 (O : XOk D X) : X.A.units < cLine := by have := O.u64; omega
abbrev SE (D : Wd) (E : XK) (C : Calls) (X : L2.Cx) (e : Expr) (m : Ex) : Prop := PE X e (tE D E C m)
abbrev ST (D : Wd) (E : XK) (C : Calls) (X : L2.Cx) (e : Expr) (m : Ex) : Prop := PT X e (tT D E C m)
abbrev SA (D : Wd) (E : XK) (C : Calls) (X : L2.Cx) (es : List Expr) (m : Exs) : Prop := PA X es (tA D E C m)
/-! ### truth -/
theorem tru_of {ι : Inj} {H : Hp} {s : S} {v : Val} {w : V} {k : Bool} (m : Sim D H ι s) (r : RelVal D.K H ι v w) (h : truth v s = some k) : TruV D.K w H k := by
  match v, r, h with
  | .p .non, r, h => rw [rv_non r]; exact (Option.some.inj h).symm
  | .p (.bool b), r, h => rw [rv_bool r]; exact (Option.some.inj h).symm
  | .p (.int i), r, h => rw [rv_int r]; exact (Option.some.inj h).symm
  | .p (.str l), r, h =>
    obtain ⟨e, l1⟩ := rv_str r
    rw [e]
    have h : (!l.isEmpty) = k := Option.some.inj h
    refine ⟨by simpa [Str.length] using l1.1, ?_⟩
    subst h
    cases l with
    | nil => rfl
    | cons a l =>
      show true = (((a :: l).toArray.size : Int) != 0)
      simp
      omega
  | .p (.tup xs), r, h =>
    obtain ⟨a, ws, e, t, l, p⟩ := rv_tup r
    rw [e]
    have h : (!xs.isEmpty) = k := Option.some.inj h
    exact .inr (.inl ⟨ws, t.sq, by rw [← h, Pd.emp p]⟩)
  | .t xs, r, h =>
    obtain ⟨a, ws, e, t, l, p⟩ := rv_t r
    rw [e]
    have h : (!xs.isEmpty) = k := Option.some.inj h
    exact .inr (.inl ⟨ws, t.sq, by rw [← h, Pd.emp p]⟩)
  | .r n, r, h =>
    obtain ⟨a, e, ha⟩ := rv_r r
    rw [e]
    cases ho : s.h[n]? with
    | none => simp [truth, ho] at h
    | some o =>
      cases o with
      | list xs =>
        obtain ⟨ws, w1, w2, w3⟩ := m.list ha ho
        simp only [truth, ho] at h
        have h : (!xs.isEmpty) = k := Option.some.inj h
        exact .inl ⟨ws, SqL.of w1, by rw [← h, Pd.emp w3]⟩
      | dict kvs =>
        obtain ⟨ws, w1, w2, w3⟩ := m.dict ha ho
        simp only [truth, ho] at h
        have h : (!kvs.isEmpty) = k := Option.some.inj h
        exact .inr (.inr ⟨ws, w1, by rw [← h, Pd.emp w3]⟩)
      | inst c fs => simp [truth, ho] at h
  | .hd, _, h => simp [truth] at h
  | .sc, _, h => simp [truth] at h
theorem bind_assoc {α β γ : Type} (x : R α) (f : α → S → R β) (g : β → S → R γ) : (x.bind f).bind g = x.bind fun a s => (f a s).bind g := by cases x <;> rfl
/-- not and, or, not, ite -/
def exT : Ex → Bool
  | .and .. => false
  | .or .. => false
  | .not .. => false
  | .ite .. => false
  | _ => true
theorem opt_bind {α β : Type} (x : Option α) (s : S) (f : α → S → R β) : (opt x s).bind f = match x with | some a => f a s | none => .bot := by cases x <;> rfl
/-- a test is its value's truth, or nothing is said -/
theorem evT_eq (m : Ex) (h : exT m = true) (env : Env) (s : S) : evT C m env s = (ev C m env s).bind (fun v s => opt (truth v s) s) ∨ evT C m env s = .bot := by
  cases m <;> first | (simp [exT] at h; done) | (right; rfl) | left
  · rfl
  · simp only [ev, evT]
    split <;> rfl
  · simp only [ev, evT, bind_assoc]
    congr 1; funext vs s
    split <;> rfl
  · simp only [ev, evT, bind_assoc]
  · simp only [ev, evT, bind_assoc]
    congr 1; funext x s; congr 1; funext y s
    cases cmpV _ x y s <;> rfl
  · simp only [ev, evT, bind_assoc]
    congr 1; funext x s; congr 1; funext y s
    cases cmpV _ x y s with
    | none => rfl
    | some k =>
      cases k
      · rfl
      · simp only [bind_assoc]
        congr 1; funext z s
        cases cmpV _ y z s <;> rfl
  · simp only [ev, evT, bind_assoc]
  · simp only [ev, evT, bind_assoc]
  · simp only [ev, evT, bind_assoc]
  · simp only [ev, evT, bind_assoc]
    congr 1; funext x s
    split
    · simp only [bind_assoc]
    · rfl
  · simp only [ev, evT, bind_assoc]
  · simp only [ev, evT, bind_assoc]
  · simp only [ev, evT, bind_assoc]
    congr 1; funext x s
    cases isiAny x s _ <;> rfl
  · simp only [ev, evT, bind_assoc]
    congr 1; funext x s
    split
    · simp only [bind_assoc]
    · rfl
  · simp only [ev, evT, bind_assoc]
  · simp only [ev, evT, bind_assoc]
theorem st_plain {e : Expr} {m : Ex} (O : XOk D X) (h : SE D E C X e m) (he : plT e = true) (hm : exT m = true) : ST D E C X e m := by
  refine pt_by (pt_truth h (isTrue_of he)) fun σ H Q ⟨ι, env, s, hs, hn, hp⟩ => ?_
  rcases evT_eq (C := C) m hm env s with z | z
  · rw [z] at hp
    refine ⟨ι, env, s, hs, hn, (post.bind (rel := relV D) hp).imp fun w H1 ⟨ι1, s1, v, e1, m1, r1, p1⟩ => ?_⟩
    cases t : truth v s1 with
    | none => rw [t] at p1; exact p1.elim
    | some k =>
      rw [t] at p1
      rw [O.hK]
      exact ⟨k, tru_of m1 r1 t, post.now (rel := relE) p1 m1 rfl⟩
  · rw [z] at hp; exact hp.elim
/-! ### names, constants -/
theorem se_var {x : Str} {pos : Pos} {i : Nat} (hN : X.N[i]? = some x) (hv : Vis X.env.scope x) (hd : (x == ("__debug__" : Str)) = false) (hcd : (x == ("__classdict__" : Str)) = false) : SE D E C X (.Name x pos) (.var i) := by
  refine pe_by (pe_var hN hv hd hcd) fun σ H Q ⟨ι, env, s, hs, hn, hp⟩ => ?_
  simp only [ev] at hp
  split at hp
  · rename_i v e
    obtain ⟨w, e1, r⟩ := hn.2 i v e
    exact ⟨w, e1, hp.now hs r⟩
  · exact hp.elim
theorem se_int {i : Int} {k : Nat} {pos : Pos} : SE D E C X (.Constant (.int i) k pos) (.lit (.int i)) := pe_by pe_int fun σ H Q ⟨ι, env, s, hs, hn, hp⟩ => hp.now hs (.p (.int i))
theorem se_bool {i : Bool} {k : Nat} {pos : Pos} : SE D E C X (.Constant (.bool i) k pos) (.lit (.bool i)) := pe_by pe_bl fun σ H Q ⟨ι, env, s, hs, hn, hp⟩ => hp.now hs (.p (.bool i))
theorem se_non {k : Nat} {pos : Pos} : SE D E C X (.Constant .none k pos) (.lit .non) := pe_by pe_non fun σ H Q ⟨ι, env, s, hs, hn, hp⟩ => hp.now hs (.p .non)
theorem se_str {l : List Nat} {k : Nat} {pos : Pos} (h : StrOk l) : SE D E C X (.Constant (.str ⟨l.toArray⟩) k pos) (.lit (.str l)) := pe_by pe_str fun σ H Q ⟨ι, env, s, hs, hn, hp⟩ => hp.now hs (.p (.str l h))
theorem se_gint {x : Str} {i : Int} {t : Tok} {pos : Pos} (hg : Gl X x) (hm : X.mg x = some (.int i t)) (hd : (x == ("__debug__" : Str)) = false) : SE D E C X (.Name x pos) (.lit (.int i)) :=
  pe_by (pe_glob (v := .int i) hg hm ⟨t, rfl⟩ hd) fun σ H Q ⟨ι, env, s, hs, hn, hp⟩ => hp.now hs (.p (.int i))
theorem se_gstr {x : Str} {l : List Nat} {t : Tok} {pos : Pos} (h : StrOk l) (hg : Gl X x) (hm : X.mg x = some (.str ⟨l.toArray⟩ t)) (hd : (x == ("__debug__" : Str)) = false) : SE D E C X (.Name x pos) (.lit (.str l)) :=
  pe_by (pe_glob (v := .str ⟨l.toArray⟩) hg hm ⟨t, rfl⟩ hd) fun σ H Q ⟨ι, env, s, hs, hn, hp⟩ => hp.now hs (.p (.str l h))
/-! ### arguments, displays -/
theorem sa_nil : SA D E C X [] .nil := pa_by pa_nil fun σ H Q ⟨ι, env, s, hs, hn, hp⟩ => post.now (rel := relVs D) hp hs .nil
theorem sa_cons {e : Expr} {es : List Expr} {m : Ex} {ms : Exs} (h : SE D E C X e m) (hr : SA D E C X es ms) (hp : pl e = true) : SA D E C X (e :: es) (.cons m ms) := by
  refine pa_by (pa_cons h hr (star_of hp)) fun σ H Q ⟨ι, env, s, hs, hn, hp⟩ => ?_
  refine ⟨ι, env, s, hs, hn, (post.bind (rel := relV D) hp).imp fun w H1 ⟨ι1, s1, v, e1, m1, r1, p1⟩ => ?_⟩
  refine ⟨ι1, env, s1, m1, hn.mono e1, (post.bind (rel := relVs D) p1).imp fun ws H2 ⟨ι2, s2, vs, e2, m2, r2, p2⟩ => ?_⟩
  exact post.now (rel := relVs D) p2 m2 (.cons (r1.mono e2.to) r2)
theorem se_tup {es : List Expr} {ms : Exs} {k : Nat} {pos : Pos} (h : SA D E C X es ms) : SE D E C X (.Tuple es k pos) (.tup ms) := by
  refine pe_by (pe_tupF h) fun σ H Q ⟨ι, env, s, hs, hn, hp⟩ => ?_
  refine ⟨ι, env, s, hs, hn, (post.bind (rel := relVs D) hp).imp fun ws H1 ⟨ι1, s1, vs, e1, m1, r1, p1⟩ => ?_⟩
  split at p1
  · rename_i l
    have q := Paired.length r1
    exact ⟨by rw [lim_eq, ← q]; exact l, fun p H' hp n => p1.mkT m1 hp n (by rw [lim_eq]; exact l) r1⟩
  · exact p1.elim
/-! ### operators -/
theorem se_op {e1 e2 : Expr} {m1 m2 : Ex} {f : Operator} {g : Val → Val → S → R Val} {pos : Pos} {m : Ex} (ho : OpS D E X (binaryOp f) g) (h1 : SE D E C X e1 m1) (h2 : SE D E C X e2 m2)
    (hm : ∀ env s, ev C m env s = (ev C m1 env s).bind fun x s => (ev C m2 env s).bind fun y s => g x y s) : SE D E C X (.BinOp e1 f e2 pos) m := by
  refine pe_by (pe_op ho h1 h2) fun σ H Q ⟨ι, env, s, hs, hn, hp⟩ => ?_
  rw [hm] at hp
  refine ⟨ι, env, s, hs, hn, (post.bind (rel := relV D) hp).imp fun w H1 ⟨ι1, s1, v, e1, m1, r1, p1⟩ => ?_⟩
  refine ⟨ι1, env, s1, m1, hn.mono e1, (post.bind (rel := relV D) p1).imp fun ws H2 ⟨ι2, s2, vs, e2, m2, r2, p2⟩ => ?_⟩
  exact ⟨ι2, s2, v, vs, m2, r1.mono e2.to, r2, p2⟩
def bopOf : BOp → Operator
  | .add => .Add
  | .sub => .Sub
  | .mul => .Mult
  | .fdiv => .FloorDiv
  | .mod => .Mod
  | .pow => .Pow
theorem ops_bin (O : XOk D X) (o : BOp) : OpS D E X (binaryOp (bopOf o)) (binop o) := by
  cases o
  · exact ops_add O.hK
  · exact ops_sub
  · exact ops_mul O.hK
  · exact ops_fdiv
  · exact ops_mod
  · exact ops_pow
theorem se_bin (O : XOk D X) {e1 e2 : Expr} {m1 m2 : Ex} {o : BOp} {pos : Pos} (h1 : SE D E C X e1 m1) (h2 : SE D E C X e2 m2) : SE D E C X (.BinOp e1 (bopOf o) e2 pos) (.bin o m1 m2) :=
  se_op (ops_bin O o) h1 h2 fun _ _ => rfl
def copOf : COp → CmpOp
  | .eq => .Eq
  | .ne => .NotEq
  | .lt => .Lt
  | .le => .LtE
  | .gt => .Gt
  | .ge => .GtE
  | .is_ => .Is
  | .isnt => .IsNot
  | .in_ => .In
  | .nin => .NotIn
theorem ops_cmp (O : XOk D X) (o : COp) : OpS D E X (compareOp (copOf o)) (cmpG o) := by
  cases o
  · exact ops_eq O.hK O.u64
  · exact ops_ne O.hK O.u64
  · exact ops_lt
  · exact ops_le
  · exact ops_gt
  · exact ops_ge
  · exact ops_is
  · exact ops_isnt
  · exact ops_in O.hK O.u1
  · exact ops_nin O.hK O.u1
theorem ev_cmp {o : COp} {m1 m2 : Ex} {env : Env} {s : S} : ev C (.cmp o m1 m2) env s = (ev C m1 env s).bind fun x s => (ev C m2 env s).bind fun y s => cmpG o x y s := rfl
theorem se_cmp (O : XOk D X) {e1 e2 : Expr} {m1 m2 : Ex} {o : COp} {pos : Pos} (h1 : SE D E C X e1 m1) (h2 : SE D E C X e2 m2) (hp : pl e2 = true) : SE D E C X (.Compare e1 [copOf o] [e2] pos) (.cmp o m1 m2) := by
  refine pe_by (pe_cmpR (ops_cmp (E := E) O o) h1 h2 (mark_of hp)) fun σ H Q ⟨ι, env, s, hs, hn, hp⟩ => ?_
  rw [ev_cmp] at hp
  refine ⟨ι, env, s, hs, hn, (post.bind (rel := relV D) hp).imp fun w H1 ⟨ι1, s1, v, e1, m1, r1, p1⟩ => ?_⟩
  refine ⟨ι1, env, s1, m1, hn.mono e1, (post.bind (rel := relV D) p1).imp fun ws H2 ⟨ι2, s2, vs, e2, m2, r2, p2⟩ => ?_⟩
  exact ⟨ι2, s2, v, vs, m2, r1.mono e2.to, r2, p2⟩
theorem cmp_opt {o : COp} {a b : Val} {s : S} {ι : Inj} {H : Hp} {Q : Bool → Hp → Prop} (h : post D E ι H relE Q (opt (cmpV o a b s) s)) : post D E ι H (relV D) (fun w H' => ∃ k, w = .bl k ∧ Q k H') (cmpG o a b s) := by
  unfold cmpG
  cases e : cmpV o a b s with
  | none => rw [e] at h; exact h
  | some k =>
    rw [e] at h
    intro ι' H' w e' m r
    exact ⟨k, rv_bool r, h ι' H' k e' m rfl⟩
theorem st_cmp (O : XOk D X) {e1 e2 : Expr} {m1 m2 : Ex} {o : COp} {pos : Pos} (h1 : SE D E C X e1 m1) (h2 : SE D E C X e2 m2) (hp : pl e2 = true) : ST D E C X (.Compare e1 [copOf o] [e2] pos) (.cmp o m1 m2) := by
  refine pt_by (pt_cmpR (ops_cmp (E := E) O o) h1 h2 (mark_of hp)) fun σ H Q ⟨ι, env, s, hs, hn, hp⟩ => ?_
  simp only [evT] at hp
  refine ⟨ι, env, s, hs, hn, (post.bind (rel := relV D) hp).imp fun w H1 ⟨ι1, s1, v, e1, m1, r1, p1⟩ => ?_⟩
  refine ⟨ι1, env, s1, m1, hn.mono e1, (post.bind (rel := relV D) p1).imp fun ws H2 ⟨ι2, s2, vs, e2, m2, r2, p2⟩ => ?_⟩
  exact ⟨ι2, s2, v, vs, m2, r1.mono e2.to, r2, cmp_opt p2⟩
end
end U
/-! Mp2d: chains, and, or, not, ite, subscripts, slices. -/
namespace U
open PySem L2
section
variable {D : Wd} {E : XK} {X : L2.Cx} {C : Calls}
theorem ev_chain {o o' : COp} {m1 m2 m3 : Ex} {env : Env} {s : S} : ev C (.chain o o' m1 m2 m3) env s = (ev C m1 env s).bind fun x s => (ev C m2 env s).bind fun y s => match cmpV o x y s with
    | none => .bot
    | some false => .ok (.p (.bool false)) s
    | some true => (ev C m3 env s).bind fun z s => cmpG o' y z s := rfl
theorem marks2 {a b : Expr} {o o' : CmpOp} (h : pl b = true) : lastMarks [o, o'] [a, b] = false := by
  show behindInMarks o' b = false
  exact mark_of h
theorem se_chain (O : XOk D X) {e1 e2 e3 : Expr} {m1 m2 m3 : Ex} {o o' : COp} {pos : Pos} (h1 : SE D E C X e1 m1) (h2 : SE D E C X e2 m2) (h3 : SE D E C X e3 m3) (hp : pl e3 = true) :
    SE D E C X (.Compare e1 [copOf o, copOf o'] [e2, e3] pos) (.chain o o' m1 m2 m3) := by
  refine pe_by (pe_chain (ops_cmp (E := E) O o) (ops_cmp (E := E) O o') h1 h2 h3 (marks2 hp)) fun σ H Q ⟨ι, env, s, hs, hn, hp⟩ => ?_
  rw [ev_chain] at hp
  refine ⟨ι, env, s, hs, hn, (post.bind (rel := relV D) hp).imp fun w H1 ⟨ι1, s1, v, e1, m1, r1, p1⟩ => ?_⟩
  refine ⟨ι1, env, s1, m1, hn.mono e1, (post.bind (rel := relV D) p1).imp fun ws H2 ⟨ι2, s2, vs, e2, m2, r2, p2⟩ => ?_⟩
  refine ⟨ι2, s2, v, vs, m2, r1.mono e2.to, r2, ?_⟩
  unfold cmpG
  cases e : cmpV o v vs s2 with
  | none => rw [e] at p2; exact p2
  | some k =>
    rw [e] at p2
    intro ι3 H3 w3 e3 m3 r3
    refine ⟨k, rv_bool r3, ?_⟩
    cases k with
    | false => rw [if_neg (by simp)]; exact p2 ι3 H3 _ e3 m3 (.p (.bool false))
    | true =>
      rw [if_pos rfl]
      refine ⟨ι3, env, s2, m3, (hn.mono e1).mono (e2.trans e3), (post.bind (rel := relV D) (p2.ext e3)).imp fun w4 H4 ⟨ι4, s4, v4, e4, m4, r4, p4⟩ => ?_⟩
      exact ⟨ι4, s4, vs, v4, m4, r2.mono (e3.trans e4).to, r4, p4⟩
theorem st_chain (O : XOk D X) {e1 e2 e3 : Expr} {m1 m2 m3 : Ex} {o o' : COp} {pos : Pos} (h1 : SE D E C X e1 m1) (h2 : SE D E C X e2 m2) (h3 : SE D E C X e3 m3) (hp : pl e3 = true) :
    ST D E C X (.Compare e1 [copOf o, copOf o'] [e2, e3] pos) (.chain o o' m1 m2 m3) := by
  refine pt_by (pt_chain (ops_cmp (E := E) O o) (ops_cmp (E := E) O o') h1 h2 h3 (marks2 hp)) fun σ H Q ⟨ι, env, s, hs, hn, hp⟩ => ?_
  simp only [evT] at hp
  refine ⟨ι, env, s, hs, hn, (post.bind (rel := relV D) hp).imp fun w H1 ⟨ι1, s1, v, e1, m1, r1, p1⟩ => ?_⟩
  refine ⟨ι1, env, s1, m1, hn.mono e1, (post.bind (rel := relV D) p1).imp fun ws H2 ⟨ι2, s2, vs, e2, m2, r2, p2⟩ => ?_⟩
  refine ⟨ι2, s2, v, vs, m2, r1.mono e2.to, r2, ?_⟩
  unfold cmpG
  cases e : cmpV o v vs s2 with
  | none => rw [e] at p2; exact p2
  | some k =>
    rw [e] at p2
    intro ι3 H3 w3 e3 m3 r3
    refine ⟨k, rv_bool r3, ?_⟩
    cases k with
    | false => rw [if_neg (by simp)]; exact ⟨false, rfl, p2 ι3 H3 _ e3 m3 rfl⟩
    | true =>
      rw [if_pos rfl]
      refine ⟨ι3, env, s2, m3, (hn.mono e1).mono (e2.trans e3), (post.bind (rel := relV D) (p2.ext e3)).imp fun w4 H4 ⟨ι4, s4, v4, e4, m4, r4, p4⟩ => ?_⟩
      exact ⟨ι4, s4, vs, v4, m4, r2.mono (e3.trans e4).to, r4, cmp_opt p4⟩
/-! ### and, or, not -/
theorem se_one {op : BoolOp} {e : Expr} {m : Ex} {pos : Pos} (h : SE D E C X e m) : SE D E C X (.BoolOp op [e] pos) m := pe_one h
theorem se_and {a b : Expr} {rest : List Expr} {m1 m2 : Ex} {pos : Pos} (h1 : SE D E C X a m1) (h2 : SE D E C X (.BoolOp .And (b :: rest) pos) m2) : SE D E C X (.BoolOp .And (a :: b :: rest) pos) (.and m1 m2) := by
  refine pe_by (pe_and h1 h2) fun σ H Q ⟨ι, env, s, hs, hn, hp⟩ => ?_
  refine ⟨ι, env, s, hs, hn, (post.bind (rel := relV D) hp).imp fun w H1 ⟨ι1, s1, v, e1, m1, r1, p1⟩ => ?_⟩
  split at p1
  · rename_i k
    refine ⟨k, rv_bool r1, ?_⟩
    cases k with
    | true => rw [if_pos rfl]; exact ⟨ι1, env, s1, m1, hn.mono e1, p1⟩
    | false => rw [if_neg (by simp)]; exact post.now (rel := relV D) p1 m1 (.p (.bool false))
  · exact p1.elim
theorem se_or {a b : Expr} {rest : List Expr} {m1 m2 : Ex} {pos : Pos} (h1 : SE D E C X a m1) (h2 : SE D E C X (.BoolOp .Or (b :: rest) pos) m2) : SE D E C X (.BoolOp .Or (a :: b :: rest) pos) (.or m1 m2) := by
  refine pe_by (pe_or h1 h2) fun σ H Q ⟨ι, env, s, hs, hn, hp⟩ => ?_
  refine ⟨ι, env, s, hs, hn, (post.bind (rel := relV D) hp).imp fun w H1 ⟨ι1, s1, v, e1, m1, r1, p1⟩ => ?_⟩
  split at p1
  · rename_i k
    refine ⟨k, rv_bool r1, ?_⟩
    cases k with
    | true => rw [if_pos rfl]; exact post.now (rel := relV D) p1 m1 (.p (.bool true))
    | false => rw [if_neg (by simp)]; exact ⟨ι1, env, s1, m1, hn.mono e1, p1⟩
  · exact p1.elim
abbrev SW (D : Wd) (E : XK) (C : Calls) (X : L2.Cx) (e : Expr) (m : Ex) : Prop := PW X e (tT D E C m)
theorem pw_by {e : Expr} {t t' : TT} (h : PW X e t) (i : ∀ σ H Q, t' σ H Q → t σ H Q) : PW X e t' := ⟨fun wh pins s σ H Q I q => h.run wh pins s σ H Q I (i σ H Q q)⟩
theorem sw_and1 {a : Expr} {m1 : Ex} {pos : Pos} (h1 : ST D E C X a m1) : SW D E C X (.BoolOp .And [a] pos) m1 := pw_and1 h1
theorem sw_or1 {a : Expr} {m1 : Ex} {pos : Pos} (h1 : ST D E C X a m1) : SW D E C X (.BoolOp .Or [a] pos) m1 := pw_or1 h1
theorem sw_and {a b : Expr} {rest : List Expr} {m1 m2 : Ex} {pos : Pos} (h1 : ST D E C X a m1) (h2 : SW D E C X (.BoolOp .And (b :: rest) pos) m2) : SW D E C X (.BoolOp .And (a :: b :: rest) pos) (.and m1 m2) := by
  refine pw_by (pw_and h1 h2) fun σ H Q ⟨ι, env, s, hs, hn, hp⟩ => ?_
  simp only [evT] at hp
  refine ⟨ι, env, s, hs, hn, (post.bind (rel := relE) hp).imp fun w H1 ⟨ι1, s1, v, e1, m1, r1, p1⟩ => ?_⟩
  have r1 : v = w := r1
  subst r1
  cases v with
  | true => rw [if_pos rfl]; exact ⟨ι1, env, s1, m1, hn.mono e1, p1⟩
  | false => rw [if_neg (by simp)]; exact post.now (rel := relE) p1 m1 rfl
theorem sw_or {a b : Expr} {rest : List Expr} {m1 m2 : Ex} {pos : Pos} (h1 : ST D E C X a m1) (h2 : SW D E C X (.BoolOp .Or (b :: rest) pos) m2) : SW D E C X (.BoolOp .Or (a :: b :: rest) pos) (.or m1 m2) := by
  refine pw_by (pw_or h1 h2) fun σ H Q ⟨ι, env, s, hs, hn, hp⟩ => ?_
  simp only [evT] at hp
  refine ⟨ι, env, s, hs, hn, (post.bind (rel := relE) hp).imp fun w H1 ⟨ι1, s1, v, e1, m1, r1, p1⟩ => ?_⟩
  have r1 : v = w := r1
  subst r1
  cases v with
  | true => rw [if_pos rfl]; exact post.now (rel := relE) p1 m1 rfl
  | false => rw [if_neg (by simp)]; exact ⟨ι1, env, s1, m1, hn.mono e1, p1⟩
theorem st_not {a : Expr} {m : Ex} {pos : Pos} (h : ST D E C X a m) : ST D E C X (.UnaryOp .Not a pos) (.not m) := by
  refine pt_by (pt_not h) fun σ H Q ⟨ι, env, s, hs, hn, hp⟩ => ?_
  simp only [evT] at hp
  refine ⟨ι, env, s, hs, hn, (post.bind (rel := relE) hp).imp fun w H1 ⟨ι1, s1, v, e1, m1, r1, p1⟩ => ?_⟩
  have r1 : v = w := r1
  subst r1
  exact post.now (rel := relE) p1 m1 rfl
/-- not x as a value: x a bool -/
theorem se_not {a : Expr} {m : Ex} {pos : Pos} (h : SE D E C X a m) : SE D E C X (.UnaryOp .Not a pos) (.not m) := by
  refine pe_by (pe_not h) fun σ H Q ⟨ι, env, s, hs, hn, hp⟩ => ?_
  refine ⟨ι, env, s, hs, hn, (post.bind (rel := relV D) hp).imp fun w H1 ⟨ι1, s1, v, e1, m1, r1, p1⟩ => ?_⟩
  split at p1
  · rename_i k
    exact ⟨k, rv_bool r1, post.now (rel := relV D) p1 m1 (.p (.bool _))⟩
  · exact p1.elim
theorem se_ite {c a b : Expr} {m m1 m2 : Ex} {pos : Pos} (h : ST D E C X c m) (h1 : SE D E C X a m1) (h2 : SE D E C X b m2) : SE D E C X (.IfExp c a b pos) (.ite m m1 m2) := by
  refine pe_by (pe_ifExp h h1 h2) fun σ H Q ⟨ι, env, s, hs, hn, hp⟩ => ?_
  refine ⟨ι, env, s, hs, hn, (post.bind (rel := relE) hp).imp fun w H1 ⟨ι1, s1, v, e1, m1, r1, p1⟩ => ?_⟩
  have r1 : v = w := r1
  subst r1
  cases v with
  | true => rw [if_pos rfl]; exact ⟨ι1, env, s1, m1, hn.mono e1, p1⟩
  | false => rw [if_neg (by simp)]; exact ⟨ι1, env, s1, m1, hn.mono e1, p1⟩
theorem se_neg {a : Expr} {m : Ex} {pos : Pos} (h : SE D E C X a m) : SE D E C X (.UnaryOp .USub a pos) (.neg m) := by
  refine pe_by (pe_un un_neg h) fun σ H Q ⟨ι, env, s, hs, hn, hp⟩ => ?_
  refine ⟨ι, env, s, hs, hn, (post.bind (rel := relV D) hp).imp fun w H1 ⟨ι1, s1, v, e1, m1, r1, p1⟩ => ?_⟩
  split at p1
  · rename_i i
    exact ⟨i, rv_int r1, post.now (rel := relV D) p1 m1 (.p (.int _))⟩
  · exact p1.elim
/-! ### subscripts -/
theorem ixN_eq (n : Nat) (i : Int) : L2.ixN n i = U.ixN n i := rfl
theorem atI_rel {α β : Type} {F : α → β → Prop} {xs : List α} {ws : List β} (h : Paired F xs ws) {i : Int} {v : α} (e : U.atI xs i = some v) : ∃ w, L2.atI ws i = some w ∧ F v w := by
  unfold U.atI at e
  unfold L2.atI
  rw [ixN_eq, ← Paired.length h]
  cases q : U.ixN xs.length i with
  | none => rw [q] at e; cases e
  | some j => rw [q] at e; exact Pd.get h e
theorem NoSl_of {e : Expr} (h : pl e = true) : NoSl e := by
  intro o i
  exact sub_of h o i
theorem ix_dict (hu : X.A.units + 1 < cLine) : IxR X (fun x y H Q => ∃ a v, x = .ref a ∧ DGet H a y (some v) ∧ Q v H) := by
  intro value slice pins s σ H x y v u Q I rx ry ⟨a, w, e, g, q⟩ hs
  subst e
  cases rx
  refine PyProof.Rows.tail_any (dict_typeIs I g) PySem.F.slot_dict_getitem.lookup (d_getItem hu I g ry fun w' s3 I3 rw' => ⟨w, H, I3, rw', q⟩) hs
theorem idx_way {a b : Val} {x y : V} {v : Val} {ι : Inj} {H : Hp} {s : S} (m : Sim D H ι s) (ra : RelVal D.K H ι a x) (rb : RelVal D.K H ι b y) (h : idxV a b s = some v) :
    ∃ w, RelVal D.K H ι v w ∧ ∀ Q : VK, Q w H → rIx D.K x y H Q ∨ ∃ a v, x = .ref a ∧ DGet H a y (some v) ∧ Q v H := by
  match a, b, ra, rb, h with
  | .p (.tup xs), .p (.int i), ra, rb, h =>
    obtain ⟨p, ws, e, t, l, r⟩ := rv_tup ra
    simp only [idxV, Option.map_eq_some_iff] at h
    obtain ⟨v, h', rfl⟩ := h
    obtain ⟨w, h1, h2⟩ := atI_rel r h'
    exact ⟨w, .p h2, fun Q q => .inl (.inr (.inl ⟨p, ws, i, w, e, rv_int rb, t.sq, h1, q⟩))⟩
  | .p (.str xs), .p (.int i), ra, rb, h =>
    obtain ⟨e, l⟩ := rv_str ra
    simp only [idxV, Option.map_eq_some_iff] at h
    obtain ⟨c, h', rfl⟩ := h
    have hc : c ∈ xs := by
      unfold U.atI at h'
      cases q : U.ixN xs.length i with
      | none => rw [q] at h'; cases h'
      | some j => rw [q] at h'; exact List.mem_of_getElem? h'
    refine ⟨.str ⟨#[c]⟩, .p (.str [c] ⟨by rw [lim_eq]; show 1 ≤ LIM; decide, fun d hd => by
      have : d = c := by simpa using hd
      subst this; exact l.2 d hc⟩), fun Q q => .inl (.inr (.inr ⟨⟨xs.toArray⟩, i, c, e, rv_int rb, by simpa [Str.length] using l.1, ?_, q⟩))⟩
    show L2.atI xs.toArray.toList i = some c
    rw [List.toList_toArray]; exact h'
  | .t xs, .p (.int i), ra, rb, h =>
    obtain ⟨p, ws, e, t, l, r⟩ := rv_t ra
    obtain ⟨w, h1, h2⟩ := atI_rel r h
    exact ⟨w, h2, fun Q q => .inl (.inr (.inl ⟨p, ws, i, w, e, rv_int rb, t.sq, h1, q⟩))⟩
  | .r n, .p k, ra, rb, h =>
    obtain ⟨p, e, hp⟩ := rv_r ra
    cases ho : s.h[n]? with
    | none => simp [idxV, ho] at h
    | some o =>
      cases o with
      | inst c fs => simp [idxV, ho] at h
      | list xs =>
        obtain ⟨ws, w1, w2, w3⟩ := m.list hp ho
        cases k <;> simp only [idxV, ho] at h <;> try (cases h; done)
        rename_i i
        obtain ⟨w, h1, h2⟩ := atI_rel w3 h
        exact ⟨w, h2, fun Q q => .inl (.inl ⟨p, ws, i, w, e, rv_int rb, SqL.of w1, h1, q⟩)⟩
      | dict kvs =>
        obtain ⟨ws, w1, w2, w3⟩ := m.dict hp ho
        have h' : (if k.key then dget k kvs else none) = some v := by rw [← h]; simp only [idxV, ho]
        split at h'
        · rename_i hk
          obtain ⟨q, k1, k2⟩ := key_of (rv_p rb) hk
          have z := dget_of k1 w3
          rw [h'] at z
          obtain ⟨w, z1, z2⟩ := z
          exact ⟨w, z2, fun Q qq => .inr ⟨p, w, e, by rw [k2, ← z1]; exact DGet.k w1, qq⟩⟩
        · cases h'
  | .p .non, b, _, _, h => cases b <;> simp [idxV] at h
  | .p (.bool _), b, _, _, h => cases b <;> simp [idxV] at h
  | .p (.int _), b, _, _, h => cases b <;> simp [idxV] at h
  | .p (.tup _), .p .non, _, _, h => simp [idxV] at h
  | .p (.tup _), .p (.bool _), _, _, h => simp [idxV] at h
  | .p (.tup _), .p (.str _), _, _, h => simp [idxV] at h
  | .p (.tup _), .p (.tup _), _, _, h => simp [idxV] at h
  | .p (.tup _), .r _, _, _, h => simp [idxV] at h
  | .p (.tup _), .t _, _, _, h => simp [idxV] at h
  | .p (.tup _), .hd, _, _, h => simp [idxV] at h
  | .p (.tup _), .sc, _, _, h => simp [idxV] at h
  | .p (.str _), .p .non, _, _, h => simp [idxV] at h
  | .p (.str _), .p (.bool _), _, _, h => simp [idxV] at h
  | .p (.str _), .p (.str _), _, _, h => simp [idxV] at h
  | .p (.str _), .p (.tup _), _, _, h => simp [idxV] at h
  | .p (.str _), .r _, _, _, h => simp [idxV] at h
  | .p (.str _), .t _, _, _, h => simp [idxV] at h
  | .p (.str _), .hd, _, _, h => simp [idxV] at h
  | .p (.str _), .sc, _, _, h => simp [idxV] at h
  | .t _, .p .non, _, _, h => simp [idxV] at h
  | .t _, .p (.bool _), _, _, h => simp [idxV] at h
  | .t _, .p (.str _), _, _, h => simp [idxV] at h
  | .t _, .p (.tup _), _, _, h => simp [idxV] at h
  | .t _, .r _, _, _, h => simp [idxV] at h
  | .t _, .t _, _, _, h => simp [idxV] at h
  | .t _, .hd, _, _, h => simp [idxV] at h
  | .t _, .sc, _, _, h => simp [idxV] at h
  | .r _, .r _, _, _, h => simp [idxV] at h
  | .r _, .t _, _, _, h => simp [idxV] at h
  | .r _, .hd, _, _, h => simp [idxV] at h
  | .r _, .sc, _, _, h => simp [idxV] at h
  | .hd, b, _, _, h => cases b <;> simp [idxV] at h
  | .sc, b, _, _, h => cases b <;> simp [idxV] at h
theorem se_idx (O : XOk D X) {a i : Expr} {m1 m2 : Ex} {pos : Pos} (h1 : SE D E C X a m1) (h2 : SE D E C X i m2) (hp : pl i = true) : SE D E C X (.Subscript a i pos) (.idx m1 m2) := by
  refine pe_by (pe_ix (ix_seq.or (ix_dict O.u1)) h1 h2 (sub_of hp)) fun σ H Q ⟨ι, env, s, hs, hn, hp⟩ => ?_
  refine ⟨ι, env, s, hs, hn, (post.bind (rel := relV D) hp).imp fun w H1 ⟨ι1, s1, v, e1, m1, r1, p1⟩ => ?_⟩
  refine ⟨ι1, env, s1, m1, hn.mono e1, (post.bind (rel := relV D) p1).imp fun ws H2 ⟨ι2, s2, vs, e2, m2, r2, p2⟩ => ?_⟩
  cases e : idxV v vs s2 with
  | none => rw [e] at p2; exact p2.elim
  | some z =>
    rw [e] at p2
    obtain ⟨w', r', k⟩ := idx_way m2 (r1.mono e2.to) r2 e
    rw [O.hK]
    exact k Q (post.now (rel := relV D) p2 m2 r')
/-! ### slices -/
theorem sIx_eq (n d : Nat) (o : Option Int) : HT.sIx n d o = U.sIx n d o := by
  cases o with
  | none => rfl
  | some v =>
    have h := HT.clip_eq v n d
    show HT.sIx n d (some v) = if v < 0 then (max (v + n) 0).toNat else min v.toNat n
    split at h
    · rename_i c; rw [if_pos c]; omega
    · rename_i c; rw [if_neg c]; omega
theorem cut_eq (xs : List V) (lo hi : Option Int) : cutV xs lo hi = cut xs lo hi := by unfold cutV cut; rw [sIx_eq, sIx_eq]
theorem cut_rel {α β : Type} {F : α → β → Prop} {xs : List α} {ws : List β} (h : Paired F xs ws) (lo hi : Option Int) : Paired F (cut xs lo hi) (cut ws lo hi) := by
  unfold cut
  rw [Paired.length h]
  exact Pd.take _ (Pd.drop _ h)
theorem cut_len {α : Type} (xs : List α) (lo hi : Option Int) : (cut xs lo hi).length ≤ xs.length := by
  unfold cut
  rw [List.length_take, List.length_drop]; omega
theorem cut_mem {α : Type} {xs : List α} {lo hi : Option Int} {c : α} (h : c ∈ cut xs lo hi) : c ∈ xs := List.mem_of_mem_drop (List.mem_of_mem_take h)
abbrev SO (D : Wd) (E : XK) (C : Calls) (X : L2.Cx) (e : Option Expr) (m : Ox) : Prop := PO X e (tG D E relE (evO C m))
theorem so_none : SO D E C X none .no := ⟨fun pins s σ H Q I ⟨ι, env, s', hs, hn, hp⟩ => po_none.run pins s σ H Q I (post.now (rel := relE) hp hs rfl)⟩
theorem so_some {e : Expr} {m : Ex} (h : SE D E C X e m) : SO D E C X (some e) (.some m) := ⟨fun pins s σ H Q I ⟨ι, env, s', hs, hn, hp⟩ => by
  refine (po_some h).run pins s σ H Q I ⟨ι, env, s', hs, hn, (post.bind (rel := relV D) hp).imp fun w H1 ⟨ι1, s1, v, e1, m1, r1, p1⟩ => ?_⟩
  split at p1
  · rename_i i
    exact ⟨i, rv_int r1, post.now (rel := relE) p1 m1 rfl⟩
  · exact p1.elim⟩
theorem scr_rel {K : PySem.W.Frag} {ι : Inj} {H : Hp} : ∀ (ns : List Int), Paired (RelVal K H ι) (ns.map fun i => .p (.int i)) (ns.map V.int)
  | [] => .nil
  | n :: ns => .cons (.p (.int n)) (scr_rel ns)
theorem se_slc (O : XOk D X) {a : Expr} {lo hi : Option Expr} {m1 : Ex} {l u : Ox} {pos p2 : Pos} (h1 : SE D E C X a m1) (h2 : SO D E C X lo l) (h3 : SO D E C X hi u) : SE D E C X (.Subscript a (.Slice lo hi none p2) pos) (.slc m1 l u) := by
  refine pe_by (pe_slice (sl_list.or (sl_tupF.or sl_str)) h1 h2 h3) fun σ H Q ⟨ι, env, s, hs, hn, hp⟩ => ?_
  refine ⟨ι, env, s, hs, hn, (post.bind (rel := relV D) hp).imp fun w H1 ⟨ι1, s1, v, e1, m1, r1, p1⟩ => ?_⟩
  refine ⟨ι1, env, s1, m1, hn.mono e1, (post.bind (rel := relE) p1).imp fun o1 H2 ⟨ι2, s2, o1', e2, m2, r2, p2⟩ => ?_⟩
  have r2 : o1' = o1 := r2
  subst r2
  refine ⟨ι2, env, s2, m2, (hn.mono e1).mono e2, (post.bind (rel := relE) p2).imp fun o2 H3 ⟨ι3, s3, o2', e3, m3, r3, p3⟩ => ?_⟩
  have r3 : o2' = o2 := r3
  subst r3
  have rv := r1.mono (e2.trans e3).to
  rw [O.hK]
  match v, rv, p3 with
  | .p (.tup xs), rv, p3 =>
    obtain ⟨p, ws, e, t, l, r⟩ := rv_tup rv
    have q := Paired.length r
    refine .inr (.inl ⟨p, ws, e, t.sq, fun ⟨z1, z2⟩ => ?_, fun _ p H' hp n => ?_⟩)
    · rw [sIx_eq] at z1 z2
      have : cut xs o1' o2' = xs := by
        unfold cut
        rw [q, z1, z2, List.drop_zero, Nat.sub_zero, ← q, List.take_length]
      simp only [slcV] at p3
      rw [this] at p3
      exact post.now (rel := relV D) p3 m3 (.p (.tup t l r))
    · rw [cut_eq] at n
      exact post.mkTup p3 m3 hp n (Nat.le_trans (cut_len _ _ _) l) (cut_rel r _ _)
  | .p (.str xs), rv, p3 =>
    obtain ⟨e, l⟩ := rv_str rv
    refine .inr (.inr ⟨⟨xs.toArray⟩, e, by simpa [Str.length] using l.1, ?_⟩)
    have : cutS ⟨xs.toArray⟩ o1' o2' = ⟨(cut xs o1' o2').toArray⟩ := by
      unfold cutS cut
      rw [sIx_eq, sIx_eq]
      simp [Str.length]
    rw [this]
    exact post.now (rel := relV D) p3 m3 (.p (.str _ ⟨Nat.le_trans (cut_len _ _ _) l.1, fun c hc => l.2 c (cut_mem hc)⟩))
  | .r n, rv, p3 =>
    obtain ⟨p, e, hp⟩ := rv_r rv
    simp only [slcV] at p3
    split at p3
    · rename_i xs ho
      obtain ⟨ws, w1, w2, w3⟩ := m3.list hp ho
      refine .inl ⟨p, ws, e, SqL.of w1, fun q hq => ?_⟩
      rw [cut_eq]
      exact post.mkList (show post D E ι3 H3 (relV D) Q (new _ s3) from p3) m3 hq (Nat.le_trans (cut_len _ _ _) w2) (cut_rel w3 _ _)
    · exact p3.elim
  | .p .non, _, p3 => exact p3.elim
  | .p (.bool _), _, p3 => exact p3.elim
  | .p (.int _), _, p3 => exact p3.elim
  | .t _, _, p3 => exact p3.elim
  | .hd, _, p3 => exact p3.elim
  | .sc, rv, p3 =>
    obtain ⟨p, ew, hp⟩ : ∃ p, w = .ref p ∧ ι3.sc = some p := by
      cases rv with
      | sc hp => exact ⟨_, rfl, hp⟩
    · obtain ⟨l1, l2⟩ := m3.scr p hp
      have sq : SqL D.K H3 p (s3.sc.map V.int) := by
        rcases l2 with l2 | ⟨⟨o, l2⟩, _⟩
        · exact l2 H3
        · exact .inl (.inr ⟨o, l2⟩)
      refine .inl ⟨p, _, ew, sq, fun q hq => ?_⟩
      rw [cut_eq]
      have l3 : s3.sc.length ≤ sizeLine := Nat.le_trans l1 (by rw [lim_eq]; decide)
      exact post.mkList (show post D E ι3 H3 (relV D) Q (new _ s3) from p3) m3 hq (Nat.le_trans (cut_len _ _ _) (by rw [List.length_map]; exact l3)) (cut_rel (scr_rel s3.sc) _ _)
theorem se_rev (O : XOk D X) {a : Expr} {m1 : Ex} {k : Nat} {p1 p2 p3 pos : Pos} (h1 : SE D E C X a m1) : SE D E C X (.Subscript a (.Slice none none (some (.UnaryOp .USub (.Constant (.int 1) k p1) p2)) p3) pos) (.rev m1) := by
  refine pe_by (pe_revB h1) fun σ H Q ⟨ι, env, s, hs, hn, hp⟩ => ?_
  refine ⟨ι, env, s, hs, hn, (post.bind (rel := relV D) hp).imp fun w H1 ⟨ι1, s1, v, e1, m1, r1, p1⟩ => ?_⟩
  rw [O.hK]
  match v, r1, p1 with
  | .p (.tup xs), rv, p3 =>
    obtain ⟨p, ws, e, t, l, r⟩ := rv_tup rv
    exact ⟨p, ws, e, .inr ⟨t.sq, fun p H' hp n => post.mkTup p3 m1 hp n (by simpa using l) (Pd.rev r)⟩⟩
  | .r n, rv, p3 =>
    obtain ⟨p, e, hp⟩ := rv_r rv
    simp only [revV] at p3
    split at p3
    · rename_i xs ho
      obtain ⟨ws, w1, w2, w3⟩ := m1.list hp ho
      exact ⟨p, ws, e, .inl ⟨SqL.of w1, fun q hq => post.mkList (show post D E ι1 H1 (relV D) Q (new _ s1) from p3) m1 hq (by simpa using w2) (Pd.rev w3)⟩⟩
    · exact p3.elim
  | .p .non, _, p3 => exact p3.elim
  | .p (.bool _), _, p3 => exact p3.elim
  | .p (.int _), _, p3 => exact p3.elim
  | .p (.str _), _, p3 => exact p3.elim
  | .t _, _, p3 => exact p3.elim
  | .hd, _, p3 => exact p3.elim
  | .sc, _, p3 => exact p3.elim
end
end U
/-! Mp2e: lists that are made here, what is walked, comprehensions; statements. -/
namespace U
open PySem L2
abbrev E0' : XK := fun _ _ _ => False
section
variable {D : Wd} {E : XK} {X : L2.Cx} {C : Calls} {ι ι' : Inj} {H H' : Hp} {s : S}
/-! ### same values -/
mutual
theorem PV.beq_eq : ∀ {a b : PV}, a.beq b = true → a = b
  | .non, b, h => by cases b <;> simp [PV.beq] at h <;> rfl
  | .bool x, b, h => by cases b <;> simp [PV.beq] at h; rw [h]
  | .int x, b, h => by cases b <;> simp [PV.beq] at h; rw [h]
  | .str x, b, h => by cases b <;> simp [PV.beq] at h; rw [h]
  | .tup x, b, h => by
    cases b <;> simp [PV.beq] at h
    rw [PV.beqs_eq h]
theorem PV.beqs_eq : ∀ {a b : List PV}, PV.beqs a b = true → a = b
  | [], b, h => by cases b <;> simp [PV.beqs] at h <;> rfl
  | x :: xs, b, h => by
    cases b <;> simp [PV.beqs] at h
    rw [PV.beq_eq h.1, PV.beqs_eq h.2]
end
mutual
theorem Val.beq_eq : ∀ {a b : Val}, a.beq b = true → a = b
  | .p x, b, h => by cases b <;> simp [Val.beq] at h; rw [PV.beq_eq h]
  | .r x, b, h => by cases b <;> simp [Val.beq] at h; rw [h]
  | .t x, b, h => by
    cases b <;> simp [Val.beq] at h
    rw [Val.beqs_eq h]
  | .hd, b, h => by cases b <;> simp [Val.beq] at h <;> rfl
  | .sc, b, h => by cases b <;> simp [Val.beq] at h <;> rfl
theorem Val.beqs_eq : ∀ {a b : List Val}, Val.beqs a b = true → a = b
  | [], b, h => by cases b <;> simp [Val.beqs] at h <;> rfl
  | x :: xs, b, h => by
    cases b <;> simp [Val.beqs] at h
    rw [Val.beq_eq h.1, Val.beqs_eq h.2]
end
/-! ### a list that is made here and not told of -/
def relL (D : Wd) (H0 : Hp) : Inj → Hp → List Val → V → Prop := fun ι H vs w => ∃ p ws, w = .ref p ∧ H0 p = none ∧ H p = some (.lst ws) ∧ p ∉ ι.a ∧ (∀ a b, ι.hd = some (a, b) → p ≠ a ∧ p ≠ b) ∧ vs.length ≤ sizeLine ∧ Paired (RelVal D.K H ι) vs ws
def tL (D : Wd) (E : XK) (f : Env → S → R (List Val)) : TE := fun σ H Q => ∃ ι env s, Sim D H ι s ∧ RelEnv D.K H ι env σ ∧ post D E ι H (relL D H) Q (f env s)
abbrev SL (D : Wd) (E : XK) (C : Calls) (X : L2.Cx) (e : Expr) (l : Le) : Prop := PE X e (tL D E (evL C l))
theorem Sim.notHds (m : Sim D H ι s) {p : Addr} (hp : H p = none) : ∀ a b, ι.hd = some (a, b) → p ≠ a ∧ p ≠ b := fun a b z => by
  refine ⟨fun y => ?_, fun y => ?_⟩
  · subst y; exact m.notHd hp b z
  · subst y
    have := m.hand
    cases e : s.d with
    | none => rw [e] at this; rw [this] at z; cases z
    | some d =>
      rw [e] at this
      obtain ⟨p', q', e1, hh⟩ := this
      rw [e1] at z; cases z
      rw [hh.2.1] at hp; cases hp
theorem sl_disp {es : List Expr} {ms : Exs} {pos : Pos} (h : SA D E C X es ms) : SL D E C X (.List es pos) (.disp ms) := by
  refine pe_by (pe_lst h) fun σ H Q ⟨ι, env, s, hs, hn, hp⟩ => ?_
  refine ⟨ι, env, s, hs, hn, (post.bind (rel := relVs D) hp).imp fun ws H1 ⟨ι1, s1, vs, e1, m1, r1, p1⟩ => ?_⟩
  split at p1
  · rename_i l
    have q := Paired.length r1
    refine ⟨by rw [lim_eq, ← q]; exact l, fun p hp => ?_⟩
    have z := Ext.fresh (K := D.K) (ι := ι1) (o := .lst ws) hp
    exact p1 ι1 _ _ z (m1.fresh hp) ⟨p, ws, rfl, e1.stay p hp, upd_same, m1.notMem hp, m1.notHds hp, by rw [lim_eq]; exact l, RelVal.monos z.to r1⟩
  · exact p1.elim
/-- .. it is told of now -/
theorem se_lst {e : Expr} {l : Le} (h : SL D E C X e l) : SE D E C X e (.lst l) := by
  refine pe_by h fun σ H Q ⟨ι, env, s, hs, hn, hp⟩ => ⟨ι, env, s, hs, hn, ?_⟩
  have hp : post D E ι H (relV D) Q ((evL C l env s).bind fun vs s => new (.list vs) s) := hp
  cases z : evL C l env s with
  | bot => rw [z] at hp; exact hp
  | exc x s => rw [z] at hp; exact hp
  | ok vs s1 =>
    rw [z] at hp
    intro ι' H' w e' m' ⟨p, ws, ew, h0, h1, h2, h3, h4, h5⟩
    subst ew
    have hp : post D E ι H (relV D) Q (.ok (.r s1.h.length) { s1 with h := s1.h ++ [.list vs] }) := hp
    refine hp (ι'.add p) H' _ (e'.add h0) (m'.add h2 h3 ⟨ws, h1, h4, RelVal.monos Ext0.add h5⟩) (.r ?_)
    rw [← m'.len]; exact Inj.get_add
/-! ### what is walked -/
structure Walks (D : Wd) (ι : Inj) (H : Hp) (xs : List Val) (g : List (Nat × List Val)) (J : L2.It) : Prop where
  go : ∀ (ι' : Inj) (H' : Hp) (s : S) (i : Nat) (v : Val), Ext D.K ι H ι' H' → Sim D H' ι' s → still s g = true → xs[i]? = some v → J.go i H' ∧ ∀ x H'', J.yld i H' x H'' → Ext D.K ι' H' ι' H'' ∧ Sim D H'' ι' s ∧ RelVal D.K H'' ι' v x ∧ ∀ a o, H' a = some o → H'' a = some o
  stop : ∀ (ι' : Inj) (H' : Hp) (s : S), Ext D.K ι H ι' H' → Sim D H' ι' s → still s g = true → J.stop xs.length H'
abbrev relW (D : Wd) : Inj → Hp → List Val × List (Nat × List Val) → L2.It → Prop := fun ι H q J => Walks D ι H q.1 q.2 J
abbrev tI (D : Wd) (E : XK) (C : Calls) (i : It) : L2.TI := tG D E (relW D) (evI C i)
abbrev SI (D : Wd) (E : XK) (C : Calls) (X : L2.Cx) (tg e : Expr) (i : It) : Prop := PI X tg e (tI D E C i)
theorem still_one {n : Nat} {xs : List Val} (h : still s [(n, xs)] = true) : s.h[n]? = some (.list xs) := by
  unfold still at h
  simp only [List.all_cons, List.all_nil, Bool.and_true] at h
  split at h
  · rename_i ys e; rw [e, Val.beqs_eq h]
  · cases h
theorem walks_list {n : Nat} {a : Addr} {xs : List Val} (ha : ι.a[n]? = some a) : Walks D ι H xs [(n, xs)] (Itl D.K a) where
  go := fun ι' H' s i v e m g hv => by
    obtain ⟨ws, w1, w2, w3⟩ := m.list (e.get ha) (still_one g)
    obtain ⟨w, q1, q2⟩ := Pd.get w3 hv
    refine ⟨⟨ws, w, SqL.of w1, q1⟩, fun x H'' ⟨y1, y2⟩ => ?_⟩
    subst y1
    have z := y2 ws (SqL.of w1)
    rw [q1] at z
    cases z
    exact ⟨Ext.refl, m, q2, fun _ _ h => h⟩
  stop := fun ι' H' s e m g => by
    obtain ⟨ws, w1, w2, w3⟩ := m.list (e.get ha) (still_one g)
    exact ⟨ws, SqL.of w1, by rw [Paired.length w3]; exact Nat.le_refl _⟩
theorem walks_fresh {p : Addr} {xs : List Val} {ws : List V} (h1 : H p = some (.lst ws)) (h2 : p ∉ ι.a) (h3 : ∀ a b, ι.hd = some (a, b) → p ≠ a ∧ p ≠ b) (h5 : Paired (RelVal D.K H ι) xs ws) : Walks D ι H xs [] (Itl D.K p) where
  go := fun ι' H' s i v e m g hv => by
    have k := e.keep p _ h1 h2 fun q z => (h3 p q z).1 rfl
    obtain ⟨w, q1, q2⟩ := Pd.get (RelVal.monos e.to h5) hv
    refine ⟨⟨ws, w, SqL.of k, q1⟩, fun x H'' ⟨y1, y2⟩ => ?_⟩
    subst y1
    have z := y2 ws (SqL.of k)
    rw [q1] at z
    cases z
    exact ⟨Ext.refl, m, q2, fun _ _ h => h⟩
  stop := fun ι' H' s e m g => ⟨ws, SqL.of (e.keep p _ h1 h2 fun q z => (h3 p q z).1 rfl), by rw [Paired.length h5]; exact Nat.le_refl _⟩
theorem walks_tup {p : Addr} {xs : List Val} {ws : List V} (h1 : TupAt H p ws) (h5 : Paired (RelVal D.K H ι) xs ws) : Walks D ι H xs [] (Itt D.K p) where
  go := fun ι' H' s i v e m g hv => by
    have k : SqT D.K H' p ws := (e.tup p _ h1).sq
    obtain ⟨w, q1, q2⟩ := Pd.get (RelVal.monos e.to h5) hv
    refine ⟨⟨ws, w, k, q1⟩, fun x H'' ⟨y1, y2⟩ => ?_⟩
    subst y1
    have z := y2 ws k
    rw [q1] at z
    cases z
    exact ⟨Ext.refl, m, q2, fun _ _ h => h⟩
  stop := fun ι' H' s e m g => ⟨ws, (e.tup p _ h1).sq, by rw [Paired.length h5]; exact Nat.le_refl _⟩
theorem walks_str {l : List Nat} (h : StrOk l) : Walks D ι H (l.map fun c => Val.p (.str [c])) [] (Its ⟨l.toArray⟩) where
  go := fun ι' H' s i v e m g hv => by
    rw [List.getElem?_map] at hv
    obtain ⟨c, q1, rfl⟩ := Option.map_eq_some_iff.mp hv
    have li := (List.getElem?_eq_some_iff.mp q1).1
    refine ⟨by show i < l.toArray.size; simpa using li, fun x H'' ⟨y1, c', y2, y3⟩ => ?_⟩
    subst y1
    have y2 : l.toArray[i]? = some c' := y2
    rw [List.getElem?_toArray, q1] at y2
    cases y2
    subst y3
    exact ⟨Ext.refl, m, .p (.str [c] ⟨by rw [lim_eq]; show 1 ≤ LIM; decide, fun d hd => by
      have : d = c := by simpa using hd
      subst this; exact h.2 d (List.mem_of_getElem? q1)⟩), fun _ _ h => h⟩
  stop := fun ι' H' s e m g => by
    show l.toArray.size ≤ _
    simp
theorem rangeL_get (lo c : Int) : ∀ (n i : Nat), (rangeL lo c n)[i]? = if i < n then some (.p (.int (lo + i * c))) else none
  | 0, i => by simp [rangeL]
  | n + 1, 0 => by simp [rangeL]
  | n + 1, i + 1 => by
    simp only [rangeL, List.getElem?_cons_succ]
    rw [rangeL_get (lo + c) c n i]
    by_cases h : i < n
    · rw [if_pos h, if_pos (by omega)]
      congr 3
      have : ((i + 1 : Nat) : Int) * c = i * c + c := by rw [Int.natCast_add, Int.add_mul]; simp
      rw [this]; omega
    · rw [if_neg h, if_neg (by omega)]
theorem rangeL_len (lo c : Int) : ∀ n, (rangeL lo c n).length = n
  | 0 => rfl
  | n + 1 => by simp [rangeL, rangeL_len]
theorem walks_range {lo : Int} {n : Nat} : Walks D ι H (rangeL lo 1 n) [] (Itr lo n) where
  go := fun ι' H' s i v e m g hv => by
    rw [rangeL_get] at hv
    split at hv
    · rename_i h
      cases hv
      refine ⟨h, fun x H'' ⟨y1, y2⟩ => ?_⟩
      subst y1 y2
      exact ⟨Ext.refl, m, by simpa using RelVal.p (.int (lo + i)), fun _ _ h => h⟩
    · cases hv
  stop := fun ι' H' s e m g => by show n ≤ _; rw [rangeL_len]; exact Nat.le_refl _
theorem walks_rangeC {lo c : Int} {n : Nat} : Walks D ι H (rangeL lo c n) [] (Itc lo c n) where
  go := fun ι' H' s i v e m g hv => by
    rw [rangeL_get] at hv
    split at hv
    · rename_i h
      cases hv
      refine ⟨h, fun x H'' ⟨y1, y2⟩ => ?_⟩
      subst y1 y2
      exact ⟨Ext.refl, m, .p (.int _), fun _ _ h => h⟩
    · cases hv
  stop := fun ι' H' s e m g => by show n ≤ _; rw [rangeL_len]; exact Nat.le_refl _
/-- iterating a value: by what it is -/
theorem si_ex (O : XOk D X) {tg e : Expr} {m : Ex} (h : SE D E C X e m) : SI D E C X tg e (.ex m) := by
  refine ⟨fun pins sh σ H R I ⟨ι, env, s, hs, hn, hp⟩ => ?_⟩
  have hp : post D E ι H (relW D) R ((ev C m env s).bind fun x s => match itemsOf x s, guardOf x s with
    | some xs, some g => .ok (xs, g) s
    | _, _ => .bot) := hp
  cases z : ev C m env s with
  | bot => rw [z] at hp; exact hp.elim
  | exc x s1 =>
    refine (pi_list (tg := tg) h).run pins sh σ H R I ⟨ι, env, s, hs, hn, ?_⟩
    rw [z] at hp
    rw [z]
    exact hp
  | ok v s1 =>
    rw [z] at hp
    have hp : post D E ι H (relW D) R (match itemsOf v s1, guardOf v s1 with
      | some xs, some g => .ok (xs, g) s1
      | _, _ => .bot) := hp
    match v, z, hp with
    | .p (.tup xs), z, hp =>
      refine (pi_tup (tg := tg) h).run pins sh σ H R I ⟨ι, env, s, hs, hn, ?_⟩
      rw [z]
      intro ι' H' w e' m' r
      obtain ⟨p, ws, ew, t, l, q⟩ := rv_tup r
      rw [O.hK]
      exact ⟨p, ew, ⟨ws, t.sq⟩, hp ι' H' _ e' m' (walks_tup t (pv_vals q))⟩
    | .t xs, z, hp =>
      refine (pi_tup (tg := tg) h).run pins sh σ H R I ⟨ι, env, s, hs, hn, ?_⟩
      rw [z]
      intro ι' H' w e' m' r
      obtain ⟨p, ws, ew, t, l, q⟩ := rv_t r
      rw [O.hK]
      exact ⟨p, ew, ⟨ws, t.sq⟩, hp ι' H' _ e' m' (walks_tup t q)⟩
    | .p (.str xs), z, hp =>
      refine (pi_str (tg := tg) h).run pins sh σ H R I ⟨ι, env, s, hs, hn, ?_⟩
      rw [z]
      intro ι' H' w e' m' r
      obtain ⟨ew, l⟩ := rv_str r
      exact ⟨_, ew, hp ι' H' _ e' m' (walks_str l)⟩
    | .r n, z, hp =>
      simp only [itemsOf, guardOf] at hp
      cases ho : s1.h[n]? with
      | none => rw [ho] at hp; exact hp.elim
      | some o =>
        rw [ho] at hp
        cases o with
        | dict kvs => exact hp.elim
        | inst c fs => exact hp.elim
        | list xs =>
          refine (pi_list (tg := tg) h).run pins sh σ H R I ⟨ι, env, s, hs, hn, ?_⟩
          rw [z]
          intro ι' H' w e' m' r
          obtain ⟨p, ew, hp'⟩ := rv_r r
          obtain ⟨ws, w1, w2, w3⟩ := m'.list hp' ho
          rw [O.hK]
          exact ⟨p, ew, ⟨ws, SqL.of w1⟩, hp ι' H' _ e' m' (walks_list hp')⟩
    | .p .non, _, hp => exact hp.elim
    | .p (.bool _), _, hp => exact hp.elim
    | .p (.int _), _, hp => exact hp.elim
    | .hd, _, hp => exact hp.elim
    | .sc, _, hp => exact hp.elim
theorem si_le (O : XOk D X) {tg e : Expr} {l : Le} (h : SL D E C X e l) : SI D E C X tg e (.le l) := by
  refine ⟨fun pins sh σ H R I ⟨ι, env, s, hs, hn, hp⟩ => ?_⟩
  have hp : post D E ι H (relW D) R ((evL C l env s).bind fun vs s => .ok (vs, []) s) := hp
  refine (pi_list (tg := tg) h).run pins sh σ H R I ⟨ι, env, s, hs, hn, ?_⟩
  cases z : evL C l env s with
  | bot => rw [z] at hp; exact hp.elim
  | exc x s1 => rw [z] at hp; exact hp
  | ok vs s1 =>
    rw [z] at hp
    intro ι' H' w e' m' ⟨p, ws, ew, h0, h1, h2, h3, h4, h5⟩
    rw [O.hK]
    exact ⟨p, ew, ⟨ws, SqL.of h1⟩, hp ι' H' _ e' m' (walks_fresh h1 h2 h3 h5)⟩
theorem r62 {i : Int} (h : R62 i = true) : -(2 ^ 62) ≤ i ∧ i < 2 ^ 62 := by
  obtain ⟨a, b⟩ := Bool.and_eq_true_iff.mp h
  exact ⟨of_decide_eq_true a, of_decide_eq_true b⟩
theorem si_rng1 {tg a : Expr} {m : Ex} {p pos : Pos} (hg : Gl X "range") (hm : X.mg "range" = none) (h : SE D E C X a m) (hp : pl a = true) : SI D E C X tg (.Call (.Name "range" p) [a] [] pos) (.rng1 m) := by
  have ha : SA D E C X [a] (.cons m .nil) := sa_cons h sa_nil hp
  refine ⟨fun pins sh σ H R I ⟨ι, env, s, hs, hn, hp⟩ => ?_⟩
  refine (pi_range1 (tg := tg) hg hm ha (star_of (by assumption))).run pins sh σ H R I ⟨ι, env, s, hs, hn, ?_⟩
  have hp : post D E ι H (relW D) R ((ev C m env s).bind fun x s => match range1 x with
    | some xs => .ok (xs, []) s
    | none => .bot) := hp
  show post D E ι H (relVs D) _ ((ev C m env s).bind fun v s => (U.R.ok [] s : U.R (List Val)).bind fun vs s => .ok (v :: vs) s)
  cases z : ev C m env s with
  | bot => rw [z] at hp; exact hp.elim
  | exc x s1 => rw [z] at hp; exact hp
  | ok v s1 =>
    rw [z] at hp
    intro ι' H' ws e' m' r
    obtain ⟨w, ws', ew, r1, r2⟩ := Pd.consL r
    cases Pd.nilL r2
    have hp : post D E ι H (relW D) R (match range1 v with
      | some xs => .ok (xs, []) s1
      | none => .bot) := hp
    cases q : range1 v with
    | none => rw [q] at hp; exact hp.elim
    | some xs =>
      rw [q] at hp
      unfold range1 at q
      split at q
      · rename_i n
        split at q
        · rename_i c
          cases q
          have := r62 c
          exact ⟨n, by rw [ew, rv_int r1], this.1, this.2, hp ι' H' _ e' m' walks_range⟩
        · cases q
      · cases q
theorem si_rng2 {tg a b : Expr} {m n : Ex} {p pos : Pos} (hg : Gl X "range") (hm : X.mg "range" = none) (h : SE D E C X a m) (h' : SE D E C X b n) (hp : pl a = true) (hp' : pl b = true) : SI D E C X tg (.Call (.Name "range" p) [a, b] [] pos) (.rng2 m n) := by
  have ha : SA D E C X [a, b] (.cons m (.cons n .nil)) := sa_cons h (sa_cons h' sa_nil hp') hp
  have st2 : starEach [b] X.env = [(false, eval b X.env)] := star_of hp'
  have st1 : starEach [a, b] X.env = [(false, eval a X.env), (false, eval b X.env)] := by rw [star_of hp, st2]
  refine ⟨fun pins sh σ H R I ⟨ι, env, s, hs, hn, hp⟩ => ?_⟩
  refine (pi_range2 (tg := tg) hg hm ha st1 st2).run pins sh σ H R I ⟨ι, env, s, hs, hn, ?_⟩
  have hp : post D E ι H (relW D) R ((ev C m env s).bind fun x s => (ev C n env s).bind fun y s => match range2 x y with
    | some xs => .ok (xs, []) s
    | none => .bot) := hp
  show post D E ι H (relVs D) _ ((ev C m env s).bind fun v s => ((ev C n env s).bind fun v s => (U.R.ok [] s : U.R (List Val)).bind fun vs s => .ok (v :: vs) s).bind fun vs s => .ok (v :: vs) s)
  cases z1 : ev C m env s with
  | bot => rw [z1] at hp; exact hp.elim
  | exc x s1 => rw [z1] at hp; exact hp
  | ok v s1 =>
    rw [z1] at hp
    simp only [U.R.bind_ok] at hp ⊢
    cases z2 : ev C n env s1 with
    | bot => rw [z2] at hp; exact hp.elim
    | exc x s1 => rw [z2] at hp; exact hp
    | ok u s2 =>
      rw [z2] at hp
      simp only [U.R.bind_ok] at hp ⊢
      intro ι' H' ws e' m' r
      obtain ⟨w, ws', ew, r1, r2⟩ := Pd.consL r
      obtain ⟨w', ws'', ew', r3, r4⟩ := Pd.consL r2
      cases Pd.nilL r4
      subst ew'
      cases q : range2 v u with
      | none => rw [q] at hp; exact hp.elim
      | some xs =>
        rw [q] at hp
        unfold range2 at q
        split at q
        · rename_i i j
          split at q
          · rename_i c
            cases q
            obtain ⟨c1, c2⟩ := Bool.and_eq_true_iff.mp c
            have h1 := r62 c1
            have h2 := r62 c2
            exact ⟨i, j, by rw [ew, rv_int r1, rv_int r3], ⟨h1.1, h1.2, h2.1, h2.2⟩, hp ι' H' _ e' m' walks_range⟩
          · cases q
        · cases q
theorem si_rng3 {tg a b c : Expr} {m n o : Ex} {p pos : Pos} (hg : Gl X "range") (hm : X.mg "range" = none) (h : SE D E C X a m) (h' : SE D E C X b n) (h'' : SE D E C X c o) (hp : pl a = true) (hp' : pl b = true) (hp'' : pl c = true) :
    SI D E C X tg (.Call (.Name "range" p) [a, b, c] [] pos) (.rng3 m n o) := by
  have ha : SA D E C X [a, b, c] (.cons m (.cons n (.cons o .nil))) := sa_cons h (sa_cons h' (sa_cons h'' sa_nil hp'') hp') hp
  have st3 : starEach [c] X.env = [(false, eval c X.env)] := star_of hp''
  have st2 : starEach [b, c] X.env = [(false, eval b X.env), (false, eval c X.env)] := by rw [star_of hp', st3]
  have st1 : starEach [a, b, c] X.env = (false, eval a X.env) :: starEach [b, c] X.env := star_of hp
  refine ⟨fun pins sh σ H R I ⟨ι, env, s, hs, hn, hp⟩ => ?_⟩
  refine (pi_range3 (tg := tg) hg hm ha st1 (by rw [st2]; rfl)).run pins sh σ H R I ⟨ι, env, s, hs, hn, ?_⟩
  have hp : post D E ι H (relW D) R ((ev C m env s).bind fun x s => (ev C n env s).bind fun y s => (ev C o env s).bind fun z s => match range3 x y z with
    | some xs => .ok (xs, []) s
    | none => .bot) := hp
  show post D E ι H (relVs D) _ ((ev C m env s).bind fun v s => ((ev C n env s).bind fun v s => ((ev C o env s).bind fun v s => (U.R.ok [] s : U.R (List Val)).bind fun vs s => .ok (v :: vs) s).bind fun vs s => .ok (v :: vs) s).bind fun vs s => .ok (v :: vs) s)
  cases z1 : ev C m env s with
  | bot => rw [z1] at hp; exact hp.elim
  | exc x s1 => rw [z1] at hp; exact hp
  | ok v s1 =>
    rw [z1] at hp
    simp only [U.R.bind_ok] at hp ⊢
    cases z2 : ev C n env s1 with
    | bot => rw [z2] at hp; exact hp.elim
    | exc x s1 => rw [z2] at hp; exact hp
    | ok u s2 =>
      rw [z2] at hp
      simp only [U.R.bind_ok] at hp ⊢
      cases z3 : ev C o env s2 with
      | bot => rw [z3] at hp; exact hp.elim
      | exc x s1 => rw [z3] at hp; exact hp
      | ok t s3 =>
        rw [z3] at hp
        simp only [U.R.bind_ok] at hp ⊢
        intro ι' H' ws e' m' r
        obtain ⟨w, ws', ew, r1, r2⟩ := Pd.consL r
        obtain ⟨w', ws'', ew', r3, r4⟩ := Pd.consL r2
        obtain ⟨w'', wt, ew'', r5, r6⟩ := Pd.consL r4
        cases Pd.nilL r6
        subst ew' ew''
        cases q : range3 v u t with
        | none => rw [q] at hp; exact hp.elim
        | some xs =>
          rw [q] at hp
          unfold range3 at q
          split at q
          · rename_i i j k
            split at q
            · rename_i c
              obtain ⟨c1, c2⟩ := Bool.and_eq_true_iff.mp c
              have h1 := r62 c1
              have h2 := r62 c2
              split at q
              · rename_i e1
                cases q
                subst e1
                exact ⟨i, j, -1, (i - j).toNat, by rw [ew, rv_int r1, rv_int r3, rv_int r5], RgC.neg h1.1 h1.2 h2.1 h2.2, hp ι' H' _ e' m' walks_rangeC⟩
              · cases q
            · cases q
          · cases q
/-! ### targets -/
mutual
def tgR (K : PySem.W.Frag) : Tg → L2.TG
  | .var i => gName i
  | .tup ts => gTup K ts.len (tgsR K ts)
def tgsR (K : PySem.W.Frag) : Tgs → L2.TGs
  | .nil => gNil
  | .cons t r => gCons (tgR K t) (tgsR K r)
end
theorem RelEnv.set {env : Env} {σ : L2.St} {i : Nat} {v : Val} {w : V} (h : RelEnv D.K H ι env σ) (r : RelVal D.K H ι v w) : RelEnv D.K H ι (env.set i (some v)) (σ.set i (some w)) := by
  refine ⟨by simp [h.1], fun j u e => ?_⟩
  by_cases z : j = i
  · subst z
    by_cases l : j < env.length
    · rw [List.getElem?_set_self l] at e
      cases e
      exact ⟨w, by rw [List.getElem?_set_self (by rw [← h.1]; exact l)], r⟩
    · rw [List.getElem?_eq_none (by simpa using l)] at e; cases e
  · rw [List.getElem?_set_ne (Ne.symm z)] at e
    obtain ⟨w', e1, r'⟩ := h.2 j u e
    exact ⟨w', by rw [List.getElem?_set_ne (Ne.symm z)]; exact e1, r'⟩
theorem parts_rel {v : Val} {vs : List Val} {w : V} (r : RelVal D.K H ι v w) (h : partsOf v = some vs) : ∃ a ws, w = .ref a ∧ SqT D.K H a ws ∧ Paired (RelVal D.K H ι) vs ws := by
  match v, r, h with
  | .p (.tup xs), r, h =>
    obtain ⟨p, ws, ew, t, l, q⟩ := rv_tup r
    cases h
    exact ⟨p, ws, ew, t.sq, pv_vals q⟩
  | .t xs, r, h =>
    obtain ⟨p, ws, ew, t, l, q⟩ := rv_t r
    cases h
    exact ⟨p, ws, ew, t.sq, q⟩
  | .p .non, _, h => cases h
  | .p (.bool _), _, h => cases h
  | .p (.int _), _, h => cases h
  | .p (.str _), _, h => cases h
  | .r _, _, h => cases h
  | .hd, _, h => cases h
  | .sc, _, h => cases h
/-- two slot lists agree but at these -/
def Same (vs : List Nat) (σ σ' : L2.St) : Prop := σ'.length = σ.length ∧ ∀ i, i ∉ vs → σ'[i]? = σ[i]?
theorem tgs_len : ∀ (ts : Tgs) {vs : List Val} {env env' : Env}, ts.bind vs env = some env' → vs.length = ts.len
  | .nil, [], _, _, _ => rfl
  | .nil, _ :: _, _, _, h => by simp [Tgs.bind] at h
  | .cons _ _, [], _, _, h => by simp [Tgs.bind] at h
  | .cons t r, v :: vs, env, env', h => by
    simp only [Tgs.bind] at h
    obtain ⟨e, h1, h2⟩ := Option.bind_eq_some_iff.mp h
    show vs.length + 1 = r.len + 1
    rw [tgs_len r h2]
mutual
theorem tgR_ok : ∀ (t : Tg) {v : Val} {w : V} {σ : L2.St} {env env' : Env} {k : L2.St → Hp → Prop}, RelEnv D.K H ι env σ → RelVal D.K H ι v w → t.bind v env = some env' →
    (∀ σ', RelEnv D.K H ι env' σ' → Same t.slots σ σ' → k σ' H) → tgR D.K t w σ H k
  | .var i, v, w, σ, env, env', k, hn, r, h, hk => by
    cases h
    refine hk _ (hn.set r) ⟨by simp, fun j hj => ?_⟩
    rw [List.getElem?_set_ne]
    intro z; subst z; exact hj (by simp [Tg.slots])
  | .tup ts, v, w, σ, env, env', k, hn, r, h, hk => by
    simp only [Tg.bind] at h
    obtain ⟨vs, h1, h2⟩ := Option.bind_eq_some_iff.mp h
    obtain ⟨a, ws, ew, t, q⟩ := parts_rel r h1
    exact ⟨a, ws, ew, t, by rw [← Paired.length q, tgs_len ts h2], tgsR_ok ts hn q h2 fun σ' a b => hk σ' a b⟩
theorem tgsR_ok : ∀ (t : Tgs) {vs : List Val} {ws : List V} {σ : L2.St} {env env' : Env} {k : L2.St → Hp → Prop}, RelEnv D.K H ι env σ → Paired (RelVal D.K H ι) vs ws → t.bind vs env = some env' →
    (∀ σ', RelEnv D.K H ι env' σ' → Same t.slots σ σ' → k σ' H) → tgsR D.K t ws σ H k
  | .nil, [], ws, σ, env, env', k, hn, r, h, hk => by
    cases Pd.nilL r
    cases h
    exact ⟨rfl, hk σ hn ⟨rfl, fun _ _ => rfl⟩⟩
  | .nil, _ :: _, _, _, _, _, _, _, _, h, _ => by simp [Tgs.bind] at h
  | .cons _ _, [], _, _, _, _, _, _, _, h, _ => by simp [Tgs.bind] at h
  | .cons t r, v :: vs, ws, σ, env, env', k, hn, q, h, hk => by
    simp only [Tgs.bind] at h
    obtain ⟨e, h1, h2⟩ := Option.bind_eq_some_iff.mp h
    obtain ⟨w, ws', ew, r1, r2⟩ := Pd.consL q
    refine ⟨w, ws', ew, tgR_ok t hn r1 h1 fun σ1 n1 s1 => ?_⟩
    refine tgsR_ok r n1 r2 h2 fun σ2 n2 s2 => ?_
    refine hk σ2 n2 ⟨s2.1.trans s1.1, fun i hi => ?_⟩
    have hi : i ∉ t.slots ++ r.slots := hi
    rw [s2.2 i fun z => hi (List.mem_append_right _ z), s1.2 i fun z => hi (List.mem_append_left _ z)]
end
theorem wipe_len (vs : List Nat) (σ : L2.St) : (wipe σ vs).length = σ.length := wipe_length σ vs
theorem wipe_get (vs : List Nat) : ∀ (σ : L2.St) (i : Nat), (wipe σ vs)[i]? = if i ∈ vs then (if i < σ.length then some none else none) else σ[i]? := by
  induction vs with
  | nil => intro σ i; simp [wipe]
  | cons j vs ih =>
    intro σ i
    show ((wipe σ vs).set j none)[i]? = _
    by_cases e : i = j
    · subst e
      rw [List.getElem?_set, wipe_len]
      simp
    · rw [List.getElem?_set_ne (Ne.symm e), ih]
      by_cases h : i ∈ vs
      · simp [h]
      · simp [e, h]
theorem wipeE_get (vs : List Nat) : ∀ (env : Env) (i : Nat), (wipeE env vs)[i]? = if i ∈ vs then (if i < env.length then some none else none) else env[i]? := by
  induction vs with
  | nil => intro σ i; simp [wipeE]
  | cons j vs ih =>
    intro σ i
    show (wipeE (σ.set j none) vs)[i]? = _
    rw [ih]
    by_cases h : i ∈ vs
    · simp [h]
    · simp only [h, if_false]
      by_cases e : i = j
      · subst e
        rw [List.getElem?_set]
        simp
      · rw [List.getElem?_set_ne (Ne.symm e)]
        simp [e, h]
theorem wipeE_len (vs : List Nat) : ∀ σ : Env, (wipeE σ vs).length = σ.length := by
  induction vs with
  | nil => intro σ; rfl
  | cons j vs ih => intro σ; show (wipeE (σ.set j none) vs).length = _; rw [ih]; simp
theorem RelEnv.wipe {env : Env} {σ : L2.St} (vs : List Nat) (h : RelEnv D.K H ι env σ) : RelEnv D.K H ι (wipeE env vs) (L2.wipe σ vs) := by
  refine ⟨by rw [wipeE_len, wipe_len, h.1], fun i v e => ?_⟩
  rw [wipeE_get] at e
  rw [wipe_get]
  by_cases z : i ∈ vs
  · rw [if_pos z] at e
    split at e <;> cases e
  · rw [if_neg z] at e ⊢
    exact h.2 i v e
theorem wipe_same {vs us : List Nat} {σ σ' : L2.St} (h : Same us (wipe σ vs) σ') (hs : ∀ i ∈ us, i ∈ vs) : wipe σ' vs = wipe σ vs := by
  apply List.ext_getElem?
  intro i
  rw [wipe_get, wipe_get]
  by_cases z : i ∈ vs
  · rw [if_pos z, if_pos z, h.1, wipe_len]
  · rw [if_neg z, if_neg z, h.2 i fun y => z (hs i y), wipe_get, if_neg z]
end
end U
/-! Mp2f: comprehensions; statements, while, for. -/
namespace U
open PySem L2
section
variable {D : Wd} {E : XK} {X : L2.Cx} {C : Calls} {ι ι' ι1 : Inj} {H H' H1 : Hp} {s : S}
/-- a list that is not told of stands at p -/
structure Free (p : Addr) (ι : Inj) (H : Hp) (ws : List V) : Prop where
  at_ : H p = some (.lst ws)
  no : p ∉ ι.a
  nh : ∀ a b, ι.hd = some (a, b) → p ≠ a ∧ p ≠ b
theorem Free.ext {K : PySem.W.Frag} {p : Addr} {ws : List V} (f : Free p ι H ws) (e : Ext K ι H ι' H') : Free p ι' H' ws := by
  refine ⟨e.keep p _ f.at_ f.no fun q z => (f.nh p q z).1 rfl, fun z => ?_, fun a b z => ?_⟩
  · rcases e.new p z with y | y
    · exact f.no y
    · rw [f.at_] at y; cases y
  · cases h : ι.hd with
    | none =>
      obtain ⟨y1, y2⟩ := e.hdn h a b z
      exact ⟨fun q => (by subst q; rw [f.at_] at y1; cases y1), fun q => (by subst q; rw [f.at_] at y2; cases y2)⟩
    | some q =>
      have := e.hd q h
      rw [z] at this
      cases this
      exact f.nh a b h
theorem Ext.updFree {K : PySem.W.Frag} {p : Addr} {ws us : List V} (e : Ext K ι1 H1 ι H) (h1 : H1 p = none) (f : Free p ι H ws) : Ext K ι1 H1 ι (upd H p (.lst us)) := by
  refine ⟨e.pre, e.new, e.hd, e.hdn, e.sc, fun a o h n nh => ?_, fun a h => ?_, fun a xs h => tupAt_upd (e.tup a xs h) (by rw [f.at_]; simp)⟩
  · rw [upd_ne (ne_of_none h h1)]; exact e.keep a o h n nh
  · by_cases z : a = p
    · subst z; exact h1
    · rw [upd_ne z] at h; exact e.stay a h
theorem Ext0.updFree {K : PySem.W.Frag} {p : Addr} {ws us : List V} (f : Free p ι H ws) : Ext0 K ι H ι (upd H p (.lst us)) := ⟨fun h => h, fun _ h => h, rfl, fun a xs h => tupAt_upd h (by rw [f.at_]; simp)⟩
theorem Sim.updFree {p : Addr} {ws us : List V} (m : Sim D H ι s) (f : Free p ι H ws) : Sim D (upd H p (.lst us)) ι s := by
  refine ⟨m.len, m.nd, fun n o a h1 h2 => ?_, ?_, fun a h => ?_⟩
  · refine (m.obj n o a h1 h2).mono (Ext0.updFree f) (upd_ne fun z => ?_)
    subst z; exact f.no (List.mem_of_getElem? h2)
  · have := m.hand
    cases e : s.d with
    | none => rw [e] at this; exact this
    | some d =>
      rw [e] at this
      obtain ⟨a, b, e1, h1, h2, h3⟩ := this
      have z := f.nh a b e1
      exact ⟨a, b, e1, by rw [upd_ne (Ne.symm z.1)]; exact h1, by rw [upd_ne (Ne.symm z.2)]; exact h2, h3⟩
  · obtain ⟨h1, h2⟩ := m.scr a h
    refine ⟨h1, ?_⟩
    rcases h2 with h2 | ⟨⟨o, h2⟩, h3⟩
    · exact .inl h2
    · exact .inr ⟨⟨o, by rw [upd_ne (fun z => by subst z; rw [f.at_] at h2; cases h2)]; exact h2⟩, h3⟩
theorem RelEnv.wipe2 {env : Env} {σ : L2.St} {us vs : List Nat} (h : RelEnv D.K H ι env σ) (e : ∀ i, i ∈ vs → i ∈ us) : RelEnv D.K H ι (wipeE env us) (L2.wipe σ vs) := by
  refine ⟨by rw [wipeE_len, wipe_len, h.1], fun i v q => ?_⟩
  rw [wipeE_get] at q
  rw [wipe_get]
  by_cases z : i ∈ us
  · rw [if_pos z] at q
    split at q <;> cases q
  · rw [if_neg z] at q
    rw [if_neg fun y => z (e i y)]
    exact h.2 i v q
theorem drop_at {α : Type} {xs : List α} {i : Nat} (h : i < xs.length) : ∃ v, xs[i]? = some v ∧ xs.drop i = v :: xs.drop (i + 1) := ⟨xs[i], List.getElem?_eq_getElem h, List.drop_eq_getElem_cons h⟩
theorem lc_imp {t : Tg} {src : It} {c : Ox} {m : Ex} {own : List (Str × Nat)} (h1 : ∀ i, i ∈ t.slots → i ∈ own.map (·.2)) (h2 : ∀ i, i ∈ own.map (·.2) → i ∈ t.slots) {σ : L2.St} {H : Hp} {Q : VK} (h : tL D E (evL C (.comp t src c m)) σ H Q) :
    tLc (tI D E C src) (tgR D.K t) (tG D E0' relE (evC C c)) (tE D E0' C m) (own.map (·.2)) σ H Q := by
  obtain ⟨ι, env, s, hs, hn, hp⟩ := h
  have hp : post D E ι H (relL D H) Q ((evI C src env s).bind fun q s => if q.1.length ≤ LIM then
    turns (fun s => still s q.2) (fun v => t.bind v (wipeE env t.slots)) (fun env s => evC C c env s) (fun env s => ev C m env s) q.1 s else .bot) := hp
  refine ⟨ι, env, s, hs, hn, (post.bind (rel := relW D) hp).imp fun J H1 ⟨ι1, s1, q, e1, m1, wk, p1⟩ => ?_⟩
  obtain ⟨xs, g⟩ := q
  split at p1
  rotate_left
  · exact p1.elim
  rename_i hlen
  have hlen : xs.length ≤ LIM := hlen
  intro D' hD
  have fx := Ext.fresh (K := D.K) (ι := ι1) (o := .lst []) hD
  refine ⟨fun i m' H' => ∃ (ι' : Inj) (s' : S) (done : List Val) (acc : List V), Ext D.K ι1 H1 ι' H' ∧ Sim D H' ι' s' ∧ Free D' ι' H' acc ∧ Paired (RelVal D.K H' ι') done acc ∧ done.length ≤ i ∧ i ≤ xs.length ∧ m' = xs.length - i ∧
    post D E ι1 H1 (relL D H) Q ((turns (fun s => still s g) (fun v => t.bind v (wipeE env t.slots)) (fun env s => evC C c env s) (fun env s => ev C m env s) (xs.drop i) s').bind fun ys s3 => .ok (done ++ ys) s3), ?_, ?_⟩
  · refine ⟨xs.length, ι1, s1, [], [], fx, m1.fresh hD, ⟨upd_same, m1.notMem hD, m1.notHds hD⟩, .nil, Nat.le_refl _, Nat.zero_le _, by omega, ?_⟩
    rw [List.drop_zero]
    have p1 : post D E ι1 H1 (relL D H) Q (turns (fun s => still s g) (fun v => t.bind v (wipeE env t.slots)) (fun env s => evC C c env s) (fun env s => ev C m env s) xs s1) := p1
    cases z : turns (fun s => still s g) (fun v => t.bind v (wipeE env t.slots)) (fun env s => evC C c env s) (fun env s => ev C m env s) xs s1 with
    | bot => rw [z] at p1; exact p1
    | exc x s => rw [z] at p1; exact p1
    | ok ys s => rw [z] at p1; exact p1
  rintro i m' H' ⟨ι', s', done, acc, e', ms, fr, pd, l1, l2, rfl, pp⟩
  by_cases hlt : i < xs.length
  · right
    obtain ⟨v, hv, hd⟩ := drop_at hlt
    rw [hd] at pp
    simp only [turns] at pp
    split at pp
    rotate_left
    · exact pp.elim
    rename_i hst
    obtain ⟨hgo, hy⟩ := wk.go ι' H' s' i v e' ms hst hv
    refine ⟨hgo, _, fun H'' n => ⟨xs.length - (i + 1), by omega, n⟩, fun x H'' y => ?_⟩
    obtain ⟨e2, m2, r2, kp⟩ := hy x H'' y
    have fr2 := fr.ext e2
    have pd2 := RelVal.monos e2.to pd
    cases hb : t.bind v (wipeE env t.slots) with
    | none => rw [hb] at pp; exact pp.elim
    | some env2 =>
      rw [hb] at pp
      have pp : post D E ι1 H1 (relL D H) Q (((evC C c env2 s').quiet.bind fun k s1 => if k then (ev C m env2 s1).quiet.bind fun y s2 => (turns (fun s => still s g) (fun v => t.bind v (wipeE env t.slots)) (fun env s => evC C c env s) (fun env s => ev C m env s) (xs.drop (i + 1)) s2).bind fun ys s3 => .ok (y :: ys) s3
        else turns (fun s => still s g) (fun v => t.bind v (wipeE env t.slots)) (fun env s => evC C c env s) (fun env s => ev C m env s) (xs.drop (i + 1)) s1).bind fun ys s3 => .ok (done ++ ys) s3) := pp
      refine tgR_ok t ((((hn.mono e1).mono e').mono e2).wipe2 h2) r2 hb fun σ2 n2 sm => ⟨wipe_same sm h1, ?_⟩
      refine ⟨ι', env2, s', m2, n2, ?_⟩
      cases hc : evC C c env2 s' with
      | bot => rw [hc] at pp; exact pp.elim
      | exc x sx => rw [hc] at pp; exact pp.elim
      | ok k s3 =>
        rw [hc] at pp
        simp only [R.quiet_ok, R.bind_ok] at pp
        intro ι3 H3 b e3 m3 hk
        have hk : k = b := hk
        subst hk
        have fr3 := fr2.ext e3
        have pd3 := RelVal.monos e3.to pd2
        cases k with
        | false =>
          rw [if_neg (by simp)]
          rw [if_neg (by simp)] at pp
          exact ⟨ι3, s3, done, acc, (e'.trans e2).trans e3, m3, fr3, pd3, by omega, hlt, rfl, pp⟩
        | true =>
          rw [if_pos rfl]
          rw [if_pos rfl] at pp
          refine ⟨ι3, env2, s3, m3, n2.mono e3, ?_⟩
          cases hm : ev C m env2 s3 with
          | bot => rw [hm] at pp; exact pp.elim
          | exc x sx => rw [hm] at pp; exact pp.elim
          | ok y s4 =>
            rw [hm] at pp
            simp only [R.quiet_ok, R.bind_ok, bind_assoc] at pp
            intro ι4 H4 w e4 m4 r4
            have fr4 := fr3.ext e4
            have pd4 := RelVal.monos e4.to pd3
            have ql := Paired.length pd4
            refine ⟨acc, fr4.at_, by rw [lim_eq]; omega, ι4, s4, done ++ [y], acc ++ [w], (((e'.trans e2).trans e3).trans e4).updFree hD fr4, m4.updFree fr4, ⟨upd_same, fr4.no, fr4.nh⟩, ?_, by simp; omega, hlt, rfl, ?_⟩
            · exact RelVal.monos (Ext0.updFree fr4) (Pd.app pd4 (.cons r4 .nil))
            · have e0 : ∀ ys : List Val, done ++ [y] ++ ys = done ++ y :: ys := fun ys => by simp
              simp only [e0]
              exact pp
  · left
    have ei : i = xs.length := by omega
    subst ei
    rw [List.drop_length] at pp
    simp only [turns] at pp
    split at pp
    rotate_left
    · exact pp.elim
    rename_i hst
    simp only [R.bind_ok, List.append_nil] at pp
    refine ⟨wk.stop ι' H' s' e' ms hst, pp ι' H' _ e' ms ⟨D', acc, rfl, e1.stay D' hD, fr.at_, fr.no, fr.nh, by rw [lim_eq]; omega, pd⟩⟩
theorem sl_comp (O : XOk D X) {elt tg iter : Expr} {ifs : List Expr} {scope : Scope} {own : List (Str × Nat)} {pos : Pos} {t : Tg} {src : It} {c : Ox} {m : Ex}
    (hi : SI D E C X tg iter src) (ok : BlkOk X.N X.env.scope scope own)
    (hg : ∀ (s : Shared) (H : Hp) (C' : Addr) (cl : List (Str × Addr)) (fp : List Addr), PG (X.blk s H scope (compEnvC scope cl C' X.env) fp) tg (tgR D.K t))
    (ht : ∀ (s : Shared) (H : Hp) (C' : Addr) (cl : List (Str × Addr)) (fp : List Addr), PTs (X.blk s H scope (compEnvC scope cl C' X.env) fp) ifs (tG D E0' relE (evC C c)))
    (he : ∀ (s : Shared) (H : Hp) (C' : Addr) (cl : List (Str × Addr)) (fp : List Addr), PE (X.blk s H scope (compEnvC scope cl C' X.env) fp) elt (tE D E0' C m))
    (hs : pl iter = true) (h1 : ∀ i, i ∈ t.slots → i ∈ own.map (·.2)) (h2 : ∀ i, i ∈ own.map (·.2) → i ∈ t.slots) : SL D E C X (.ListComp elt [⟨tg, iter, ifs, 0⟩] scope pos) (.comp t src c m) := by
  exact pe_by (pe_lc O.calm O.nd hi ok hg ht he (folded_of hs)) fun σ H Q h => lc_imp h1 h2 h
/-! ### statements -/
def postX (D : Wd) (E : XK) (ι : Inj) (H : Hp) (N : Ends) : U.X → Prop
  | .next env s => ∀ (ι' : Inj) (H' : Hp) (σ : L2.St), Ext D.K ι H ι' H' → Sim D H' ι' s → RelEnv D.K H' ι' env σ → N.nx σ H'
  | .ret v s => ∀ (ι' : Inj) (H' : Hp) (w : V), Ext D.K ι H ι' H' → Sim D H' ι' s → RelVal D.K H' ι' v w → N.rt w H'
  | .brk env s => ∀ (ι' : Inj) (H' : Hp) (σ : L2.St), Ext D.K ι H ι' H' → Sim D H' ι' s → RelEnv D.K H' ι' env σ → N.bk σ H'
  | .cnt env s => ∀ (ι' : Inj) (H' : Hp) (σ : L2.St), Ext D.K ι H ι' H' → Sim D H' ι' s → RelEnv D.K H' ι' env σ → N.ct σ H'
  | .exc e s => ∀ (ι' : Inj) (H' : Hp) (c : Value) (d : Option Addr), Ext D.K ι H ι' H' → Sim D H' ι' s → RelExc D H' e c d → E c d H'
  | .bot => False
def tX (D : Wd) (E : XK) (f : Env → S → U.X) : L2.TS := fun N σ H => ∃ ι env s, Sim D H ι s ∧ RelEnv D.K H ι env σ ∧ postX D E ι H N (f env s)
abbrev SS (D : Wd) (E : XK) (C : Calls) (X : L2.Cx) (st : Stmt) (m : U.St) : Prop := PS X st (tX D E (ex C m))
abbrev SB (D : Wd) (E : XK) (C : Calls) (X : L2.Cx) (st : List Stmt) (m : Bk) : Prop := PSs X st (tX D E (exs C m))
theorem ps_by {st : Stmt} {t t' : L2.TS} (h : PS X st t) (i : ∀ N σ H, t' N σ H → t N σ H) : PS X st t' := ⟨fun pins s σ H N I q => h.run pins s σ H N I (i N σ H q)⟩
theorem pss_by {st : List Stmt} {t t' : L2.TS} (h : PSs X st t) (i : ∀ N σ H, t' N σ H → t N σ H) : PSs X st t' := ⟨fun pins s σ H N I q => h.run pins s σ H N I (i N σ H q)⟩
theorem postX.ext {N : Ends} {x : U.X} (h : postX D E ι H N x) (e : Ext D.K ι H ι' H') : postX D E ι' H' N x := by
  cases x with
  | next env s => exact fun ι2 H2 w e2 m r => h ι2 H2 w (e.trans e2) m r
  | ret v s => exact fun ι2 H2 w e2 m r => h ι2 H2 w (e.trans e2) m r
  | brk env s => exact fun ι2 H2 w e2 m r => h ι2 H2 w (e.trans e2) m r
  | cnt env s => exact fun ι2 H2 w e2 m r => h ι2 H2 w (e.trans e2) m r
  | exc x s => exact fun ι2 H2 c d e2 m r => h ι2 H2 c d (e.trans e2) m r
  | bot => exact h
theorem postX.then {α β : Type} {rel : Inj → Hp → α → β → Prop} {N : Ends} {x : U.R α} {f : α → S → U.X} (h : postX D E ι H N (x.then f)) :
    post D E ι H rel (fun w H1 => ∃ ι1 s1 a, Ext D.K ι H ι1 H1 ∧ Sim D H1 ι1 s1 ∧ rel ι1 H1 a w ∧ postX D E ι1 H1 N (f a s1)) x := by
  cases x with
  | ok v s => exact fun ι2 H2 w e2 m r => ⟨ι2, s, v, e2, m, r, postX.ext (show postX D E ι H N (f v s) from h) e2⟩
  | exc x s => exact h
  | bot => exact h
theorem sb_nil : SB D E C X [] .nil := pss_by pss_nil fun N σ H ⟨ι, env, s, hs, hn, hp⟩ => hp ι H σ Ext.refl hs hn
theorem sb_cons {st : Stmt} {sts : List Stmt} {m : U.St} {b : Bk} (h : SS D E C X st m) (h' : SB D E C X sts b) : SB D E C X (st :: sts) (.cons m b) := by
  refine pss_by (pss_cons h h') fun N σ H ⟨ι, env, s, hs, hn, hp⟩ => ⟨ι, env, s, hs, hn, ?_⟩
  have hp : postX D E ι H N (match ex C m env s with
    | .next env s => exs C b env s
    | x => x) := hp
  cases z : ex C m env s with
  | next env1 s1 =>
    rw [z] at hp
    intro ι' H' σ' e' m' n'
    exact ⟨ι', env1, s1, m', n', postX.ext hp e'⟩
  | ret v s1 => rw [z] at hp; exact hp
  | brk v s1 => rw [z] at hp; exact hp
  | cnt v s1 => rw [z] at hp; exact hp
  | exc v s1 => rw [z] at hp; exact hp
  | bot => rw [z] at hp; exact hp
theorem sb_doc {x : Str} {k : Nat} {p p' : Pos} {sts : List Stmt} {b : Bk} (h' : SB D E C X sts b) : SB D E C X (.Expr (.Constant (.str x) k p) p' :: sts) b := by
  refine pss_by (pss_cons ps_doc h') fun N σ H ⟨ι, env, s, hs, hn, hp⟩ => ⟨ι, env, s, hs, hn, hp⟩
theorem ss_ex {e : Expr} {m : Ex} {pos : Pos} (h : SE D E C X e m) (hc : noComp e = true) : SS D E C X (.Expr e pos) (.ex m) := by
  refine ps_by (ps_expr h (swap_of hc)) fun N σ H ⟨ι, env, s, hs, hn, hp⟩ => ?_
  refine ⟨ι, env, s, hs, hn, (postX.then (rel := relV D) hp).imp fun w H1 ⟨ι1, s1, v, e1, m1, r1, p1⟩ => ?_⟩
  exact p1 ι1 H1 σ Ext.refl m1 (hn.mono e1)
theorem ss_ret {e : Expr} {m : Ex} {pos : Pos} (h : SE D E C X e m) : SS D E C X (.Return (some e) pos) (.ret m) := by
  refine ps_by (ps_ret h) fun N σ H ⟨ι, env, s, hs, hn, hp⟩ => ?_
  refine ⟨ι, env, s, hs, hn, (postX.then (rel := relV D) hp).imp fun w H1 ⟨ι1, s1, v, e1, m1, r1, p1⟩ => ?_⟩
  exact p1 ι1 H1 w Ext.refl m1 r1
theorem ss_retN {pos : Pos} : SS D E C X (.Return none pos) .retN := ps_by ps_retN fun N σ H ⟨ι, env, s, hs, hn, hp⟩ => hp ι H .non Ext.refl hs (.p .non)
theorem ss_pass {pos : Pos} : SS D E C X (.Pass pos) .pass := ps_by ps_pass fun N σ H ⟨ι, env, s, hs, hn, hp⟩ => hp ι H σ Ext.refl hs hn
theorem ss_brk {pos : Pos} : SS D E C X (.Break pos) .brk := ps_by ps_break fun N σ H ⟨ι, env, s, hs, hn, hp⟩ => hp ι H σ Ext.refl hs hn
theorem ss_cnt {pos : Pos} : SS D E C X (.Continue pos) .cnt := ps_by ps_continue fun N σ H ⟨ι, env, s, hs, hn, hp⟩ => hp ι H σ Ext.refl hs hn
theorem ss_ite {c : Expr} {a b : List Stmt} {m : Ex} {x y : Bk} {pos : Pos} (h : ST D E C X c m) (h1 : SB D E C X a x) (h2 : SB D E C X b y) : SS D E C X (.If c a b pos) (.ite m x y) := by
  refine ps_by (ps_if h h1 h2) fun N σ H ⟨ι, env, s, hs, hn, hp⟩ => ?_
  refine ⟨ι, env, s, hs, hn, (postX.then (rel := relE) hp).imp fun w H1 ⟨ι1, s1, v, e1, m1, r1, p1⟩ => ?_⟩
  have r1 : v = w := r1
  subst r1
  cases v with
  | true => rw [if_pos rfl]; exact ⟨ι1, env, s1, m1, hn.mono e1, p1⟩
  | false => rw [if_neg (by simp)]; exact ⟨ι1, env, s1, m1, hn.mono e1, p1⟩
/-! a target of names is stored -/
def aT (t : Tg) : Val → Env → Option Env := fun v env => t.bind v env
theorem ss_asg {tg e : Expr} {t : Tg} {m : Ex} {pos : Pos} (h : SE D E C X e m) (hg : PG X tg (tgR D.K t)) (hs : swapsWithSole [tg] e pos.line X.env = pure false) (hw : swappedStores [tg] e X.env = pure none)
    (h1 : (assignEach [tg] X.env).map (·.2) = [assign tg X.env]) : SS D E C X (.Assign [tg] e pos) (.asg t m) := by
  refine ps_by (ps_asg h hg hs hw h1) fun N σ H ⟨ι, env, s, hs, hn, hp⟩ => ?_
  refine ⟨ι, env, s, hs, hn, (postX.then (rel := relV D) hp).imp fun w H1 ⟨ι1, s1, v, e1, m1, r1, p1⟩ => ?_⟩
  cases hb : t.bind v env with
  | none => rw [hb] at p1; exact p1.elim
  | some env2 =>
    rw [hb] at p1
    exact tgR_ok t (hn.mono e1) r1 hb fun σ' n' _ => p1 ι1 H1 σ' Ext.refl m1 n'
/-- y = [..] on one line, y a local -/
theorem ss_setLc (O : XOk D X) {k : Nat} {y : Str} {py spos : Pos} {elt tg iter : Expr} {ifs : List Expr} {scope : Scope} {own : List (Str × Nat)} {pos : Pos} {t : Tg} {src : It} {c : Ox} {m : Ex} (hy : X.N[k]? = some y) (hyl : X.env.scope.names.lookup y = some .local)
    (hsw : swapsWith (.ListComp elt [⟨tg, iter, ifs, 0⟩] scope pos) (some (.Name y py)) spos.line X.env = pure true)
    (hi : SI D E C X tg iter src) (ok : BlkOk X.N X.env.scope scope own)
    (hg : ∀ (s : Shared) (H : Hp) (C' : Addr) (cl : List (Str × Addr)) (fp : List Addr), PG (X.blk s H scope (compEnvC scope cl C' X.env) fp) tg (tgR D.K t))
    (ht : ∀ (s : Shared) (H : Hp) (C' : Addr) (cl : List (Str × Addr)) (fp : List Addr), PTs (X.blk s H scope (compEnvC scope cl C' X.env) fp) ifs (tG D E0' relE (evC C c)))
    (he : ∀ (s : Shared) (H : Hp) (C' : Addr) (cl : List (Str × Addr)) (fp : List Addr), PE (X.blk s H scope (compEnvC scope cl C' X.env) fp) elt (tE D E0' C m))
    (hs : pl iter = true) (h1 : ∀ i, i ∈ t.slots → i ∈ own.map (·.2)) (h2 : ∀ i, i ∈ own.map (·.2) → i ∈ t.slots) : SS D E C X (.Assign [.Name y py] (.ListComp elt [⟨tg, iter, ifs, 0⟩] scope pos) spos) (.asg (.var k) (.lst (.comp t src c m))) := by
  refine ps_by (ps_setLc O.calm O.nd hy hyl hsw hi ok hg ht he (folded_of hs)) fun N σ H ⟨ι, env, s, hs, hn, hp⟩ => ?_
  refine lc_imp h1 h2 ⟨ι, env, s, hs, hn, ?_⟩
  have hp : postX D E ι H N (((evL C (.comp t src c m) env s).bind fun vs s => new (.list vs) s).then fun v s => .next (env.set k (some v)) s) := hp
  cases z : evL C (.comp t src c m) env s with
  | bot => rw [z] at hp; exact hp
  | exc x s => rw [z] at hp; exact hp
  | ok vs s1 =>
    rw [z] at hp
    intro ι' H' w e' m' ⟨p, ws, ew, h0, h1, h2, h3, h4, h5⟩
    subst ew
    have hp : postX D E ι H N (.next (env.set k (some (.r s1.h.length))) { s1 with h := s1.h ++ [.list vs] }) := hp
    have ea := e'.add (p := p) h0
    refine hp (ι'.add p) H' _ ea (m'.add h2 h3 ⟨ws, h1, h4, RelVal.monos Ext0.add h5⟩) ((hn.mono ea).set (.r ?_))
    rw [← m'.len]; exact Inj.get_add
/-! while -/
theorem wl_mono {c : Env → S → U.R Bool} {b : Env → S → U.X} : ∀ (n : Nat) {k : Nat} {env : Env} {s : S} {x : U.X}, wl c b n env s = some x → n ≤ k → wl c b k env s = some x
  | 0, _, _, _, _, h, _ => by simp only [wl] at h; cases h
  | n + 1, 0, _, _, _, _, l => by omega
  | n + 1, k + 1, env, s, x, h, l => by
    simp only [wl] at h ⊢
    cases hc : c env s with
    | bot => rw [hc] at h; exact h
    | exc e s1 => rw [hc] at h; exact h
    | ok v s1 =>
      rw [hc] at h
      cases v with
      | false => exact h
      | true =>
        simp only at h ⊢
        cases z : b env s1 with
        | next env2 s2 => rw [z] at h; exact wl_mono n h (by omega)
        | cnt env2 s2 => rw [z] at h; exact wl_mono n h (by omega)
        | brk env2 s2 => rw [z] at h; exact h
        | ret v2 s2 => rw [z] at h; exact h
        | exc e2 s2 => rw [z] at h; exact h
        | bot => rw [z] at h; exact h
theorem loop_eq {c : Env → S → U.R Bool} {b : Env → S → U.X} {n : Nat} {env : Env} {s : S} {x : U.X} (h : wl c b n env s = some x) : loop c b env s = x := by
  have hx : ∃ n x, wl c b n env s = some x := ⟨n, x, h⟩
  unfold loop
  rw [dif_pos hx]
  have z := hx.choose_spec.choose_spec
  have a := wl_mono _ z (Nat.le_max_left _ n)
  have b := wl_mono _ h (Nat.le_max_right hx.choose n)
  rw [a] at b
  exact Option.some.inj b
theorem loop_bot {c : Env → S → U.R Bool} {b : Env → S → U.X} {env : Env} {s : S} (h : ¬ ∃ n x, wl c b n env s = some x) : loop c b env s = .bot := by
  unfold loop
  rw [dif_neg h]
/-- one turn of a while, by what comes behind it -/
def wstep (c : Env → S → U.R Bool) (b : Env → S → U.X) (k : Env → S → U.X) (env : Env) (s : S) : U.X := match c env s with
  | .bot => .bot
  | .exc e s => .exc e s
  | .ok false s => .next env s
  | .ok true s => match b env s with
    | .next env s => k env s
    | .cnt env s => k env s
    | .brk env s => .next env s
    | .ret v s => .ret v s
    | .exc e s => .exc e s
    | .bot => .bot
theorem loop_step (c : Env → S → U.R Bool) (b : Env → S → U.X) (env : Env) (s : S) : loop c b env s = wstep c b (loop c b) env s := by
  by_cases h : ∃ n x, wl c b n env s = some x
  · obtain ⟨n, x, h⟩ := h
    rw [loop_eq h]
    cases n with
    | zero => simp only [wl] at h; cases h
    | succ n =>
      simp only [wl] at h
      unfold wstep
      cases hc : c env s with
      | bot => rw [hc] at h; exact (Option.some.inj h).symm
      | exc e s => rw [hc] at h; exact (Option.some.inj h).symm
      | ok v s1 =>
        rw [hc] at h
        cases v with
        | false => exact (Option.some.inj h).symm
        | true =>
          simp only at h ⊢
          cases z : b env s1 with
          | next env s => rw [z] at h; exact (loop_eq h).symm
          | cnt env s => rw [z] at h; exact (loop_eq h).symm
          | brk env s => rw [z] at h; exact (Option.some.inj h).symm
          | ret v s => rw [z] at h; exact (Option.some.inj h).symm
          | exc e s => rw [z] at h; exact (Option.some.inj h).symm
          | bot => rw [z] at h; exact (Option.some.inj h).symm
  · rw [loop_bot h]
    unfold wstep
    cases hc : c env s with
    | bot => rfl
    | exc e s1 => exact absurd ⟨1, .exc e s1, by simp only [wl, hc]⟩ h
    | ok v s1 =>
      cases v with
      | false => exact absurd ⟨1, .next env s1, by simp only [wl, hc]⟩ h
      | true =>
        simp only
        cases z : b env s1 with
        | next env2 s2 =>
          simp only
          rw [loop_bot]
          rintro ⟨n, x, q⟩
          exact h ⟨n + 1, x, by simp only [wl, hc, z]; exact q⟩
        | cnt env2 s2 =>
          simp only
          rw [loop_bot]
          rintro ⟨n, x, q⟩
          exact h ⟨n + 1, x, by simp only [wl, hc, z]; exact q⟩
        | brk env2 s2 => exact absurd ⟨1, .next env2 s2, by simp only [wl, hc, z]⟩ h
        | ret v2 s2 => exact absurd ⟨1, .ret v2 s2, by simp only [wl, hc, z]⟩ h
        | exc e2 s2 => exact absurd ⟨1, .exc e2 s2, by simp only [wl, hc, z]⟩ h
        | bot => rfl
theorem ss_whl {c : Expr} {body : List Stmt} {m : Ex} {b : Bk} {pos : Pos} (hlp : C.lp = loop) (hp : PassesOwn (model X.prog X.w) X.A X.env X.xe) (h : ST D E C X c m) (h1 : SB D E C X body b) : SS D E C X (.While c body [] pos) (.whl m b) := by
  refine ps_by (ps_while hp h h1) fun N σ H ⟨ι, env, s, hs, hn, hp⟩ => ?_
  have hp : postX D E ι H N (C.lp (fun env s => evT C m env s) (fun env s => exs C b env s) env s) := hp
  rw [hlp] at hp
  by_cases hx : ∃ n x, wl (fun env s => evT C m env s) (fun env s => exs C b env s) n env s = some x
  rotate_left
  · unfold loop at hp
    rw [dif_neg hx] at hp
    exact hp.elim
  obtain ⟨n, x, hx⟩ := hx
  rw [loop_eq hx] at hp
  refine ⟨fun n σ' H' => ∃ ι' env' s', Ext D.K ι H ι' H' ∧ Sim D H' ι' s' ∧ RelEnv D.K H' ι' env' σ' ∧ wl (fun env s => evT C m env s) (fun env s => exs C b env s) n env' s' = some x, ⟨n, ι, env, s, Ext.refl, hs, hn, hx⟩, ?_⟩
  rintro k σ' H' ⟨ι', env', s', e', m', n', hw⟩
  refine ⟨ι', env', s', m', n', ?_⟩
  cases k with
  | zero => simp [wl] at hw
  | succ k =>
    simp only [wl] at hw
    cases hc : evT C m env' s' with
    | bot => rw [hc] at hw; cases hw; exact hp
    | exc e s1 => rw [hc] at hw; cases hw; exact fun ι2 H2 c d e2 m2 r2 => hp ι2 H2 c d (e'.trans e2) m2 r2
    | ok v s1 =>
      rw [hc] at hw
      intro ι2 H2 bb e2 m2 hv
      have hv : v = bb := hv
      subst hv
      cases v with
      | false =>
        rw [if_neg (by simp)]
        cases hw
        exact hp ι2 H2 σ' (e'.trans e2) m2 (n'.mono e2)
      | true =>
        rw [if_pos rfl]
        simp only at hw
        refine ⟨_, fun σ3 H3 z => ⟨k, Nat.lt_succ_self _, z⟩, ι2, env', s1, m2, n'.mono e2, ?_⟩
        cases hb : exs C b env' s1 with
        | next env3 s3 =>
          rw [hb] at hw
          exact fun ι3 H3 σ3 e3 m3 n3 => ⟨ι3, env3, s3, (e'.trans e2).trans e3, m3, n3, hw⟩
        | cnt env3 s3 =>
          rw [hb] at hw
          exact fun ι3 H3 σ3 e3 m3 n3 => ⟨ι3, env3, s3, (e'.trans e2).trans e3, m3, n3, hw⟩
        | brk env3 s3 =>
          rw [hb] at hw; cases hw
          exact fun ι3 H3 σ3 e3 m3 n3 => hp ι3 H3 σ3 ((e'.trans e2).trans e3) m3 n3
        | ret v s3 =>
          rw [hb] at hw; cases hw
          exact fun ι3 H3 w e3 m3 r3 => hp ι3 H3 w ((e'.trans e2).trans e3) m3 r3
        | exc x s3 =>
          rw [hb] at hw; cases hw
          exact fun ι3 H3 c d e3 m3 r3 => hp ι3 H3 c d ((e'.trans e2).trans e3) m3 r3
        | bot => rw [hb] at hw; cases hw; exact hp
theorem ss_for {tg iter : Expr} {body : List Stmt} {t : Tg} {i : It} {b : Bk} {pos : Pos} (O : XOk D X) (hp : PassesOwn (model X.prog X.w) X.A X.env X.xe) (hi : SI D E C X tg iter i) (hg : PG X tg (tgR D.K t)) (hb : SB D E C X body b) (hs : pl iter = true) :
    SS D E C X (.For tg iter body [] pos) (.for_ t i b) := by
  refine ps_by (ps_for hp O.calm hi hg hb (folded_of hs)) fun N σ H ⟨ι, env, s, hs, hn, hp⟩ => ?_
  have hp : postX D E ι H N ((evI C i env s).then fun q s => forL (fun s => still s q.2) (fun v env => t.bind v env) (fun env s => exs C b env s) q.1 env s) := hp
  refine ⟨ι, env, s, hs, hn, (postX.then (rel := relW D) hp).imp fun J H1 ⟨ι1, s1, q, e1, m1, wk, p1⟩ => ?_⟩
  obtain ⟨xs, g⟩ := q
  have p1 : postX D E ι1 H1 N (forL (fun s => still s g) (fun v env => t.bind v env) (fun env s => exs C b env s) xs env s1) := p1
  refine ⟨fun k m' σ' H' => ∃ (ι' : Inj) (env' : Env) (s' : S), Ext D.K ι1 H1 ι' H' ∧ Sim D H' ι' s' ∧ RelEnv D.K H' ι' env' σ' ∧ k ≤ xs.length ∧ m' = xs.length - k ∧
    postX D E ι1 H1 N (forL (fun s => still s g) (fun v env => t.bind v env) (fun env s => exs C b env s) (xs.drop k) env' s'), ⟨xs.length, ι1, env, s1, Ext.refl, m1, hn.mono e1, Nat.zero_le _, by omega, by rw [List.drop_zero]; exact p1⟩, ?_⟩
  rintro k m' σ' H' ⟨ι', env', s', e', ms, n', l1, rfl, pp⟩
  by_cases hlt : k < xs.length
  · right
    obtain ⟨v, hv, hd⟩ := drop_at hlt
    rw [hd] at pp
    simp only [forL] at pp
    split at pp
    rotate_left
    · exact pp.elim
    rename_i hst
    obtain ⟨hgo, hy⟩ := wk.go ι' H' s' k v e' ms hst hv
    refine ⟨hgo, _, fun σ2 H'' n => ⟨xs.length - (k + 1), by omega, n⟩, fun x H'' y => ?_⟩
    obtain ⟨e2, m2, r2, kp⟩ := hy x H'' y
    cases hbd : t.bind v env' with
    | none => rw [hbd] at pp; exact pp.elim
    | some env2 =>
      rw [hbd] at pp
      refine tgR_ok t (n'.mono e2) r2 hbd fun σ2 n2 _ => ?_
      refine ⟨ι', env2, s', m2, n2, ?_⟩
      simp only at pp
      cases hx : exs C b env2 s' with
      | next env3 s3 =>
        rw [hx] at pp
        exact fun ι3 H3 σ3 e3 m3 n3 => ⟨ι3, env3, s3, (e'.trans e2).trans e3, m3, n3, hlt, rfl, pp⟩
      | cnt env3 s3 =>
        rw [hx] at pp
        exact fun ι3 H3 σ3 e3 m3 n3 => ⟨ι3, env3, s3, (e'.trans e2).trans e3, m3, n3, hlt, rfl, pp⟩
      | brk env3 s3 =>
        rw [hx] at pp
        exact fun ι3 H3 σ3 e3 m3 n3 => pp ι3 H3 σ3 ((e'.trans e2).trans e3) m3 n3
      | ret v s3 =>
        rw [hx] at pp
        exact fun ι3 H3 w e3 m3 r3 => pp ι3 H3 w ((e'.trans e2).trans e3) m3 r3
      | exc x s3 =>
        rw [hx] at pp
        exact fun ι3 H3 c d e3 m3 r3 => pp ι3 H3 c d ((e'.trans e2).trans e3) m3 r3
      | bot => rw [hx] at pp; exact pp
  · left
    have ei : k = xs.length := by omega
    subst ei
    rw [List.drop_length] at pp
    simp only [forL] at pp
    split at pp
    rotate_left
    · exact pp.elim
    rename_i hst
    exact ⟨wk.stop ι' H' s' e' ms hst, pp ι' H' σ' e' ms n'⟩
end
end U
/-! Mp2x: dict(a tuple of pairs); what sorted gives. -/
namespace U
open PySem L2 PySem.Spec PyProof.Rows
section
variable {X : L2.Cx}
theorem pairsT {pins : List (Addr × PySem.Obj)} {σ : L2.St} {H : Hp} {s : Shared} (I : Inv X pins σ H s) : ∀ {ps : List Addr} {kvs : List (Key × V)}, Paired (fun p kv => SqT X.K H p [kV kv.1, kv.2]) ps kvs →
    ∃ (prs : List (Key × Value)) (vps : List (Value × Value)), KV kvs prs ∧ prs.length = ps.length ∧ vps.length = ps.length ∧
      ∀ (j : Nat) (u v : Value), vps[j]? = some (u, v) → ∃ b k, ps[j]? = some b ∧ prs[j]? = some (k, v) ∧ IsTup s.heap b #[u, v] ∧ keyIs k u = true
  | _, _, .nil => ⟨[], [], .nil, rfl, rfl, fun j u v e => by simp at e⟩
  | _, _, .cons (a := p) (b := kv) h t => by
    obtain ⟨prs, vps, r, hl, hl2, hp⟩ := pairsT I t
    obtain ⟨its, rv, ht, _⟩ := I.tuple h
    obtain ⟨u, y, ei, ru, ry⟩ := vals2 rv
    subst ei
    refine ⟨(kv.1, y) :: prs, (u, y) :: vps, .cons ⟨rfl, ry⟩ r, by rw [List.length_cons, List.length_cons, hl], by rw [List.length_cons, List.length_cons, hl2], fun j q v e => ?_⟩
    cases j with
    | zero =>
      have e' : (u, y) = (q, v) := Option.some.inj e
      injection e' with e1 e2
      subst e1 e2
      exact ⟨p, kv.1, rfl, rfl, ht, kV_is (P := X.prog) (w := X.w) ru⟩
    | succ j =>
      obtain ⟨b, k, e1, e2, e3, e4⟩ := hp j q v (by simpa using e)
      exact ⟨b, k, by simpa using e1, by simpa using e2, e3, e4⟩
/-- dict(t), t a tuple of pairs -/
theorem call_dictT (hcalm : X.calm = true) : CallR X (.type "dict") (fun xs H Q => ∃ (a : Addr) (ps : List Addr) (kvs : List (Key × V)), xs = [.ref a] ∧ TupAt H a (ps.map V.ref) ∧ Paired (fun p kv => SqT X.K H p [kV kv.1, kv.2]) ps kvs ∧
    ∀ p, H p = none → Q (.ref p) (upd H p (.dK (mergeK [] kvs)))) := by
  intro pins s σ H xs us Q I r q
  obtain ⟨a, ps, kvs, ex, ⟨o, hq, hc, hd, _⟩, hp, q⟩ := q
  subst ex
  obtain ⟨u, eu, rx⟩ := vals1 r
  subst eu
  cases rx
  have oo : ObjOk X.prog X.w H s.heap a (.frz o (.tup (ps.map V.ref))) := I.hok a _ hq
  obtain ⟨ho, hz, its, rv, o', ho', hc', n, hdat⟩ := oo
  rw [ho] at ho'
  cases ho'
  have ei := refs_at rv
  subst ei
  rw [List.length_map] at hz
  obtain ⟨prs, vps, rel, hl, hl2, hpr⟩ := pairsT I hp
  refine PySem.call_dict_pairs (knd := mixKind X.prog X.w) (kvs := prs) (PySem.PairArg.tuple a (ps.map Value.ref).toArray (fun j => ps.getD j 0) vps) (I.ok.hd hcalm) ⟨⟨o, n, ho, hc, hd, hdat⟩, ⟨by simp [hl2], fun j k v e => ?_⟩⟩ ⟨by rw [hl, hl2], fun j k v e => ?_⟩ (by rw [hl2]; exact hz) fun h' tk hd' k => ?_
  · obtain ⟨b, kk, e1, e2, e3, e4⟩ := hpr j k v e
    have e5 : ps.getD j 0 = b := by rw [List.getD_eq_getElem?_getD, e1]; rfl
    show (ps.map Value.ref).toArray[j]? = some (.ref (ps.getD j 0)) ∧ PySem.PairAt s.heap (ps.getD j 0) k v
    rw [e5]
    exact ⟨by simp [e1], .inl e3⟩
  · obtain ⟨b, kk, e1, e2, e3, e4⟩ := hpr j k v e
    exact ⟨kk, e2, e4⟩
  · have hm : (s.heap.objs.size == sysModules) = false := beq_eq_false_iff_ne.mpr (Nat.ne_of_gt I.big)
    have hlen : (mergeK [] kvs).length ≤ sizeLine := by
      refine Nat.le_trans (length_mergeK kvs []) ?_
      rw [List.length_nil, Nat.zero_add, rel.length, hl]
      exact hz
    exact ⟨.ref s.heap.objs.size, upd H s.heap.objs.size (.dK (mergeK [] kvs)), I.laid (t' := tk) (fun b o e => k b o (by simp) e) (Nat.le_refl _) (show ObjOk X.prog X.w _ _ _ (.dK (mergeK [] kvs)) from ⟨hlen, hm, merged [] prs, KV.merge rel .nil, hd'⟩), rfl, q _ (I.hok.fresh (Nat.le_refl _))⟩
end
/-! ### sorted -/
theorem leS_tr (a b c : List Nat) (h : leS a b = true) (h' : leS b c = true) : leS a c = true := decide_eq_true (List.le_trans (of_decide_eq_true h) (of_decide_eq_true h'))
theorem leS_tot (a b : List Nat) : (leS a b || leS b a) = true := by
  rcases List.le_total a b with h | h
  · rw [leS, decide_eq_true h]; rfl
  · rw [leS, leS, decide_eq_true h, Bool.or_true]
theorem leS_anti {a b : List Nat} (h : leS a b = true) (h' : leS b a = true) : a = b := List.le_antisymm (of_decide_eq_true h) (of_decide_eq_true h')
theorem leS_cps {a b : List Nat} : (!ltCps b a) = leS a b := by
  rw [ltCps_eq, leS]
  by_cases h : b < a
  · rw [decide_eq_true h, decide_eq_false (fun q : a ≤ b => q h)]; rfl
  · rw [decide_eq_false h, decide_eq_true (show a ≤ b from h)]; rfl
theorem rising_pw : ∀ (xs : List Str) (p : Str), risingS p xs = true → (p :: xs).Pairwise fun x y => leS x.cps.toList y.cps.toList = true
  | [], p, _ => by simp
  | x :: r, p, h => by
    simp only [risingS, Bool.and_eq_true] at h
    have ih := rising_pw r x h.2
    have h1 : leS p.cps.toList x.cps.toList = true := by rw [← leS_cps]; exact h.1
    refine List.pairwise_cons.mpr ⟨fun y hy => ?_, ih⟩
    rcases List.mem_cons.mp hy with e | hy
    · rw [e]; exact h1
    · exact leS_tr _ _ _ h1 ((List.pairwise_cons.mp ih).1 y hy)
theorem sorted_pw {xs : List Str} (h : sortedS xs = true) : xs.Pairwise fun x y => leS x.cps.toList y.cps.toList = true := by
  cases xs with
  | nil => exact .nil
  | cons x r => exact rising_pw r x h
/-- the texts sorted are the ones the interpreter gives -/
theorem sorted_strs_eq {ys : List Str} {ss : List (List Nat)} (hp : ys.Perm (ss.map fun l => (⟨l.toArray⟩ : Str))) (hs : sortedS ys = true) : ys = (ss.mergeSort leS).map fun l => (⟨l.toArray⟩ : Str) := by
  have e : ys.map (fun x => x.cps.toList) = ss.mergeSort leS := by
    refine List.Perm.eq_of_pairwise (le := fun a b => leS a b = true) (fun a b _ _ h h' => leS_anti h h') ?_ (List.pairwise_mergeSort leS_tr leS_tot ss) ?_
    · exact List.pairwise_map.mpr (sorted_pw hs)
    · refine (hp.map _).trans ?_
      rw [List.map_map]
      have : ((fun x : Str => x.cps.toList) ∘ fun l : List Nat => (⟨l.toArray⟩ : Str)) = id := by funext l; simp
      rw [this, List.map_id]
      exact (List.mergeSort_perm ss leS).symm
  rw [← e, List.map_map]
  have : ((fun l : List Nat => (⟨l.toArray⟩ : Str)) ∘ fun x : Str => x.cps.toList) = id := by funext l; simp
  rw [this, List.map_id]
theorem sorted_ints_eq {ys ns : List Int} (hp : ys.Perm ns) (hs : ys.Pairwise (· ≤ ·)) : ys = ns.mergeSort fun a b => decide (a ≤ b) := by
  refine List.Perm.eq_of_pairwise (le := fun a b => a ≤ b) (fun a b _ _ h h' => Int.le_antisymm h h') hs ?_ (hp.trans (List.mergeSort_perm ns _).symm)
  have := List.pairwise_mergeSort (le := fun a b : Int => decide (a ≤ b)) (fun a b c h h' => decide_eq_true (Int.le_trans (of_decide_eq_true h) (of_decide_eq_true h'))) (fun a b => by
    rcases Int.le_total a b with h | h
    · simp [h]
    · simp [h]) ns
  exact this.imp fun h => of_decide_eq_true h
end U
/-! Mp2g: built-in functions of values and of lists made here; isinstance. -/
namespace U
open PySem L2
section
variable {D : Wd} {E : XK} {X : L2.Cx} {C : Calls} {ι : Inj} {H : Hp} {s : S} {Q : VK}
/-- a built-in's call, as the interpreter has it -/
def CallS (D : Wd) (E : XK) (X : L2.Cx) (f : Value) (g : List Val → S → R Val) : Prop := CallR X f fun ws H Q =>
  ∃ ι s vs, Sim D H ι s ∧ Paired (RelVal D.K H ι) vs ws ∧ post D E ι H (relV D) Q (g vs s)
def biVal : Bi → Value
  | .len => .builtin "len"
  | .abs => .builtin "abs"
  | .int => .type "int"
  | .str => .type "str"
  | .tuple => .type "tuple"
  | .list => .type "list"
  | .dict => .type "dict"
  | .sorted => .builtin "sorted"
  | .ord => .builtin "ord"
  | .max2 => .builtin "max"
  | .min2 => .builtin "min"
theorem pd1 {K : PySem.W.Frag} {v : Val} {ws : List V} (h : Paired (RelVal K H ι) [v] ws) : ∃ w, ws = [w] ∧ RelVal K H ι v w := by
  obtain ⟨w, r, e, a, b⟩ := Pd.consL h
  cases Pd.nilL b
  exact ⟨w, e, a⟩
theorem pd2 {K : PySem.W.Frag} {v u : Val} {ws : List V} (h : Paired (RelVal K H ι) [v, u] ws) : ∃ w x, ws = [w, x] ∧ RelVal K H ι v w ∧ RelVal K H ι u x := by
  obtain ⟨w, r, e, a, b⟩ := Pd.consL h
  obtain ⟨x, e', c⟩ := pd1 b
  exact ⟨w, x, by rw [e, e'], a, c⟩
/-! ### len -/
inductive LenW (D : Wd) (H : Hp) (w : V) (n : Nat) : Prop
  | v (h : LenV D.K w H n)
  | d (a : Addr) (kvs : List (Key × V)) (e : w = .ref a) (h : H a = some (.dK kvs)) (l : n = kvs.length)
theorem len_way {x : Val} {w : V} {n : Nat} (m : Sim D H ι s) (r : RelVal D.K H ι x w) (h : lenV x s = some n) : LenW D H w n := by
  match x, r, h with
  | .p (.tup xs), r, h =>
    obtain ⟨a, ws, e, t, l, p⟩ := rv_tup r
    cases h
    subst e
    exact .v (.inr ⟨ws, t.sq, Paired.length p⟩)
  | .p (.str xs), r, h =>
    obtain ⟨e, l⟩ := rv_str r
    cases h
    subst e
    exact .v ⟨by simpa [Str.length] using l.1, by simp [Str.length]⟩
  | .t xs, r, h =>
    obtain ⟨a, ws, e, t, l, p⟩ := rv_t r
    cases h
    subst e
    exact .v (.inr ⟨ws, t.sq, Paired.length p⟩)
  | .r k, r, h =>
    obtain ⟨a, e, ha⟩ := rv_r r
    subst e
    cases ho : s.h[k]? with
    | none => simp [lenV, ho] at h
    | some o =>
      cases o with
      | inst c fs => simp [lenV, ho] at h
      | list xs =>
        obtain ⟨ws, w1, w2, w3⟩ := m.list ha ho
        simp only [lenV, ho] at h
        cases h
        exact .v (.inl ⟨ws, SqL.of w1, Paired.length w3⟩)
      | dict kvs =>
        obtain ⟨ws, w1, w2, w3⟩ := m.dict ha ho
        simp only [lenV, ho] at h
        cases h
        exact .d a ws rfl w1 (Paired.length w3)
  | .p .non, _, h => simp [lenV] at h
  | .p (.bool _), _, h => simp [lenV] at h
  | .p (.int _), _, h => simp [lenV] at h
  | .hd, _, h => simp [lenV] at h
  | .sc, _, h => simp [lenV] at h
theorem cs_len (O : XOk D X) : CallS D E X (.builtin "len") (biV .len) := by
  refine callr_imp (call_len.or call_lenD) fun ws H Q ⟨ι, s, vs, m, r, h⟩ => ?_
  match vs, r, h with
  | [x], r, h =>
    obtain ⟨w, ew, r1⟩ := pd1 r
    subst ew
    replace r := r1
    have h : post D E ι H (relV D) Q (match lenV x s with
      | some n => .ok (.p (.int n)) s
      | none => .bot) := h
    cases e : lenV x s with
    | none => rw [e] at h; exact h.elim
    | some n =>
    rw [e] at h
    rw [O.hK]
    cases len_way m r e with
    | v z => exact .inl ⟨w, n, rfl, z, h.now m (.p (.int _))⟩
    | d a kvs e' z l =>
      subst l
      exact .inr ⟨a, kvs, by rw [e'], z, h.now m (.p (.int _))⟩
  | [], _, h => exact h.elim
  | _ :: _ :: _, _, h => exact h.elim
theorem cs_abs : CallS D E X (.builtin "abs") (biV .abs) := by
  refine callr_imp call_abs fun ws H Q ⟨ι, s, vs, m, r, h⟩ => ?_
  unfold biV at h
  split at h <;> first | (cases ‹Bi.abs = _›; done) | skip
  · obtain ⟨w, ew, r1⟩ := pd1 r
    subst ew
    replace r := r1
    exact ⟨_, by rw [rv_int r], h.now m (.p (.int _))⟩
  all_goals exact h.elim
theorem cs_int : CallS D E X (.type "int") (biV .int) := by
  refine callr_imp call_int1 fun ws H Q ⟨ι, s, vs, m, r, h⟩ => ?_
  unfold biV at h
  split at h <;> first | (cases ‹Bi.int = _›; done) | skip
  · obtain ⟨w, ew, r1⟩ := pd1 r
    subst ew
    replace r := r1
    exact .inl ⟨_, by rw [rv_int r], h.now m (.p (.int _))⟩
  · obtain ⟨w, ew, r1⟩ := pd1 r
    subst ew
    replace r := r1
    exact .inr ⟨_, by rw [rv_bool r], h.now m (.p (.int _))⟩
  all_goals exact h.elim
theorem cs_ord : CallS D E X (.builtin "ord") (biV .ord) := by
  refine callr_imp call_ord fun ws H Q ⟨ι, s, vs, m, r, h⟩ => ?_
  unfold biV at h
  split at h <;> first | (cases ‹Bi.ord = _›; done) | skip
  · obtain ⟨w, ew, r1⟩ := pd1 r
    subst ew
    replace r := r1
    obtain ⟨e, l⟩ := rv_str r
    exact ⟨_, by rw [e], rfl, h.now m (.p (.int _))⟩
  all_goals exact h.elim
theorem cs_max (O : XOk D X) : CallS D E X (.builtin "max") (biV .max2) := by
  refine callr_imp (call_max2 O.calm) fun ws H Q ⟨ι, s, vs, m, r, h⟩ => ?_
  unfold biV at h
  split at h <;> first | (cases ‹Bi.max2 = _›; done) | skip
  · obtain ⟨w, x, ew, r1, r'⟩ := pd2 r
    subst ew
    replace r := r1
    exact ⟨_, _, by rw [rv_int r, rv_int r'], h.now m (.p (.int _))⟩
  all_goals exact h.elim
theorem cs_min (O : XOk D X) : CallS D E X (.builtin "min") (biV .min2) := by
  refine callr_imp (call_min2 O.calm) fun ws H Q ⟨ι, s, vs, m, r, h⟩ => ?_
  unfold biV at h
  split at h <;> first | (cases ‹Bi.min2 = _›; done) | skip
  · obtain ⟨w, x, ew, r1, r'⟩ := pd2 r
    subst ew
    replace r := r1
    exact ⟨_, _, by rw [rv_int r, rv_int r'], h.now m (.p (.int _))⟩
  all_goals exact h.elim
theorem cs_tuple (O : XOk D X) : CallS D E X (.type "tuple") (biV .tuple) := by
  refine callr_imp call_tupF fun ws H Q ⟨ι, s, vs, m, r, h⟩ => ?_
  rw [O.hK]
  unfold biV at h
  split at h <;> first | (cases ‹Bi.tuple = _›; done) | skip
  · obtain ⟨w, ew, r1⟩ := pd1 r
    subst ew
    replace r := r1
    obtain ⟨a, us, e, t, l, p⟩ := rv_tup r
    exact ⟨a, us, by rw [e], .inr ⟨t.sq, h.now m (.p (.tup t l p))⟩⟩
  · obtain ⟨w, ew, r1⟩ := pd1 r
    subst ew
    replace r := r1
    obtain ⟨a, e, ha⟩ := rv_r r
    split at h
    · rename_i ho
      obtain ⟨us, w1, w2, w3⟩ := m.list ha ho
      exact ⟨a, us, by rw [e], .inl ⟨SqL.of w1, fun l H' hl n => h.mkT m hl n w2 w3⟩⟩
    · exact h.elim
  all_goals exact h.elim
/-! ### list -/
theorem vals_at : ∀ {xs : List V} {us : List Value}, xs.length = us.length → (∀ (j : Nat) x u, xs[j]? = some x → us[j]? = some u → RelV x u) → Vals xs us
  | [], [], _, _ => .nil
  | x :: xs, u :: us, l, h => .cons (h 0 x u rfl rfl) (vals_at (by simpa using l) fun j a b e1 e2 => h (j + 1) a b (by simpa using e1) (by simpa using e2))
  | [], _ :: _, l, _ => by simp at l
  | _ :: _, [], l, _ => by simp at l
theorem call_list_str (hc : X.calm = true) : CallR X (.type "list") (fun xs H Q => ∃ z, xs = [.str z] ∧ z.length ≤ sizeLine ∧ ∀ l, H l = none → Q (.ref l) (upd H l (.lst (z.cps.toList.map fun c => V.str ⟨#[c]⟩)))) := by
  intro pins s σ H xs us Q I r h
  obtain ⟨z, rfl, hz, q⟩ := h
  obtain ⟨u, rfl, t, rfl⟩ := vals1 r
  refine PySem.call_list_str (I.ok.hd hc) z t (fun h' tk acc' c' kp e it => ?_) hz
  have hv : Vals (z.cps.toList.map fun c => V.str ⟨#[c]⟩) acc'.toList := by
    obtain ⟨i1, i2⟩ := it
    refine vals_at (by simp [i1]) fun j x y e1 e2 => ?_
    rw [List.getElem?_map] at e1
    obtain ⟨c, q1, rfl⟩ := Option.map_eq_some_iff.mp e1
    obtain ⟨c', u, q2, rfl⟩ := i2 j y (by rw [← Array.getElem?_toList]; exact e2)
    rw [← Array.getElem?_toList, q1] at q2
    cases q2
    exact ⟨u, rfl⟩
  exact ⟨.ref s.heap.objs.size, _, I.laid (t' := tk) kp (Nat.le_refl _) (show ObjOk X.prog X.w _ h' _ (.lst _) from ⟨by simpa [Str.length] using hz, acc'.toList, c', hv, by simpa using e⟩), rfl, q _ (I.hok.fresh (Nat.le_refl _))⟩
theorem cs_list (O : XOk D X) : CallS D E X (.type "list") (biV .list) := by
  refine callr_imp ((call_list_of.or (call_listD O.calm)).or (call_list_str O.calm)) fun ws H Q ⟨ι, s, vs, m, r, h⟩ => ?_
  rw [O.hK]
  match vs, r, h with
  | [x], r, h =>
    obtain ⟨w, ew, r1⟩ := pd1 r
    subst ew
    replace r := r1
    have h : post D E ι H (relV D) Q (match itemsOf x s with
      | some xs => new (.list xs) s
      | none => .bot) := h
    match x, r, h with
    | .p (.tup xs), r, h =>
      obtain ⟨a, us, e, t, l, p⟩ := rv_tup r
      exact .inl (.inl ⟨a, us, by rw [e], .inr t.sq, fun l' hl => post.mkList h m hl (by simpa using l) (pv_vals p)⟩)
    | .t xs, r, h =>
      obtain ⟨a, us, e, t, l, p⟩ := rv_t r
      exact .inl (.inl ⟨a, us, by rw [e], .inr t.sq, fun l' hl => post.mkList h m hl l p⟩)
    | .p (.str xs), r, h =>
      obtain ⟨e, l⟩ := rv_str r
      refine .inr ⟨_, by rw [e], by simpa [Str.length] using l.1, fun l' hl => ?_⟩
      refine post.mkList h m hl (by simpa using l.1) (Pd.map (H := fun c d => c = d ∧ c ∈ xs) (fun c d q => ?_) ?_)
      · obtain ⟨rfl, q⟩ := q
        exact .p (.str [c] ⟨by rw [lim_eq]; show 1 ≤ LIM; decide, fun d hd => by
          have : d = c := by simpa using hd
          subst this; exact l.2 d q⟩)
      · show Paired _ xs xs.toArray.toList
        rw [List.toList_toArray]
        have : ∀ (ys : List Nat), (∀ c ∈ ys, c ∈ xs) → Paired (fun c d => c = d ∧ c ∈ xs) ys ys := by
          intro ys
          induction ys with
          | nil => intro _; exact .nil
          | cons y ys ih => intro hy; exact .cons ⟨rfl, hy y List.mem_cons_self⟩ (ih fun c hc => hy c (List.mem_cons_of_mem _ hc))
        exact this xs fun c hc => hc
    | .r k, r, h =>
      obtain ⟨a, e, ha⟩ := rv_r r
      simp only [itemsOf] at h
      cases ho : s.h[k]? with
      | none => rw [ho] at h; exact h.elim
      | some o =>
        rw [ho] at h
        cases o with
        | inst c fs => exact h.elim
        | list xs =>
          obtain ⟨us, w1, w2, w3⟩ := m.list ha ho
          exact .inl (.inl ⟨a, us, by rw [e], .inl (SqL.of w1), fun l' hl => post.mkList h m hl w2 w3⟩)
        | dict kvs =>
          obtain ⟨us, w1, w2, w3⟩ := m.dict ha ho
          refine .inl (.inr ⟨a, us, by rw [e], .of w1, fun l' hl => post.mkList h m hl (by simpa using w2) ?_⟩)
          exact Pd.map (H := fun p q => KeyIs p.1 q.1 ∧ RelVal D.K H ι p.2 q.2) (fun c d q => .p (key_rel q.1)) w3
    | .p .non, _, h => exact h.elim
    | .p (.bool _), _, h => exact h.elim
    | .p (.int _), _, h => exact h.elim
    | .hd, _, h => exact h.elim
    | .sc, _, h => exact h.elim
  | [], _, h => exact h.elim
  | _ :: _ :: _, _, h => exact h.elim
/-! ### dict -/
/-- a put, as the heap has it -/
theorem rel_put {K : PySem.W.Frag} {k : PV} {q : Key} {v : Val} {w : V} (hk : KeyIs k q) (hv : RelVal K H ι v w) {kvs : List (PV × Val)} {ws : List (Key × V)} (h : RelKV K H ι kvs ws) : RelKV K H ι (dput k v kvs) (putK ws q w) := by
  have e : (kvs.any fun p => p.1.beq k) = ws.any fun p => decide (p.1 = q) := by
    clear hv
    induction h with
    | nil => rfl
    | cons a b ih => rw [List.any_cons, List.any_cons, beq_key a.1.1 hk.1, ih]
  unfold dput putK
  rw [e]
  split
  · clear e
    rename_i z
    clear z
    induction h with
    | nil => exact .nil
    | cons a b ih =>
      rename_i p0 q0 _ _
      rw [List.map_cons, List.map_cons]
      refine .cons ?_ ih
      rw [beq_key a.1.1 hk.1]
      by_cases c : q0.1 = q
      · rw [decide_eq_true c, if_pos rfl, if_pos c]; exact ⟨a.1, hv⟩
      · rw [decide_eq_false c, if_neg Bool.false_ne_true, if_neg c]; exact a
  · exact Pd.app h (.cons ⟨hk, hv⟩ .nil)
theorem dput_len (k : PV) (v : Val) (kvs : List (PV × Val)) : (dput k v kvs).length ≤ kvs.length + 1 := by
  unfold dput
  split <;> simp
theorem mergeD_len : ∀ (vs : List Val) (acc kvs : List (PV × Val)), mergeD vs acc = some kvs → kvs.length ≤ acc.length + vs.length
  | [], acc, kvs, h => by cases h; simp
  | .p (.tup [k, v]) :: r, acc, kvs, h => by
    simp only [mergeD] at h
    split at h
    · have := mergeD_len r _ _ h
      have := dput_len k (.p v) acc
      simp; omega
    · cases h
  | .t [.p k, v] :: r, acc, kvs, h => by
    simp only [mergeD] at h
    split at h
    · have := mergeD_len r _ _ h
      have := dput_len k v acc
      simp; omega
    · cases h
  | .p .non :: _, _, _, h => by simp [mergeD] at h
  | .p (.bool _) :: _, _, _, h => by simp [mergeD] at h
  | .p (.int _) :: _, _, _, h => by simp [mergeD] at h
  | .p (.str _) :: _, _, _, h => by simp [mergeD] at h
  | .p (.tup []) :: _, _, _, h => by simp [mergeD] at h
  | .p (.tup [_]) :: _, _, _, h => by simp [mergeD] at h
  | .p (.tup (_ :: _ :: _ :: _)) :: _, _, _, h => by simp [mergeD] at h
  | .t [] :: _, _, _, h => by simp [mergeD] at h
  | .t [.p _] :: _, _, _, h => by simp [mergeD] at h
  | .t [.r _] :: _, _, _, h => by simp [mergeD] at h
  | .t [.t _] :: _, _, _, h => by simp [mergeD] at h
  | .t [.hd] :: _, _, _, h => by simp [mergeD] at h
  | .t [.sc] :: _, _, _, h => by simp [mergeD] at h
  | .t (.p _ :: _ :: _ :: _) :: _, _, _, h => by simp [mergeD] at h
  | .t (.r _ :: _ :: _) :: _, _, _, h => by simp [mergeD] at h
  | .t (.t _ :: _ :: _) :: _, _, _, h => by simp [mergeD] at h
  | .t (.hd :: _ :: _) :: _, _, _, h => by simp [mergeD] at h
  | .t (.sc :: _ :: _) :: _, _, _, h => by simp [mergeD] at h
  | .r _ :: _, _, _, h => by simp [mergeD] at h
  | .hd :: _, _, _, h => by simp [mergeD] at h
  | .sc :: _, _, _, h => by simp [mergeD] at h
/-- a pair's parts -/
theorem pair_way {v : Val} {w : V} {acc kvs : List (PV × Val)} {r : List Val} (rv : RelVal D.K H ι v w) (h : mergeD (v :: r) acc = some kvs) :
    ∃ k u a q x, w = .ref a ∧ SqT D.K H a [kV q, x] ∧ KeyIs k q ∧ RelVal D.K H ι u x ∧ mergeD r (dput k u acc) = some kvs := by
  unfold mergeD at h
  split at h
  · rename_i e; cases e
  · rename_i e
    cases e
    split at h
    · rename_i hk
      obtain ⟨a, ws, ew, t, l, p⟩ := rv_tup rv
      obtain ⟨x, ws', e1, r1, p⟩ := Pd.consL p
      obtain ⟨y, ws'', e2, r2, p⟩ := Pd.consL p
      cases Pd.nilL p
      subst e2 e1
      obtain ⟨q, k1, k2⟩ := key_is r1 hk
      subst k2
      exact ⟨_, _, a, q, y, ew, t.sq, k1, .p r2, h⟩
    · cases h
  · rename_i e
    cases e
    split at h
    · rename_i hk
      obtain ⟨a, ws, ew, t, l, p⟩ := rv_t rv
      obtain ⟨x, ws', e1, r1, p⟩ := Pd.consL p
      obtain ⟨y, ws'', e2, r2, p⟩ := Pd.consL p
      cases Pd.nilL p
      subst e2 e1
      obtain ⟨q, k1, k2⟩ := key_is (rv_p r1) hk
      subst k2
      exact ⟨_, _, a, q, y, ew, t.sq, k1, r2, h⟩
    · cases h
  · cases h
theorem merge_way : ∀ {vs : List Val} {ws : List V} {acc kvs : List (PV × Val)} {wa : List (Key × V)}, Paired (RelVal D.K H ι) vs ws → RelKV D.K H ι acc wa → mergeD vs acc = some kvs →
    ∃ ps kws, ws = ps.map V.ref ∧ Paired (fun p kv => SqT D.K H p [kV kv.1, kv.2]) ps kws ∧ RelKV D.K H ι kvs (mergeK wa kws)
  | [], ws, acc, kvs, wa, h, ha, e => by
    cases Pd.nilL h
    cases e
    exact ⟨[], [], rfl, .nil, ha⟩
  | v :: vs, ws, acc, kvs, wa, h, ha, e => by
    obtain ⟨w, ws', ew, r1, r2⟩ := Pd.consL h
    obtain ⟨k, u, a, q, x, ewa, t, hk, hu, e'⟩ := pair_way r1 e
    obtain ⟨ps, kws, e1, e2, e3⟩ := merge_way r2 (rel_put hk hu ha) e'
    refine ⟨a :: ps, (q, x) :: kws, by rw [ew, e1, ewa]; rfl, .cons t e2, e3⟩
theorem cs_dict (O : XOk D X) : CallS D E X (.type "dict") (biV .dict) := by
  refine callr_imp ((call_dictT O.calm).or (call_dictD.or (call_dictP O.calm))) fun ws H Q ⟨ι, s, vs, m, r, h⟩ => ?_
  rw [O.hK]
  match vs, r, h with
  | [.p (.tup xs)], r, h =>
    obtain ⟨w, ew, r1⟩ := pd1 r
    subst ew
    replace r := r1
    obtain ⟨a, us, e, t, l, p⟩ := rv_tup r
    simp only [biV] at h
    cases z : mergeD (xs.map Val.p) [] with
    | none => rw [z] at h; exact h.elim
    | some kvs =>
      rw [z] at h
      obtain ⟨ps, kws, e1, e2, e3⟩ := merge_way (pv_vals p) (show RelKV D.K H ι [] [] from .nil) z
      subst e1
      refine .inl ⟨a, ps, kws, by rw [e], t, e2, fun q hq => ?_⟩
      have hl := mergeD_len _ _ _ z
      exact post.mkNew h m hq fun ι' e' => ⟨_, upd_same, by simp at hl; omega, e3.mono e'⟩
  | [.r n], r, h =>
    obtain ⟨w, ew, r1⟩ := pd1 r
    subst ew
    replace r := r1
    obtain ⟨a, e, ha⟩ := rv_r r
    simp only [biV] at h
    cases ho : s.h[n]? with
    | none => rw [ho] at h; exact h.elim
    | some o =>
      rw [ho] at h
      cases o with
      | inst c fs => exact h.elim
      | dict kvs =>
        obtain ⟨us, w1, w2, w3⟩ := m.dict ha ho
        refine .inr (.inl ⟨a, us, by rw [e], .of w1, fun q hq => ?_⟩)
        exact post.mkNew h m hq fun ι' e' => ⟨_, upd_same, w2, w3.mono e'⟩
      | list xs =>
        obtain ⟨us, w1, w2, w3⟩ := m.list ha ho
        simp only at h
        cases z : mergeD xs [] with
        | none => rw [z] at h; exact h.elim
        | some kvs =>
          rw [z] at h
          obtain ⟨ps, kws, e1, e2, e3⟩ := merge_way w3 (show RelKV D.K H ι [] [] from .nil) z
          subst e1
          refine .inr (.inr ⟨a, ps, kws, by rw [e], SqL.of w1, e2, fun q hq => ?_⟩)
          have hl := mergeD_len _ _ _ z
          exact post.mkNew h m hq fun ι' e' => ⟨_, upd_same, by simp at hl; omega, e3.mono e'⟩
  | [], _, h => exact h.elim
  | _ :: _ :: _, _, h => exact (by simp only [biV] at h; exact h.elim)
  | [.p .non], _, h => exact h.elim
  | [.p (.bool _)], _, h => exact h.elim
  | [.p (.int _)], _, h => exact h.elim
  | [.p (.str _)], _, h => exact h.elim
  | [.t _], _, h => exact h.elim
  | [.hd], _, h => exact h.elim
  | [.sc], _, h => exact h.elim
/-! ### sorted -/
theorem allI_eq : ∀ {vs : List Val} {ns : List Int}, allI vs = some ns → vs = ns.map fun i => .p (.int i)
  | [], ns, h => by simp [allI] at h; subst h; rfl
  | .p (.int i) :: r, ns, h => by
    simp only [allI, Option.map_eq_some_iff] at h
    obtain ⟨ys, h1, rfl⟩ := h
    rw [allI_eq h1]; rfl
  | .p .non :: _, _, h => by simp [allI] at h
  | .p (.bool _) :: _, _, h => by simp [allI] at h
  | .p (.str _) :: _, _, h => by simp [allI] at h
  | .p (.tup _) :: _, _, h => by simp [allI] at h
  | .r _ :: _, _, h => by simp [allI] at h
  | .t _ :: _, _, h => by simp [allI] at h
  | .hd :: _, _, h => by simp [allI] at h
  | .sc :: _, _, h => by simp [allI] at h
theorem allB_eq : ∀ {vs : List Val} {ns : List Bool}, allB vs = some ns → vs = ns.map fun i => .p (.bool i)
  | [], ns, h => by simp [allB] at h; subst h; rfl
  | .p (.bool i) :: r, ns, h => by
    simp only [allB, Option.map_eq_some_iff] at h
    obtain ⟨ys, h1, rfl⟩ := h
    rw [allB_eq h1]; rfl
  | .p .non :: _, _, h => by simp [allB] at h
  | .p (.int _) :: _, _, h => by simp [allB] at h
  | .p (.str _) :: _, _, h => by simp [allB] at h
  | .p (.tup _) :: _, _, h => by simp [allB] at h
  | .r _ :: _, _, h => by simp [allB] at h
  | .t _ :: _, _, h => by simp [allB] at h
  | .hd :: _, _, h => by simp [allB] at h
  | .sc :: _, _, h => by simp [allB] at h
theorem allS_eq : ∀ {vs : List Val} {ns : List (List Nat)}, allS vs = some ns → vs = ns.map fun i => .p (.str i)
  | [], ns, h => by simp [allS] at h; subst h; rfl
  | .p (.str i) :: r, ns, h => by
    simp only [allS, Option.map_eq_some_iff] at h
    obtain ⟨ys, h1, rfl⟩ := h
    rw [allS_eq h1]; rfl
  | .p .non :: _, _, h => by simp [allS] at h
  | .p (.bool _) :: _, _, h => by simp [allS] at h
  | .p (.int _) :: _, _, h => by simp [allS] at h
  | .p (.tup _) :: _, _, h => by simp [allS] at h
  | .r _ :: _, _, h => by simp [allS] at h
  | .t _ :: _, _, h => by simp [allS] at h
  | .hd :: _, _, h => by simp [allS] at h
  | .sc :: _, _, h => by simp [allS] at h
theorem ints_of {K : PySem.W.Frag} : ∀ {ns : List Int} {ws : List V}, Paired (RelVal K H ι) (ns.map fun i => .p (.int i)) ws → ws = ns.map V.int
  | [], _, h => Pd.nilL h
  | n :: ns, ws, h => by
    obtain ⟨w, r, e, a, b⟩ := Pd.consL h
    rw [e, rv_int a, ints_of b]; rfl
theorem bools_of {K : PySem.W.Frag} : ∀ {ns : List Bool} {ws : List V}, Paired (RelVal K H ι) (ns.map fun i => .p (.bool i)) ws → ws = ns.map V.bl
  | [], _, h => Pd.nilL h
  | n :: ns, ws, h => by
    obtain ⟨w, r, e, a, b⟩ := Pd.consL h
    rw [e, rv_bool a, bools_of b]; rfl
abbrev toS (l : List Nat) : Str := ⟨l.toArray⟩
theorem strs_of {K : PySem.W.Frag} : ∀ {ns : List (List Nat)} {ws : List V}, Paired (RelVal K H ι) (ns.map fun i => .p (.str i)) ws → ws = (ns.map toS).map V.str ∧ ∀ l ∈ ns, StrOk l
  | [], _, h => ⟨Pd.nilL h, fun l hl => by simp at hl⟩
  | n :: ns, ws, h => by
    obtain ⟨w, r, e, a, b⟩ := Pd.consL h
    obtain ⟨e1, l1⟩ := rv_str a
    obtain ⟨e2, l2⟩ := strs_of b
    refine ⟨by rw [e, e1, e2]; rfl, fun l hl => ?_⟩
    rcases List.mem_cons.mp hl with z | z
    · rw [z]; exact l1
    · exact l2 l z
theorem ints_rel {K : PySem.W.Frag} : ∀ (ns : List Int), Paired (RelVal K H ι) (ns.map fun i => .p (.int i)) (ns.map V.int)
  | [] => .nil
  | n :: ns => .cons (.p (.int n)) (ints_rel ns)
theorem strs_rel {K : PySem.W.Frag} : ∀ (ns : List (List Nat)), (∀ l ∈ ns, StrOk l) → Paired (RelVal K H ι) (ns.map fun i => .p (.str i)) ((ns.map toS).map V.str)
  | [], _ => .nil
  | n :: ns, h => .cons (.p (.str n (h n List.mem_cons_self))) (strs_rel ns fun l hl => h l (List.mem_cons_of_mem _ hl))
/-- what sorted gives: ints, or texts -/
theorem sorted_way {xs ys : List Val} (h : sortedP xs = some ys) : xs.length < 64 ∧ ((∃ ns : List Int, xs = ns.map (fun i => .p (.int i)) ∧ ys = (ns.mergeSort fun a b => decide (a ≤ b)).map fun i => .p (.int i)) ∨
    ∃ ns : List (List Nat), xs = ns.map (fun i => .p (.str i)) ∧ ys = (ns.mergeSort leS).map fun i => .p (.str i)) := by
  unfold sortedP at h
  split at h
  · rename_i l
    refine ⟨l, ?_⟩
    split at h
    · rename_i ns e
      cases h
      exact .inl ⟨ns, allI_eq e, rfl⟩
    · split at h
      · rename_i ns e
        cases h
        exact .inr ⟨ns, allS_eq e, rfl⟩
      · cases h
  · cases h
theorem keys_ints {kvs : List (PV × Val)} : ∀ {ns : List Int} {us : List (Key × V)}, RelKV D.K H ι kvs us → kvs.map (fun q => Val.p q.1) = ns.map (fun i => .p (.int i)) → us.map (·.1) = ns.map Sum.inl := by
  intro ns us h
  induction h generalizing ns with
  | nil => intro e; cases ns with | nil => rfl | cons => simp at e
  | cons a b ih =>
    intro e
    cases ns with
    | nil => simp at e
    | cons n ns =>
      rw [List.map_cons, List.map_cons] at e
      injection e with e1 e2
      injection e1 with e1
      rw [List.map_cons, List.map_cons, ih e2]
      have := a.1.1
      rw [e1] at this
      rw [← Option.some.inj this]
theorem keys_strs {kvs : List (PV × Val)} : ∀ {ns : List (List Nat)} {us : List (Key × V)}, RelKV D.K H ι kvs us → kvs.map (fun q => Val.p q.1) = ns.map (fun i => .p (.str i)) → us.map (·.1) = (ns.map toS).map Sum.inr ∧ ∀ l ∈ ns, StrOk l := by
  intro ns us h
  induction h generalizing ns with
  | nil => intro e; cases ns with | nil => exact ⟨rfl, fun l hl => by simp at hl⟩ | cons => simp at e
  | cons a b ih =>
    intro e
    cases ns with
    | nil => simp at e
    | cons n ns =>
      rw [List.map_cons, List.map_cons] at e
      injection e with e1 e2
      injection e1 with e1
      obtain ⟨i1, i2⟩ := ih e2
      refine ⟨?_, fun l hl => ?_⟩
      · rw [List.map_cons, List.map_cons, List.map_cons, i1]
        have := a.1.1
        rw [e1] at this
        rw [← Option.some.inj this]
      · rcases List.mem_cons.mp hl with z | z
        · rw [z]; exact a.1.2 n e1
        · exact i2 l z
theorem post.mkInts {ns : List Int} {p : Addr} (h : post D E ι H (relV D) Q (new (.list (ns.map fun i => .p (.int i))) s)) (m : Sim D H ι s) (hp : H p = none) (l : ns.length ≤ sizeLine) : Q (.ref p) (upd H p (.lst (ns.map V.int))) := post.mkList h m hp (by simpa using l) (ints_rel ns)
theorem post.mkStrs {ns : List (List Nat)} {p : Addr} (h : post D E ι H (relV D) Q (new (.list (ns.map fun i => .p (.str i))) s)) (m : Sim D H ι s) (hp : H p = none) (l : ns.length ≤ sizeLine) (hs : ∀ l ∈ ns, StrOk l) : Q (.ref p) (upd H p (.lst ((ns.map toS).map V.str))) := post.mkList h m hp (by simpa using l) (strs_rel ns hs)
/-- sorted of a list of the heap -/
theorem sorted_list {xs ys : List Val} {a : Addr} {us : List V} (m : Sim D H ι s) (w1 : H a = some (.lst us)) (w3 : Paired (RelVal D.K H ι) xs us) (z : sortedP xs = some ys) (h : post D E ι H (relV D) Q (new (.list ys) s)) : rSorted D.K [.ref a] H Q ∨ rSortedS D.K [.ref a] H Q := by
  obtain ⟨l, ⟨ns, rfl, rfl⟩ | ⟨ns, rfl, rfl⟩⟩ := sorted_way z
  · rw [List.length_map] at l
    refine .inl ⟨a, ns, rfl, SqL.of (by rw [w1, ints_of w3]), l, fun ns' p hp hs hn => ?_⟩
    rw [sorted_ints_eq hp hs]
    exact post.mkInts h m hn (by rw [(List.mergeSort_perm ns _).length_eq]; exact L2.small64 l)
  · rw [List.length_map] at l
    obtain ⟨e, ok⟩ := strs_of w3
    refine .inr ⟨a, ns.map toS, rfl, SqL.of (by rw [w1, e]), by rw [List.length_map]; exact l, fun ys' p hp hs hn => ?_⟩
    rw [sorted_strs_eq hp hs]
    exact post.mkStrs h m hn (by rw [(List.mergeSort_perm ns _).length_eq]; exact L2.small64 l) fun x hx => ok x ((List.mergeSort_perm ns _).mem_iff.mp hx)
theorem cs_sorted (O : XOk D X) : CallS D E X (.builtin "sorted") (biV .sorted) := by
  refine callr_imp ((cr_sorted.or cr_sortedS).or ((call_sortedD O.calm).or (call_sortedDI O.calm))) fun ws H Q ⟨ι, s, vs, m, r, h⟩ => ?_
  rw [O.hK]
  match vs, r, h with
  | [.r n], r, h =>
    obtain ⟨w, ew, r1⟩ := pd1 r
    subst ew
    replace r := r1
    obtain ⟨a, e, ha⟩ := rv_r r
    subst e
    simp only [biV, itemsOf] at h
    cases ho : s.h[n]? with
    | none => rw [ho] at h; exact h.elim
    | some o =>
      rw [ho] at h
      cases o with
      | inst c fs => exact h.elim
      | list xs =>
        obtain ⟨us, w1, w2, w3⟩ := m.list ha ho
        simp only [Option.bind_some] at h
        cases z : sortedP xs with
        | none => rw [z] at h; exact h.elim
        | some ys => rw [z] at h; exact .inl (sorted_list m w1 w3 z h)
      | dict kvs =>
        obtain ⟨us, w1, w2, w3⟩ := m.dict ha ho
        simp only [Option.bind_some] at h
        cases z : sortedP (kvs.map fun q => .p q.1) with
        | none => rw [z] at h; exact h.elim
        | some ys =>
          rw [z] at h
          obtain ⟨l, ⟨ns, e1, rfl⟩ | ⟨ns, e1, rfl⟩⟩ := sorted_way z
          · rw [e1, List.length_map] at l
            refine .inr (.inr ⟨a, us, ns, rfl, .of w1, keys_ints w3 e1, l, fun ns' p hp hs hn => ?_⟩)
            rw [sorted_ints_eq hp hs]
            exact post.mkInts h m hn (by rw [(List.mergeSort_perm ns _).length_eq]; exact L2.small64 l)
          · rw [e1, List.length_map] at l
            obtain ⟨i1, i2⟩ := keys_strs w3 e1
            refine .inr (.inl ⟨a, us, ns.map toS, rfl, .of w1, i1, by rw [List.length_map]; exact l, fun ys' p hp hs hn => ?_⟩)
            rw [sorted_strs_eq hp hs]
            exact post.mkStrs h m hn (by rw [(List.mergeSort_perm ns _).length_eq]; exact L2.small64 l) fun x hx => i2 x ((List.mergeSort_perm ns _).mem_iff.mp hx)
  | [], _, h => exact h.elim
  | _ :: _ :: _, _, h => exact (by simp only [biV] at h; exact h.elim)
  | [.p _], _, h => exact h.elim
  | [.t _], _, h => exact h.elim
  | [.hd], _, h => exact h.elim
  | [.sc], _, h => exact h.elim
end
end U
/-! Mp2h: calls of built-ins in the text; isinstance; built-ins of lists made here. -/
namespace U
open PySem L2
section
variable {D : Wd} {E : XK} {X : L2.Cx} {C : Calls} {ι : Inj} {H : Hp} {s : S} {Q : VK}
theorem tail_plain {env : PySem.Env} {pos : Pos} : ∀ {es : List Expr}, es.all pl = true → (backTo pos (starEach es env)).any (·.1) = false
  | [], _ => rfl
  | e :: es, h => by
    rw [List.all_cons] at h
    obtain ⟨h1, h2⟩ := Bool.and_eq_true_iff.mp h
    rw [star_of h1]
    show (false || (backTo pos (starEach es env)).any (·.1)) = false
    rw [tail_plain h2]; rfl
theorem all2 {a b : Expr} (h : pl a = true) (h' : pl b = true) : [a, b].all pl = true := by rw [List.all_cons, List.all_cons, h, h']; rfl
/-- a built-in's name here -/
structure Blt (X : L2.Cx) (x : Str) (f : Value) : Prop where
  g : Gl X x
  m : X.mg x = none
  b : bootBuiltins x = some f
  n : x ≠ "__name__"
  d : (x == ("__debug__" : Str)) = false
/-- f(e, ..), f a built-in function or type -/
theorem pe_callF {f : Value} (hf : (∃ id, f = .builtin id) ∨ ∃ T, f = .type T) {r : List V → Hp → VK → Prop} {x : Str} {p pos : Pos} {e : Expr} {es : List Expr} {t : TA} (hc : CallR X f r) (B : Blt X x f) (ha : PA X (e :: es) t) (hp : (e :: es).all pl = true) :
    PE X (.Call (.Name x p) (e :: es) [] pos) (tCB r t) := by
  rw [List.all_cons] at hp
  obtain ⟨h1, h2⟩ := Bool.and_eq_true_iff.mp hp
  rcases hf with ⟨id, rfl⟩ | ⟨T, rfl⟩
  · exact pe_callB hc B.g B.m B.b ha B.n B.d (star_of h1) (tail_plain h2)
  · exact pe_callTy hc B.g B.m B.b ha B.n B.d (star_of h1) (tail_plain h2)
theorem biVal_f (b : Bi) : (∃ id, biVal b = .builtin id) ∨ ∃ T, biVal b = .type T := by cases b <;> first | exact .inl ⟨_, rfl⟩ | exact .inr ⟨_, rfl⟩
def biOk : Bi → Bool
  | .str => false
  | _ => true
theorem cs_bi (O : XOk D X) (b : Bi) (h : biOk b = true) : CallS D E X (biVal b) (biV b) := by
  cases b
  · exact cs_len O
  · exact cs_abs
  · exact cs_int
  · simp [biOk] at h
  · exact cs_tuple O
  · exact cs_list O
  · exact cs_dict O
  · exact cs_sorted O
  · exact cs_ord
  · exact cs_max O
  · exact cs_min O
theorem se_bi (O : XOk D X) {b : Bi} (hb : biOk b = true) {x : Str} {p pos : Pos} {e : Expr} {es : List Expr} {ms : Exs} (B : Blt X x (biVal b)) (ha : SA D E C X (e :: es) ms) (hp : (e :: es).all pl = true) : SE D E C X (.Call (.Name x p) (e :: es) [] pos) (.bi b ms) := by
  refine pe_by (pe_callF (biVal_f b) (cs_bi (E := E) O b hb) B ha hp) fun σ H Q ⟨ι, env, s, hs, hn, hp⟩ => ?_
  refine ⟨ι, env, s, hs, hn, (post.bind (rel := relVs D) hp).imp fun ws H1 ⟨ι1, s1, vs, e1, m1, r1, p1⟩ => ?_⟩
  exact ⟨ι1, s1, vs, m1, r1, p1⟩
/-! ### a list made here -/
def lbVal : Lb → Value
  | .all => .builtin "all"
  | .any => .builtin "any"
  | .tuple => .type "tuple"
  | .sum => .builtin "sum"
  | .len => .builtin "len"
  | .sorted => .builtin "sorted"
theorem lbVal_f (b : Lb) : (∃ id, lbVal b = .builtin id) ∨ ∃ T, lbVal b = .type T := by cases b <;> first | exact .inl ⟨_, rfl⟩ | exact .inr ⟨_, rfl⟩
def CallL (D : Wd) (E : XK) (X : L2.Cx) (f : Value) (g : List Val → S → R Val) : Prop := CallR X f fun ws H Q =>
  ∃ ι s vs p us, ws = [.ref p] ∧ H p = some (.lst us) ∧ Sim D H ι s ∧ vs.length ≤ sizeLine ∧ Paired (RelVal D.K H ι) vs us ∧ post D E ι H (relV D) Q (g vs s)
theorem cl_lb (O : XOk D X) (b : Lb) : CallL D E X (lbVal b) (lbV b) := by
  cases b
  · refine callr_imp (cr_all O.calm) fun ws H Q ⟨ι, s, vs, p, us, e, hp, m, l, r, h⟩ => ?_
    rw [O.hK]
    simp only [lbV] at h
    cases z : allB vs with
    | none => rw [z] at h; exact h.elim
    | some bs =>
      rw [z] at h
      have q := allB_eq z
      subst q
      exact ⟨p, bs, e, SqL.of (by rw [hp, bools_of r]), h.now m (.p (.bool _))⟩
  · refine callr_imp (cr_any O.calm) fun ws H Q ⟨ι, s, vs, p, us, e, hp, m, l, r, h⟩ => ?_
    rw [O.hK]
    simp only [lbV] at h
    cases z : allB vs with
    | none => rw [z] at h; exact h.elim
    | some bs =>
      rw [z] at h
      have q := allB_eq z
      subst q
      exact ⟨p, bs, e, SqL.of (by rw [hp, bools_of r]), h.now m (.p (.bool _))⟩
  · refine callr_imp call_tupF fun ws H Q ⟨ι, s, vs, p, us, e, hp, m, l, r, h⟩ => ?_
    rw [O.hK]
    exact ⟨p, us, e, .inl ⟨SqL.of hp, fun q H' hq n => h.mkT m hq n l r⟩⟩
  · refine callr_imp (cr_sum O.calm) fun ws H Q ⟨ι, s, vs, p, us, e, hp, m, l, r, h⟩ => ?_
    rw [O.hK]
    simp only [lbV] at h
    cases z : allI vs with
    | none => rw [z] at h; exact h.elim
    | some bs =>
      rw [z] at h
      have q := allI_eq z
      subst q
      exact ⟨p, bs, e, SqL.of (by rw [hp, ints_of r]), h.now m (.p (.int _))⟩
  · refine callr_imp call_len_seq fun ws H Q ⟨ι, s, vs, p, us, e, hp, m, l, r, h⟩ => ?_
    rw [O.hK]
    refine ⟨p, us, e, .inl (SqL.of hp), ?_⟩
    rw [← Paired.length r]
    exact h.now m (.p (.int _))
  · refine callr_imp (cr_sorted.or cr_sortedS) fun ws H Q ⟨ι, s, vs, p, us, e, hp, m, l, r, h⟩ => ?_
    rw [O.hK]
    simp only [lbV] at h
    cases z : sortedP vs with
    | none => rw [z] at h; exact h.elim
    | some ys => rw [z] at h; subst e; exact sorted_list m hp r z h
theorem se_lb (O : XOk D X) {b : Lb} {x : Str} {p pos : Pos} {e : Expr} {l : Le} (B : Blt X x (lbVal b)) (h : SL D E C X e l) (hp : pl e = true) : SE D E C X (.Call (.Name x p) [e] [] pos) (.lb b l) := by
  refine pe_by (pe_callF (lbVal_f b) (cl_lb (E := E) O b) B (pa_cons h pa_nil (star_of hp)) (by simp [hp])) fun σ H Q ⟨ι, env, s, hs, hn, hp⟩ => ?_
  have hp : post D E ι H (relV D) Q ((evL C l env s).bind fun vs s => lbV b vs s) := hp
  refine ⟨ι, env, s, hs, hn, (post.bind (rel := relL D H) hp).imp fun w H1 ⟨ι1, s1, vs, e1, m1, r1, p1⟩ => ?_⟩
  obtain ⟨q, ws, ew, h0, h1, h2, h3, h4, h5⟩ := r1
  exact ⟨ι1, s1, vs, q, ws, by rw [ew], h1, m1, h4, h5, p1⟩
/-! ### isinstance -/
def tyStr : Ty → String
  | .int => "int"
  | .bool => "bool"
  | .str => "str"
  | .tuple => "tuple"
  | .list => "list"
  | .dict => "dict"
  | .cls _ => ""
def isTy : Ty → Bool
  | .cls _ => false
  | _ => true
/-- a value's own type -/
def tyNm : Val → S → Option String
  | .p .non, _ => some "NoneType"
  | .p (.bool _), _ => some "bool"
  | .p (.int _), _ => some "int"
  | .p (.str _), _ => some "str"
  | .p (.tup _), _ => some "tuple"
  | .t _, _ => some "tuple"
  | .r a, s => match s.h[a]? with
    | some (.list _) => some "list"
    | some (.dict _) => some "dict"
    | _ => none
  | _, _ => none
def isTab (a : String) (t : Ty) : Bool := a == tyStr t || (a == "bool" && tyStr t == "int")
theorem is_tab : (["NoneType", "bool", "int", "str", "tuple", "list", "dict"].all fun a => [Ty.int, .bool, .str, .tuple, .list, .dict].all fun t => kitB a (tyStr t) == some (isTab a t)) = true := by decide +kernel
theorem is_tab1 {a : String} {t : Ty} (ha : a ∈ ["NoneType", "bool", "int", "str", "tuple", "list", "dict"]) (ht : isTy t = true) : kitB a (tyStr t) = some (isTab a t) := by
  have h := List.all_eq_true.mp is_tab a ha
  have h2 := List.all_eq_true.mp h t (by cases t <;> first | (simp [isTy] at ht; done) | simp)
  simpa using h2
theorem tyNm_mem {x : Val} {a : String} (h : tyNm x s = some a) : a ∈ ["NoneType", "bool", "int", "str", "tuple", "list", "dict"] := by
  unfold tyNm at h
  split at h <;> first | (cases h; done) | (cases h; simp; done) | skip
  · split at h <;> first | (cases h; done) | (cases h; simp; done)
theorem isi_nm {x : Val} {t : Ty} {b : Bool} (ht : isTy t = true) (h : isiV x t s = some b) : ∃ a, tyNm x s = some a ∧ b = isTab a t := by
  match x, h with
  | .p .non, h => cases h; exact ⟨_, rfl, by cases t <;> first | rfl | (simp [isTy] at ht)⟩
  | .p (.bool _), h => cases h; exact ⟨_, rfl, by cases t <;> first | rfl | (simp [isTy] at ht)⟩
  | .p (.int _), h => cases h; exact ⟨_, rfl, by cases t <;> first | rfl | (simp [isTy] at ht)⟩
  | .p (.str _), h => cases h; exact ⟨_, rfl, by cases t <;> first | rfl | (simp [isTy] at ht)⟩
  | .p (.tup _), h => cases h; exact ⟨_, rfl, by cases t <;> first | rfl | (simp [isTy] at ht)⟩
  | .t _, h => cases h; exact ⟨_, rfl, by cases t <;> first | rfl | (simp [isTy] at ht)⟩
  | .r a, h =>
    simp only [isiV] at h
    cases ho : s.h[a]? with
    | none => rw [ho] at h; simp at h
    | some o =>
      cases o with
      | inst c fs => rw [ho] at h; simp at h
      | list xs => exact ⟨"list", by simp [tyNm, ho], by rw [ho] at h; cases t <;> first | (simp [isTy] at ht; done) | (simp at h; subst h; rfl)⟩
      | dict xs => exact ⟨"dict", by simp [tyNm, ho], by rw [ho] at h; cases t <;> first | (simp [isTy] at ht; done) | (simp at h; subst h; rfl)⟩
  | .hd, h => simp [isiV] at h
  | .sc, h => simp [isiV] at h
theorem tyx_of {x : Val} {w : V} {a : String} (m : Sim D H ι s) (r : RelVal D.K H ι x w) (h : tyNm x s = some a) : TyX D.K H w (.type a) := by
  match x, r, h with
  | .p .non, r, h => cases h; rw [rv_non r]; exact .base .non
  | .p (.bool _), r, h => cases h; rw [rv_bool r]; exact .base (.bl _)
  | .p (.int _), r, h => cases h; rw [rv_int r]; exact .base (.int _)
  | .p (.str _), r, h => cases h; rw [(rv_str r).1]; exact .base (.str _)
  | .p (.tup _), r, h =>
    cases h
    obtain ⟨a, ws, e, ⟨o, t, _⟩, l, p⟩ := rv_tup r
    rw [e]; exact .fTuple t
  | .t _, r, h =>
    cases h
    obtain ⟨a, ws, e, ⟨o, t, _⟩, l, p⟩ := rv_t r
    rw [e]; exact .fTuple t
  | .r n, r, h =>
    obtain ⟨p, e, ha⟩ := rv_r r
    subst e
    simp only [tyNm] at h
    cases ho : s.h[n]? with
    | none => rw [ho] at h; simp at h
    | some o =>
      rw [ho] at h
      cases o with
      | inst c fs => simp at h
      | list xs =>
        simp at h; subst h
        obtain ⟨us, w1, _⟩ := m.list ha ho
        exact .base (.lst w1)
      | dict xs =>
        simp at h; subst h
        obtain ⟨us, w1, _⟩ := m.dict ha ho
        exact .base (.dK w1)
  | .hd, _, h => simp [tyNm] at h
  | .sc, _, h => simp [tyNm] at h
theorem kit_any {x : Val} {a : String} (hn : tyNm x s = some a) : ∀ {ts : List Ty} {b : Bool}, ts.all isTy = true → isiAny x s ts = some b → PySem.W.kitAny D.K (.type a) (ts.map fun t => .type (tyStr t)) = some b
  | [], b, _, h => by cases h; rfl
  | t :: ts, b, ht, h => by
    rw [List.all_cons] at ht
    obtain ⟨h1, h2⟩ := Bool.and_eq_true_iff.mp ht
    simp only [isiAny] at h
    cases e : isiV x t s with
    | none => rw [e] at h; simp at h
    | some k =>
      rw [e] at h
      obtain ⟨a', hn', rfl⟩ := isi_nm h1 e
      rw [hn] at hn'
      cases hn'
      refine kitAny_cons (b := isTab a t) (kit_ty (is_tab1 (tyNm_mem hn) h1)) (fun z => ?_) fun z => ?_
      · simp only [Option.bind_some, z, Bool.false_eq_true, if_false] at h
        exact kit_any hn h2 h
      · simp only [Option.bind_some, z, if_true] at h
        exact (Option.some.inj h).symm
/-- the type names are the built-in ones -/
structure TyN (X : L2.Cx) (t : Ty) (x : Str) : Prop where
  ok : isTy t = true
  b : Blt X x (.type (tyStr t))
theorem pe_ty {t : Ty} {x : Str} {p : Pos} (T : TyN X t x) : PE X (.Name x p) (tC (.ty (tyStr t))) := pe_bltn (v := .ty (tyStr t)) T.b.g T.b.m T.b.b rfl T.b.n T.b.d
theorem se_isi1 (O : XOk D X) {e : Expr} {m : Ex} {t : Ty} {x y : Str} {p p' pos : Pos} (B : Blt X y (.builtin "isinstance")) (T : TyN X t x) (h : SE D E C X e m) (hp : pl e = true) : SE D E C X (.Call (.Name y p) [e, .Name x p'] [] pos) (.isi m [t]) := by
  refine pe_by (pe_callF (.inl ⟨_, rfl⟩) call_isi B (pa_cons h (pa_cons (pe_ty T) pa_nil) (star_of hp)) (all2 hp rfl)) fun σ H Q ⟨ι, env, s, hs, hn, hp⟩ => ?_
  have hp : post D E ι H (relV D) Q ((ev C m env s).bind fun x s => match isiAny x s [t] with
    | some k => .ok (.p (.bool k)) s
    | none => .bot) := hp
  refine ⟨ι, env, s, hs, hn, (post.bind (rel := relV D) hp).imp fun w H1 ⟨ι1, s1, v, e1, m1, r1, p1⟩ => ?_⟩
  cases z : isiAny v s1 [t] with
  | none => rw [z] at p1; exact p1.elim
  | some k =>
    rw [z] at p1
    rw [O.hK]
    simp only [isiAny] at z
    cases q : isiV v t s1 with
    | none => rw [q] at z; simp at z
    | some b =>
      rw [q] at z
      have : b = k := by cases b <;> simpa using z
      subst this
      obtain ⟨a, hn', eb⟩ := isi_nm T.ok q
      refine ⟨w, .ty (tyStr t), .type a, .type (tyStr t), b, rfl, .ty _, tyx_of m1 r1 hn', ?_, p1.now m1 (.p (.bool _))⟩
      rw [eb]
      exact kit_ty (is_tab1 (tyNm_mem hn') T.ok)
/-- a tuple of type names -/
inductive TyNs (X : L2.Cx) : List Ty → List Expr → Prop
  | nil : TyNs X [] []
  | cons {t : Ty} {x : Str} {p : Pos} {ts : List Ty} {es : List Expr} : TyN X t x → TyNs X ts es → TyNs X (t :: ts) (.Name x p :: es)
theorem TyNs.all {ts : List Ty} {es : List Expr} (h : TyNs X ts es) : ts.all isTy = true := by
  induction h with
  | nil => rfl
  | cons a b ih => rw [List.all_cons, a.ok, ih]; rfl
theorem TyNs.pa {ts : List Ty} {es : List Expr} (h : TyNs X ts es) : PA X es (fun σ H Q => Q (ts.map fun t => V.ty (tyStr t)) H) := by
  induction h with
  | nil => exact pa_by pa_nil fun σ H Q h => h
  | cons a b ih => exact pa_by (pa_cons (pe_ty a) ih rfl) fun σ H Q h => h
theorem clsVs : ∀ (ts : List Ty), Paired ClsV (ts.map fun t => V.ty (tyStr t)) (ts.map fun t => Value.type (tyStr t))
  | [] => .nil
  | t :: ts => .cons (.ty _) (clsVs ts)
theorem se_isiT (O : XOk D X) {e : Expr} {m : Ex} {ts : List Ty} {es : List Expr} {y : Str} {k : Nat} {p p' pos : Pos} (B : Blt X y (.builtin "isinstance")) (T : TyNs X ts es) (hl : ts.length ≤ 100) (h0 : ts ≠ []) (h : SE D E C X e m) (hp : pl e = true) : SE D E C X (.Call (.Name y p) [e, .Tuple es k p'] [] pos) (.isi m ts) := by
  refine pe_by (pe_callF (.inl ⟨_, rfl⟩) call_isiT B (pa_cons h (pa_cons (pe_tup T.pa) pa_nil) (star_of hp)) (all2 hp rfl)) fun σ H Q ⟨ι, env, s, hs, hn, hp⟩ => ?_
  have hp : post D E ι H (relV D) Q ((ev C m env s).bind fun x s => match isiAny x s ts with
    | some k => .ok (.p (.bool k)) s
    | none => .bot) := hp
  refine ⟨ι, env, s, hs, hn, (post.bind (rel := relV D) hp).imp fun w H1 ⟨ι1, s1, v, e1, m1, r1, p1⟩ => ?_⟩
  cases z : isiAny v s1 ts with
  | none => rw [z] at p1; exact p1.elim
  | some b =>
    rw [z] at p1
    rw [O.hK]
    refine ⟨by rw [List.length_map, lim_eq]; exact Nat.le_trans hl (by decide), fun p hp => ?_⟩
    have fr := Ext.fresh (K := D.K) (ι := ι1) (o := .tup (ts.map fun t => V.ty (tyStr t))) hp
    have m2 := m1.fresh (o := .tup (ts.map fun t => V.ty (tyStr t))) hp
    have r2 := r1.mono fr.to
    cases ts with
    | nil => exact absurd rfl h0
    | cons t ts =>
      have hn' : ∃ a, tyNm v s1 = some a := by
        simp only [isiAny] at z
        cases q : isiV v t s1 with
        | none => rw [q] at z; simp at z
        | some b' =>
          have := T.all
          rw [List.all_cons] at this
          obtain ⟨a, hn', eb⟩ := isi_nm (Bool.and_eq_true_iff.mp this).1 q
          exact ⟨a, hn'⟩
      obtain ⟨a, hn'⟩ := hn'
      exact ⟨w, p, _, .type a, _, b, rfl, upd_same, clsVs _, tyx_of m2 r2 hn', kit_any hn' T.all z, (p1.ext fr).now m2 (.p (.bool _))⟩
end
end U
/-! Mp2i: built-in methods. -/
namespace U.Occ
open PySem PySem.StrLaws Builtin Builtin.Str
theorem occ_stay (s sub : Str) (hi : Nat) : ∀ (l : List Nat) (st : Array Nat × Nat), ¬ st.fst.size < 1 → (forIn l st (occBody s sub hi 1)).run.fst = st.fst
  | [], st, h => rfl
  | a :: l, st, h => by
    rw [List.forIn_cons]
    unfold occBody
    rw [if_neg fun c => h c.1.1.1]
    exact occ_stay s sub hi l _ h
theorem occ_first (s sub : Str) (hi : Nat) {j : Nat} (hj : j + sub.length ≤ hi ∧ subAt s sub j = true) : ∀ (n k free : Nat), free ≤ k → k ≤ j → j < k + n → (∀ i, k ≤ i → i < j → ¬ (i + sub.length ≤ hi ∧ subAt s sub i = true)) →
    (forIn (List.range' k n) ((#[] : Array Nat), free) (occBody s sub hi 1)).run.fst = #[j]
  | 0, k, free, _, h1, h2, _ => absurd h2 (by omega)
  | n + 1, k, free, hf, h1, h2, hn => by
    rw [List.range'_succ, List.forIn_cons]
    unfold occBody
    by_cases e : k = j
    · subst e
      rw [if_pos ⟨⟨⟨by simp, hf⟩, hj.1⟩, hj.2⟩]
      exact occ_stay s sub hi _ _ (by simp)
    · rw [if_neg fun c => hn k (Nat.le_refl _) (by omega) ⟨c.1.2, c.2⟩]
      exact occ_first s sub hi hj n (k + 1) free (by omega) (by omega) (by omega) fun i a b => hn i (by omega) b
theorem occ_one (x : Str) (c j : Nat) (hj : x.cps.toList[j]? = some c) (hn : ∀ i, i < j → x.cps.toList[i]? ≠ some c) : occurrences x ⟨#[c]⟩ 0 x.length 1 = [j] := by
  rw [occ_eq]
  have l := (List.getElem?_eq_some_iff.mp hj).1
  rw [occ_first x ⟨#[c]⟩ x.length ((subAt_one x c j).mpr hj) _ 0 0 (Nat.le_refl _) (Nat.zero_le _) (by simp [Str.length] at l ⊢; omega) fun i _ h q => hn i h ((subAt_one x c i).mp q)]
end U.Occ
namespace U
open PySem L2
section
variable {D : Wd} {E : XK} {X : L2.Cx} {C : Calls} {ι : Inj} {H : Hp} {s : S} {Q : VK}
theorem findC_ok (c : Nat) : ∀ (xs : List Nat) (k j : Nat), findC c xs k = some j → k ≤ j ∧ xs[j - k]? = some c ∧ ∀ i, i < j - k → xs[i]? ≠ some c
  | [], _, _, h => by simp [findC] at h
  | x :: r, k, j, h => by
    simp only [findC] at h
    split at h
    · rename_i e
      cases h
      subst e
      exact ⟨Nat.le_refl _, by simp, fun i hi => by omega⟩
    · rename_i e
      obtain ⟨h1, h2, h3⟩ := findC_ok c r (k + 1) j h
      have ej : j - k = (j - (k + 1)) + 1 := by omega
      rw [ej]
      refine ⟨by omega, by simpa using h2, fun i hi => ?_⟩
      cases i with
      | zero => simpa using e
      | succ i => simpa using h3 i (by omega)
theorem few_plain {env : PySem.Env} {pos : Pos} : ∀ {es : List Expr}, es.all pl = true → (backTo pos (starEach es env)).all (fun x => !x.1) = true
  | [], _ => rfl
  | e :: es, h => by
    rw [List.all_cons] at h
    obtain ⟨h1, h2⟩ := Bool.and_eq_true_iff.mp h
    rw [star_of h1]
    show (true && (backTo pos (starEach es env)).all (fun x => !x.1)) = true
    rw [few_plain h2]; rfl
theorem few_of {env : PySem.Env} {pos : Pos} {es : List Expr} (h : es.all pl = true) (hl : es.length < 30) : ((backTo pos (starEach es env)).all (fun x => !x.1) && (backToKw pos (keywordEach [] env)).all (fun x => x.1.isSome)
      && decide (es.length + ([] : List Keyword).length + (if ([] : List Keyword).isEmpty then 0 else 1) < 30)) = true := by
  rw [few_plain h]
  show (true && decide (es.length + 0 + 0 < 30)) = true
  rw [decide_eq_true (by omega)]; rfl
/-- a built-in method, as the interpreter has it -/
def MetS (D : Wd) (E : XK) (X : L2.Cx) (id : String) (g : Val → List Val → S → R Val) : Prop := MtR X id fun x ws H Q =>
  ∃ ι s v vs, Sim D H ι s ∧ RelVal D.K H ι v x ∧ Paired (RelVal D.K H ι) vs ws ∧ post D E ι H (relV D) Q (g v vs s)
theorem mtr_imp {id : String} {r r' : V → List V → Hp → VK → Prop} (h : MtR X id r) (i : ∀ v x H Q, r' v x H Q → r v x H Q) : MtR X id r' := fun pins s σ H x xs v us Q I rx rv q => h pins s σ H x xs v us Q I rx rv (i x xs H Q q)
def bmId : Bm → String
  | .append => "list.append"
  | .pop => "list.pop"
  | .popAt => "list.pop"
  | .extend => "list.extend"
  | .index => "str.index"
  | .join => "str.join"
  | .get2 => "dict.get"
  | .get1 => "dict.get"
def tagT : Tag → String
  | .list => "list"
  | .dict => "dict"
  | .str => "str"
  | .other => ""
def bmNm : Bm → Str
  | .append => "append"
  | .pop => "pop"
  | .popAt => "pop"
  | .extend => "extend"
  | .index => "index"
  | .join => "join"
  | .get2 => "get"
  | .get1 => "get"
/-- what a list's method does to the heap -/
theorem post.wr {n : Nat} {a : Addr} {o o' : Obj} {u : HO} {v : Val} {w : V} (h : post D E ι H (relV D) Q (.ok v (setO s n o'))) (m : Sim D H ι s) (ha : ι.a[n]? = some a) (ho : s.h[n]? = some o) (hr : ∀ ι' : Inj, Ext0 D.K ι H ι' (upd H a u) → RelObj D (upd H a u) ι' o' a)
    (r : RelVal D.K H ι v w) : Q w (upd H a u) := by
  obtain ⟨m', e'⟩ := m.write ha ho hr
  exact h _ _ _ e' m' (r.mono e'.to)
theorem bm_list {b : Bm} {v : Val} {vs : List Val} {x : V} (ht : bmTag b = .list) (m : Sim D H ι s) (r : RelVal D.K H ι v x) (h : post D E ι H (relV D) Q (bmV b v vs s)) : ∃ n a xs us, v = .r n ∧ x = .ref a ∧ ι.a[n]? = some a ∧ s.h[n]? = some (.list xs) ∧ H a = some (.lst us) ∧ xs.length ≤ sizeLine ∧ Paired (RelVal D.K H ι) xs us := by
  match v, r, h with
  | .r n, r, h =>
    obtain ⟨a, e, ha⟩ := rv_r r
    cases ho : s.h[n]? with
    | none => simp only [bmV, ho] at h; exact h.elim
    | some o =>
      cases o with
      | list xs =>
        obtain ⟨us, w1, w2, w3⟩ := m.list ha ho
        exact ⟨n, a, xs, us, rfl, e, ha, ho, w1, w2, w3⟩
      | dict kvs => simp only [bmV, ho] at h; cases b <;> first | (simp [bmTag] at ht; done) | (exact h.elim) | (simp only at h; exact h.elim)
      | inst c fs => simp only [bmV, ho] at h; exact h.elim
  | .p (.str l), r, h => cases b <;> first | (simp [bmTag] at ht; done) | (exact h.elim) | (simp only [bmV] at h; exact h.elim)
  | .p .non, _, h => exact h.elim
  | .p (.bool _), _, h => exact h.elim
  | .p (.int _), _, h => exact h.elim
  | .p (.tup _), _, h => exact h.elim
  | .t _, _, h => exact h.elim
  | .hd, _, h => exact h.elim
  | .sc, _, h => exact h.elim
theorem ms_append (O : XOk D X) : MetS D E X "list.append" (bmV .append) := by
  refine mtr_imp (show MtR X "list.append" rAppend from mt_append) fun x ws H Q ⟨ι, s, v, vs, m, rv, rs, h⟩ => ?_
  obtain ⟨n, a, xs, us, rfl, rfl, ha, ho, w1, w2, w3⟩ := bm_list rfl m rv h
  simp only [bmV, ho] at h
  match vs, rs, h with
  | [y], rs, h =>
    obtain ⟨w, ew, r1⟩ := pd1 rs
    subst ew
    simp only at h
    split at h
    · rename_i l
      have ql := Paired.length w3
      refine ⟨a, us, w, rfl, rfl, w1, by rw [lim_eq, ← ql]; exact l, ?_⟩
      exact post.wr h m ha ho (fun ι' e => ⟨_, upd_same, by rw [lim_eq]; simp; omega, RelVal.monos e (Pd.app w3 (.cons r1 .nil))⟩) (.p .non)
    · exact h.elim
  | [], _, h => exact h.elim
  | _ :: _ :: _, _, h => exact h.elim
theorem ms_pop (O : XOk D X) : MetS D E X "list.pop" (bmV .pop) := by
  refine mtr_imp (show MtR X "list.pop" rPop from mt_pop) fun x ws H Q ⟨ι, s, v, vs, m, rv, rs, h⟩ => ?_
  obtain ⟨n, a, xs, us, rfl, rfl, ha, ho, w1, w2, w3⟩ := bm_list rfl m rv h
  simp only [bmV, ho] at h
  match vs, rs, h with
  | [], rs, h =>
    cases Pd.nilL rs
    simp only at h
    cases z : xs.getLast? with
    | none => rw [z] at h; exact h.elim
    | some y =>
      rw [z] at h
      obtain ⟨w, q1, q2⟩ := Pd.getLast w3 z
      refine ⟨a, us, w, rfl, rfl, w1, q1, ?_⟩
      exact post.wr h m ha ho (fun ι' e => ⟨_, upd_same, by simp; omega, RelVal.monos e (Pd.dropLast w3)⟩) q2
  | _ :: _, _, h => exact h.elim
theorem ixN_seq' {n : Nat} {i : Int} {j : Nat} (h : ixN n i = some j) : seqIndex? i n = some j ∧ j < n ∧ -(n : Int) ≤ i ∧ i < n := L2.ixN_seq (by rw [← h]; rfl)
theorem ms_popAt (O : XOk D X) : MetS D E X "list.pop" (bmV .popAt) := by
  refine mtr_imp (show MtR X "list.pop" rPopAt from mt_popAt) fun x ws H Q ⟨ι, s, v, vs, m, rv, rs, h⟩ => ?_
  obtain ⟨n, a, xs, us, rfl, rfl, ha, ho, w1, w2, w3⟩ := bm_list rfl m rv h
  simp only [bmV, ho] at h
  match vs, rs, h with
  | [.p (.int i)], rs, h =>
    obtain ⟨w, ew, r1⟩ := pd1 rs
    subst ew
    simp only at h
    cases z : ixN xs.length i with
    | none => rw [z] at h; exact h.elim
    | some k =>
      rw [z] at h
      simp only at h
      cases z2 : xs[k]? with
      | none => rw [z2] at h; exact h.elim
      | some y =>
        rw [z2] at h
        obtain ⟨u, q1, q2⟩ := Pd.get w3 z2
        obtain ⟨i1, i2, i3, i4⟩ := ixN_seq' z
        have ql := Paired.length w3
        rw [lim_eq] at w2
        have hL : LIM = 16777216 := rfl
        refine ⟨a, us, i, k, u, rfl, by rw [rv_int r1], w1, by omega, by omega, by rw [← ql]; exact i1, q1, ?_⟩
        exact post.wr h m ha ho (fun ι' e => ⟨_, upd_same, by rw [lim_eq]; have := len_erase xs k; omega, RelVal.monos e (Pd.erase k w3)⟩) q2
  | [], _, h => exact h.elim
  | _ :: _ :: _, _, h => exact (by simp only at h; exact h.elim)
  | [.p .non], _, h => exact h.elim
  | [.p (.bool _)], _, h => exact h.elim
  | [.p (.str _)], _, h => exact h.elim
  | [.p (.tup _)], _, h => exact h.elim
  | [.r _], _, h => exact h.elim
  | [.t _], _, h => exact h.elim
  | [.hd], _, h => exact h.elim
  | [.sc], _, h => exact h.elim
/-- l.extend(t), t a tuple -/
theorem mt_extendT : MtR X "list.extend" (fun x vs H Q => ∃ l b xs zs, x = .ref l ∧ vs = [.ref b] ∧ H l = some (.lst xs) ∧ TupAt H b zs ∧ xs.length + zs.length ≤ sizeLine ∧ Q .non (upd H l (.lst (xs ++ zs)))) := by
  intro pins s σ H x vs v us Q I rx rv h
  obtain ⟨l, b, xs, zs, rfl, rfl, hH, ⟨ob, hB, hc, hd, hs⟩, hz, q⟩ := h
  cases rx
  obtain ⟨u, rfl, ru⟩ := rv.one
  cases ru
  obtain ⟨z, its, n, r, hl, e⟩ := I.lstM hH
  obtain ⟨ho, _, its2, r2, o', ho', hc', n2, hdat⟩ := (show ObjOk X.prog X.w H s.heap b (.frz ob (.tup zs)) from I.hok b _ hB)
  rw [ho] at ho'
  cases ho'
  have hl2 := r2.length
  have hsz : its.toArray.size + its2.toArray.size ≤ sizeLine := by rw [List.size_toArray, List.size_toArray]; omega
  have hlong : ¬ (!its.toArray.isEmpty && Builtin.List.listTooLong (its.toArray.size + its2.toArray.size)) = true := by
    rw [notLongL hsz, Bool.and_false]
    exact Bool.false_ne_true
  obtain ⟨oc, od, dt, sl⟩ := ob
  simp only at hc hd hdat hs
  subst hc hd hdat hs
  refine call_meets PySem.F.slot_list_extend ⟨_, e, rfl⟩ PySem.F.entry_list_extend (PySem.F.args_list_extend_2 _ _)
    (PySem.AutoSeq1.list_extend_list_tuple_0 l its.toArray n b its2.toArray n2 hlong (by rw [List.size_toArray]; omega) (by omega)) ⟨e, ho, ?_⟩
  refine ⟨.non, _, I.lset (its' := its ++ its2) hH e (by simp) (r.append r2) ?_, rfl, q⟩
  rw [List.length_append]
  omega
theorem ms_extend (O : XOk D X) : MetS D E X "list.extend" (bmV .extend) := by
  refine mtr_imp ((show MtR X "list.extend" rExtend from mt_extend).or mt_extendT) fun x ws H Q ⟨ι, s, v, vs, m, rv, rs, h⟩ => ?_
  obtain ⟨n, a, xs, us, rfl, rfl, ha, ho, w1, w2, w3⟩ := bm_list rfl m rv h
  simp only [bmV, ho] at h
  have ql := Paired.length w3
  match vs, rs, h with
  | [.r k], rs, h =>
    obtain ⟨w, ew, r1⟩ := pd1 rs
    subst ew
    obtain ⟨b, e, hb⟩ := rv_r r1
    subst e
    simp only at h
    cases hk : s.h[k]? with
    | none => rw [hk] at h; exact h.elim
    | some o =>
      rw [hk] at h
      cases o with
      | inst c fs => exact h.elim
      | dict kvs => exact h.elim
      | list ys =>
        simp only at h
        split at h
        · rename_i l
          obtain ⟨zs, z1, z2, z3⟩ := m.list hb hk
          have ql2 := Paired.length z3
          refine .inl ⟨a, b, us, zs, rfl, rfl, w1, z1, by rw [lim_eq]; omega, ?_⟩
          exact post.wr h m ha ho (fun ι' e => ⟨_, upd_same, by rw [lim_eq]; simp; omega, RelVal.monos e (Pd.app w3 z3)⟩) (.p .non)
        · exact h.elim
  | [.p (.tup ys)], rs, h =>
    obtain ⟨w, ew, r1⟩ := pd1 rs
    subst ew
    obtain ⟨b, zs, e, t, l2, p⟩ := rv_tup r1
    subst e
    simp only at h
    split at h
    · rename_i l
      have ql2 := Paired.length p
      refine .inr ⟨a, b, us, zs, rfl, rfl, w1, t, by rw [lim_eq]; omega, ?_⟩
      exact post.wr h m ha ho (fun ι' e => ⟨_, upd_same, by rw [lim_eq]; simp; omega, RelVal.monos e (Pd.app w3 (pv_vals p))⟩) (.p .non)
    · exact h.elim
  | [], _, h => exact h.elim
  | _ :: _ :: _, _, h => exact (by simp only at h; exact h.elim)
  | [.p .non], _, h => exact h.elim
  | [.p (.bool _)], _, h => exact h.elim
  | [.p (.int _)], _, h => exact h.elim
  | [.p (.str _)], _, h => exact h.elim
  | [.t _], _, h => exact h.elim
  | [.hd], _, h => exact h.elim
  | [.sc], _, h => exact h.elim
/-! ### texts -/
theorem bm_str {b : Bm} {v : Val} {vs : List Val} {x : V} (ht : bmTag b = .str) (r : RelVal D.K H ι v x) (h : post D E ι H (relV D) Q (bmV b v vs s)) : ∃ l, v = .p (.str l) ∧ x = .str ⟨l.toArray⟩ ∧ StrOk l := by
  match v, r, h with
  | .r n, r, h =>
    cases ho : s.h[n]? with
    | none => simp only [bmV, ho] at h; exact h.elim
    | some o =>
      cases o with
      | list xs => simp only [bmV, ho] at h; cases b <;> first | (simp [bmTag] at ht; done) | (exact h.elim) | (simp only at h; exact h.elim)
      | dict kvs => simp only [bmV, ho] at h; cases b <;> first | (simp [bmTag] at ht; done) | (exact h.elim) | (simp only at h; exact h.elim)
      | inst c fs => simp only [bmV, ho] at h; exact h.elim
  | .p (.str l), r, h => exact ⟨l, rfl, (rv_str r).1, (rv_str r).2⟩
  | .p .non, _, h => exact h.elim
  | .p (.bool _), _, h => exact h.elim
  | .p (.int _), _, h => exact h.elim
  | .p (.tup _), _, h => exact h.elim
  | .t _, _, h => exact h.elim
  | .hd, _, h => exact h.elim
  | .sc, _, h => exact h.elim
theorem ms_index (O : XOk D X) : MetS D E X "str.index" (bmV .index) := by
  refine mtr_imp mt_sindex fun x ws H Q ⟨ι, s, v, vs, m, rv, rs, h⟩ => ?_
  obtain ⟨l, rfl, rfl, ok⟩ := bm_str rfl rv h
  simp only [bmV] at h
  split at h
  · rename_i c _
    obtain ⟨w, ew, r1⟩ := pd1 rs
    subst ew
    cases z : findC c l 0 with
    | none => rw [z] at h; exact h.elim
    | some k =>
      rw [z] at h
      obtain ⟨h1, h2, h3⟩ := findC_ok c l 0 k z
      refine ⟨_, _, k, [], rfl, by rw [(rv_str r1).1], ?_, h.now m (.p (.int _))⟩
      exact Occ.occ_one _ c k (by simpa using h2) fun i hi => by simpa using h3 i (by simpa using hi)
  · rename_i e; cases e
  · exact h.elim
theorem joinS_eq (a : List Nat) : ∀ ys : List (List Nat), joinS a ys = TL.joinL a ys
  | [] => rfl
  | [_] => rfl
  | x :: y :: r => by
    show x ++ a ++ joinS a (y :: r) = x ++ (a ++ TL.joinL a (y :: r))
    rw [joinS_eq a (y :: r), List.append_assoc]
theorem joinS_len (a : List Nat) : ∀ ys : List (List Nat), (joinS a ys).length ≤ joinLen a.length ys
  | [] => Nat.le_refl _
  | [x] => by simp [joinS, joinLen]
  | x :: y :: r => by
    have := joinS_len a (y :: r)
    show (x ++ a ++ joinS a (y :: r)).length ≤ _
    simp only [joinLen, List.map_cons, List.sum_cons, List.length_append] at this ⊢
    omega
theorem joinS_mem (a : List Nat) : ∀ (ys : List (List Nat)) (c : Nat), c ∈ joinS a ys → c ∈ a ∨ ∃ y ∈ ys, c ∈ y
  | [], c, h => by simp [joinS] at h
  | [x], c, h => .inr ⟨x, by simp, h⟩
  | x :: y :: r, c, h => by
    have h : c ∈ x ++ a ++ joinS a (y :: r) := h
    rcases List.mem_append.mp h with h | h
    · rcases List.mem_append.mp h with h | h
      · exact .inr ⟨x, by simp, h⟩
      · exact .inl h
    · rcases joinS_mem a (y :: r) c h with h | ⟨z, h1, h2⟩
      · exact .inl h
      · exact .inr ⟨z, List.mem_cons_of_mem _ h1, h2⟩
theorem joinLen_eq (k : Nat) : ∀ ys : List (List Nat), joinLen k ys = ((ys.map toS).map (·.length)).sum + ys.length * k
  | [] => by simp [joinLen]
  | x :: r => by
    have := joinLen_eq k r
    simp only [joinLen, List.map_cons, List.sum_cons, List.length_cons, Nat.succ_mul] at this ⊢
    rw [this]
    have e : (toS x).length = x.length := by simp [Str.length]
    rw [e]; omega
def rJoin (K : PySem.W.Frag) : V → List V → Hp → VK → Prop := fun x xs H Q => ∃ a p, ∃ ys : List Str, x = .str a ∧ xs = [.ref p] ∧ (SqL K H p (ys.map V.str) ∨ SqT K H p (ys.map V.str)) ∧
    (ys.map (·.length)).sum + ys.length * a.length ≤ 16777216 ∧ Q (.str (Txt.join a ys)) H
/-- the join of a list that stands at p -/
theorem join_way {l : List Nat} {ys : List Val} {p : Addr} {us : List V} (m : Sim D H ι s) (ok : StrOk l) (w1 : H p = some (.lst us)) (w3 : Paired (RelVal D.K H ι) ys us) (h : post D E ι H (relV D) Q (joinV (.p (.str l)) ys s)) : rJoin D.K (.str ⟨l.toArray⟩) [.ref p] H Q := by
  simp only [joinV] at h
  cases z : allS ys with
  | none => rw [z] at h; exact h.elim
  | some ss =>
    rw [z] at h
    simp only at h
    split at h
    · rename_i hl
      have q := allS_eq z
      subst q
      obtain ⟨e, oks⟩ := strs_of w3
      have el : (⟨l.toArray⟩ : Str).length = l.length := by simp [Str.length]
      refine ⟨⟨l.toArray⟩, p, ss.map toS, rfl, rfl, .inl (SqL.of (by rw [w1, e])), ?_, ?_⟩
      · rw [el, List.length_map, ← joinLen_eq]
        exact hl
      · have ej : Txt.join (⟨l.toArray⟩ : Str) (ss.map toS) = ⟨(joinS l ss).toArray⟩ := by
          rw [joinS_eq]
          exact SX.join_S l ss
        rw [ej]
        refine h.now m (.p (.str _ ⟨by rw [lim_eq]; exact Nat.le_trans (joinS_len l ss) hl, fun c hc => ?_⟩))
        rcases joinS_mem l ss c hc with z | ⟨y, z1, z2⟩
        · exact ok.2 c z
        · exact (oks y z1).2 c z2
    · exact h.elim
theorem ms_join (O : XOk D X) : MetS D E X "str.join" (bmV .join) := by
  refine mtr_imp (show MtR X "str.join" (rJoin X.K) from mt_join) fun x ws H Q ⟨ι, s, v, vs, m, rv, rs, h⟩ => ?_
  obtain ⟨l, rfl, rfl, ok⟩ := bm_str rfl rv h
  rw [O.hK]
  simp only [bmV] at h
  split at h
  · cases ‹Bm.join = Bm.index›
  · rename_i k _
    obtain ⟨w, ew, r1⟩ := pd1 rs
    subst ew
    obtain ⟨b, e, hb⟩ := rv_r r1
    subst e
    cases ho : s.h[k]? with
    | none => rw [ho] at h; exact h.elim
    | some o =>
      rw [ho] at h
      cases o with
      | inst c fs => exact h.elim
      | dict kvs => exact h.elim
      | list ys =>
        obtain ⟨us, w1, w2, w3⟩ := m.list hb ho
        exact join_way m ok w1 w3 h
  · exact h.elim
/-! ### dicts -/
theorem bm_dict {b : Bm} {v : Val} {vs : List Val} {x : V} (ht : bmTag b = .dict) (m : Sim D H ι s) (r : RelVal D.K H ι v x) (h : post D E ι H (relV D) Q (bmV b v vs s)) : ∃ n a xs us, v = .r n ∧ x = .ref a ∧ ι.a[n]? = some a ∧ s.h[n]? = some (.dict xs) ∧ H a = some (.dK us) ∧ xs.length ≤ sizeLine ∧ RelKV D.K H ι xs us := by
  match v, r, h with
  | .r n, r, h =>
    obtain ⟨a, e, ha⟩ := rv_r r
    cases ho : s.h[n]? with
    | none => simp only [bmV, ho] at h; exact h.elim
    | some o =>
      cases o with
      | dict xs =>
        obtain ⟨us, w1, w2, w3⟩ := m.dict ha ho
        exact ⟨n, a, xs, us, rfl, e, ha, ho, w1, w2, w3⟩
      | list kvs => simp only [bmV, ho] at h; cases b <;> first | (simp [bmTag] at ht; done) | (exact h.elim) | (simp only at h; exact h.elim)
      | inst c fs => simp only [bmV, ho] at h; exact h.elim
  | .p (.str l), r, h => cases b <;> first | (simp [bmTag] at ht; done) | (exact h.elim) | (simp only [bmV] at h; exact h.elim)
  | .p .non, _, h => exact h.elim
  | .p (.bool _), _, h => exact h.elim
  | .p (.int _), _, h => exact h.elim
  | .p (.tup _), _, h => exact h.elim
  | .t _, _, h => exact h.elim
  | .hd, _, h => exact h.elim
  | .sc, _, h => exact h.elim
theorem mt_dget1 (hu : X.A.units + 1 < cLine) : MtR X "dict.get" (fun x ws H Q => ∃ a y o, x = .ref a ∧ ws = [y] ∧ DGet H a y o ∧ Q (o.getD .non) H) := by
  intro pins s σ H x xs v us Q I rx rs h
  obtain ⟨a, y, o, rfl, rfl, g, q⟩ := h
  cases rx
  obtain ⟨u, rfl, ru⟩ := rs.one
  exact d_get1 hu I g ru fun w' s3 I3 rw' => ⟨_, H, I3, rw', q⟩
theorem mt_dget2 (hu : X.A.units + 1 < cLine) : MtR X "dict.get" (fun x ws H Q => ∃ a y z o, x = .ref a ∧ ws = [y, z] ∧ DGet H a y o ∧ Q (o.getD z) H) := by
  intro pins s σ H x xs v us Q I rx rs h
  obtain ⟨a, y, z, o, rfl, rfl, g, q⟩ := h
  cases rx
  obtain ⟨u, u', rfl, ru, ru'⟩ := rs.two
  exact d_get2 hu I g ru ru' fun w' s3 I3 rw' => ⟨_, H, I3, rw', q⟩
theorem get_rel {k : PV} {q : Key} {v : Val} {w : V} (hk : KeyIs k q) {kvs : List (PV × Val)} {ws : List (Key × V)} (h : RelKV D.K H ι kvs ws) (r : RelVal D.K H ι v w) : RelVal D.K H ι ((dget k kvs).getD v) ((valV ws q).getD w) := by
  have z := dget_of hk.1 h
  cases e : dget k kvs with
  | none => rw [e] at z; simp only at z; rw [z]; exact r
  | some u => rw [e] at z; obtain ⟨w', z1, z2⟩ := z; rw [z1]; exact z2
theorem ms_get1 (O : XOk D X) : MetS D E X "dict.get" (bmV .get1) := by
  refine mtr_imp (mt_dget1 O.u1) fun x ws H Q ⟨ι, s, v, vs, m, rv, rs, h⟩ => ?_
  obtain ⟨n, a, xs, us, rfl, rfl, ha, ho, w1, w2, w3⟩ := bm_dict rfl m rv h
  simp only [bmV, ho] at h
  split at h
  · rename_i e; cases e
  · obtain ⟨w, ew, r1⟩ := pd1 rs
    subst ew
    split at h
    · rename_i hk
      obtain ⟨q, k1, k2⟩ := key_is (rv_p r1) hk
      subst k2
      exact ⟨a, _, _, rfl, rfl, DGet.k w1, h.now m (get_rel k1 w3 (.p .non))⟩
    · exact h.elim
  · exact h.elim
theorem ms_get2 (O : XOk D X) : MetS D E X "dict.get" (bmV .get2) := by
  refine mtr_imp (mt_dget2 O.u1) fun x ws H Q ⟨ι, s, v, vs, m, rv, rs, h⟩ => ?_
  obtain ⟨n, a, xs, us, rfl, rfl, ha, ho, w1, w2, w3⟩ := bm_dict rfl m rv h
  simp only [bmV, ho] at h
  split at h
  · obtain ⟨w, w', ew, r1, r2⟩ := pd2 rs
    subst ew
    split at h
    · rename_i hk
      obtain ⟨q, k1, k2⟩ := key_is (rv_p r1) hk
      subst k2
      exact ⟨a, _, _, _, rfl, rfl, DGet.k w1, h.now m (get_rel k1 w3 r2)⟩
    · exact h.elim
  · rename_i e; cases e
  · exact h.elim
theorem ms_bm (O : XOk D X) (b : Bm) : MetS D E X (bmId b) (bmV b) := by
  cases b
  · exact ms_append O
  · exact ms_pop O
  · exact ms_popAt O
  · exact ms_extend O
  · exact ms_index O
  · exact ms_join O
  · exact ms_get2 O
  · exact ms_get1 O
/-! ### in the text -/
theorem tyV_of {v : Val} {x : V} (m : Sim D H ι s) (r : RelVal D.K H ι v x) (b : Bm) (h : tag v s = bmTag b) : tyV D.K (tagT (bmTag b)) x H := by
  rw [← h]
  match v, r, h with
  | .p (.str l), r, h => rw [(rv_str r).1]; rfl
  | .r n, r, h =>
    obtain ⟨a, e, ha⟩ := rv_r r
    subst e
    simp only [tag] at h ⊢
    cases ho : s.h[n]? with
    | none => rw [ho] at h; cases b <;> simp [bmTag] at h
    | some o =>
      rw [ho] at h
      cases o with
      | list xs =>
        obtain ⟨us, w1, _⟩ := m.list ha ho
        exact .inl ⟨rfl, us, SqL.of w1⟩
      | dict xs =>
        obtain ⟨us, w1, _⟩ := m.dict ha ho
        exact .inr (.inr (.inl ⟨rfl, .inl ⟨us, w1⟩⟩))
      | inst c fs => cases b <;> simp [bmTag] at h
  | .p .non, _, h => cases b <;> simp [tag, bmTag] at h
  | .p (.bool _), _, h => cases b <;> simp [tag, bmTag] at h
  | .p (.int _), _, h => cases b <;> simp [tag, bmTag] at h
  | .p (.tup _), _, h => cases b <;> simp [tag, bmTag] at h
  | .t _, _, h => cases b <;> simp [tag, bmTag] at h
  | .hd, _, h => cases b <;> simp [tag, bmTag] at h
  | .sc, _, h => cases b <;> simp [tag, bmTag] at h
theorem bm_slot (b : Bm) : PlainAttrs (tagT (bmTag b)) ∧ Slot (tagT (bmTag b)) (bmNm b) (bmId b) ∧ typeOf (.builtin (bmId b)) = pure (.type "method_descriptor") := by
  cases b
  · exact ⟨PySem.F.plainAttrs_list, PySem.F.slot_list_append, PySem.F.type_list_append⟩
  · exact ⟨PySem.F.plainAttrs_list, PySem.F.slot_list_pop, PySem.F.type_list_pop⟩
  · exact ⟨PySem.F.plainAttrs_list, PySem.F.slot_list_pop, PySem.F.type_list_pop⟩
  · exact ⟨PySem.F.plainAttrs_list, PySem.F.slot_list_extend, PySem.F.type_list_extend⟩
  · exact ⟨PySem.F.plainAttrs_str, PySem.F.slot_str_index, PySem.F.type_str_index⟩
  · exact ⟨PySem.F.plainAttrs_str, PySem.F.slot_str_join, PySem.F.type_str_join⟩
  · exact ⟨PySem.F.plainAttrs_dict, PySem.F.slot_dict_get, PySem.F.type_dict_get⟩
  · exact ⟨PySem.F.plainAttrs_dict, PySem.F.slot_dict_get, PySem.F.type_dict_get⟩
theorem se_bm0 (O : XOk D X) {b : Bm} {o : Expr} {m : Ex} {apos cpos : Pos} (h : SE D E C X o m) (hb : noCall0 o = true) (hl : (apos.endLine == cpos.line) = true) : SE D E C X (.Call (.Attribute o (bmNm b) apos) [] [] cpos) (.bm b m .nil) := by
  obtain ⟨p1, p2, p3⟩ := bm_slot b
  refine pe_by (pe_bm0 p1 p2 p3 (ms_bm (E := E) O b) h (base_of hb) hl) fun σ H Q ⟨ι, env, s, hs, hn, hp⟩ => ?_
  refine ⟨ι, env, s, hs, hn, (post.bind (rel := relV D) hp).imp fun w H1 ⟨ι1, s1, v, e1, m1, r1, q1⟩ => ?_⟩
  split at q1
  · rename_i ht
    rw [O.hK]
    exact ⟨tyV_of m1 r1 b ht, ι1, s1, v, [], m1, r1, .nil, q1⟩
  · exact q1.elim
theorem se_bm (O : XOk D X) {b : Bm} {o e : Expr} {es : List Expr} {m : Ex} {ms : Exs} {apos cpos : Pos} (h : SE D E C X o m) (ha : SA D E C X (e :: es) ms) (hb : noCall0 o = true) (hl : (apos.endLine == cpos.line) = true) (hp : (e :: es).all pl = true) (hn : (e :: es).length < 30) :
    SE D E C X (.Call (.Attribute o (bmNm b) apos) (e :: es) [] cpos) (.bm b m ms) := by
  obtain ⟨p1, p2, p3⟩ := bm_slot b
  have hp' := hp
  rw [List.all_cons] at hp'
  obtain ⟨h1, h2⟩ := Bool.and_eq_true_iff.mp hp'
  refine pe_by (pe_bm p1 p2 p3 (ms_bm (E := E) O b) h ha (base_of hb) (few_of hp hn) hl (star_of h1) (tail_plain h2)) fun σ H Q ⟨ι, env, s, hs, hn, hp⟩ => ?_
  refine ⟨ι, env, s, hs, hn, (post.bind (rel := relV D) hp).imp fun w H1 ⟨ι1, s1, v, e1, m1, r1, q1⟩ => ?_⟩
  split at q1
  · rename_i ht
    rw [O.hK]
    refine ⟨tyV_of m1 r1 b ht, ι1, env, s1, m1, hn.mono e1, (post.bind (rel := relVs D) q1).imp fun ws H2 ⟨ι2, s2, vs, e2, m2, r2, p2⟩ => ?_⟩
    exact ⟨ι2, s2, v, vs, m2, r1.mono e2.to, r2, p2⟩
  · exact q1.elim
theorem se_joinL (O : XOk D X) {o e : Expr} {m : Ex} {l : Le} {apos cpos : Pos} (h : SE D E C X o m) (ha : SL D E C X e l) (hb : noCall0 o = true) (hl : (apos.endLine == cpos.line) = true) (hp : pl e = true) : SE D E C X (.Call (.Attribute o "join" apos) [e] [] cpos) (.joinL m l) := by
  have h1 : [e].all pl = true := by simp [hp]
  refine pe_by (pe_bm PySem.F.plainAttrs_str PySem.F.slot_str_join PySem.F.type_str_join (show MtR X "str.join" (rJoin X.K) from mt_join) h (pa_cons ha pa_nil (star_of hp)) (base_of hb) (few_of h1 (by simp)) hl (star_of hp) rfl) fun σ H Q ⟨ι, env, s, hs, hn, hp⟩ => ?_
  refine ⟨ι, env, s, hs, hn, (post.bind (rel := relV D) hp).imp fun w H1 ⟨ι1, s1, v, e1, m1, r1, q1⟩ => ?_⟩
  split at q1
  · rename_i ht
    rw [O.hK]
    refine ⟨tyV_of m1 r1 .join ht, ι1, env, s1, m1, hn.mono e1, (post.bind (rel := relL D H1) q1).imp fun w2 H2 ⟨ι2, s2, vs, e2, m2, r2, p2⟩ => ?_⟩
    obtain ⟨q, ws, ew, h0, hq, _, _, _, h5⟩ := r2
    have hv : ∃ z, v = .p (.str z) := by
      cases v with
      | p v => cases v <;> first | exact ⟨_, rfl⟩ | (simp [tag] at ht)
      | r n => simp only [tag] at ht; split at ht <;> cases ht
      | t _ => simp [tag] at ht
      | hd => simp [tag] at ht
      | sc => simp [tag] at ht
    obtain ⟨z, rfl⟩ := hv
    obtain ⟨ew1, ok⟩ := rv_str r1
    subst ew ew1
    exact join_way m2 ok hq h5 p2
  · exact q1.elim
theorem se_dnew {pos : Pos} : SE D E C X (.Dict [] [] pos) .dnew := pe_by pe_dnewK fun σ H Q ⟨ι, env, s, hs, hn, hp⟩ p hp' => post.mkNew (o := .dict []) hp hs hp' fun ι' e => ⟨[], upd_same, Nat.zero_le _, .nil⟩
end
end U
/-! Mp2j: attributes; the statements that store. -/
namespace U
open PySem L2
/-- the classes and fields of the instances -/
structure ClsAll (D : Wd) (X : L2.Cx) : Prop where
  cls : ∀ c, D.okC c = true → Cls X.K (D.cA c)
  na : ∀ c f, D.okC c = true → D.okF f = true → NoAttr X.K (D.cA c) (D.fN f)
  inj : ∀ f g, D.okF f = true → D.okF g = true → D.fN f = D.fN g → f = g
section
variable {D : Wd} {E : XK} {X : L2.Cx} {C : Calls} {ι ι' : Inj} {H H' : Hp} {s : S} {Q : VK}
theorem inst_of {x : Val} {w : V} {c : Nat} (m : Sim D H ι s) (r : RelVal D.K H ι x w) (h : clsOf x s = some c) : ∃ n a dx fs fws, x = .r n ∧ w = .ref a ∧ ι.a[n]? = some a ∧ s.h[n]? = some (.inst c fs) ∧ H a = some (.ins (D.cA c) dx fws) ∧ fs.length ≤ 100 ∧ RelFs D H ι fs fws ∧ D.okC c = true := by
  match x, r, h with
  | .r n, r, h =>
    obtain ⟨a, e, ha⟩ := rv_r r
    simp only [clsOf] at h
    cases ho : s.h[n]? with
    | none => rw [ho] at h; cases h
    | some o =>
      rw [ho] at h
      cases o with
      | list _ => cases h
      | dict _ => cases h
      | inst d fs =>
        cases h
        obtain ⟨dx, ws, h1, h2, h3, h4⟩ := m.inst ha ho
        exact ⟨n, a, dx, fs, ws, rfl, e, ha, ho, h1, h2, h3, h4⟩
  | .p _, _, h => cases h
  | .t _, _, h => cases h
  | .hd, _, h => cases h
  | .sc, _, h => cases h
theorem fld_cls {x v : Val} {f : Nat} (h : fldV x f s = some v) : ∃ c n fs, x = .r n ∧ s.h[n]? = some (.inst c fs) ∧ clsOf x s = some c ∧ fget f fs = some v := by
  unfold fldV at h
  split at h
  · rename_i a
    cases ho : s.h[a]? with
    | none => rw [ho] at h; cases h
    | some o =>
      rw [ho] at h
      cases o with
      | list _ => cases h
      | dict _ => cases h
      | inst d fs => exact ⟨d, a, fs, rfl, ho, by simp [clsOf, ho], h⟩
  · cases h
theorem fset_cls {x v : Val} {f : Nat} {s' : S} (h : fsetV x f v s = some s') : ∃ c n fs, x = .r n ∧ s.h[n]? = some (.inst c fs) ∧ clsOf x s = some c ∧ fs.length < 100 ∧ s' = setO s n (.inst c (fput f v fs)) := by
  unfold fsetV at h
  split at h
  · rename_i a
    cases ho : s.h[a]? with
    | none => rw [ho] at h; cases h
    | some o =>
      rw [ho] at h
      cases o with
      | list _ => cases h
      | dict _ => cases h
      | inst d fs =>
        simp only at h
        split at h
        · rename_i l
          exact ⟨d, a, fs, rfl, ho, by simp [clsOf, ho], l, (Option.some.inj h).symm⟩
        · cases h
  · cases h
theorem fget_of (F : ClsAll D X) {f : Nat} (hf : D.okF f = true) {v : Val} : ∀ {fs : List (Nat × Val)} {ws : List (Str × V)}, RelFs D H ι fs ws → fget f fs = some v → ∃ w, ws.lookup (D.fN f) = some w ∧ RelVal D.K H ι v w
  | [], _, h, e => by simp [fget] at e
  | (g, u) :: r, _, h, e => by
    cases h with
    | @cons _ p _ ws h1 h2 =>
      obtain ⟨⟨k1, k2⟩, k3⟩ := h1
      simp only [fget] at e
      split at e
      · rename_i z
        subst z
        cases e
        exact ⟨p.2, by rw [show p = (p.1, p.2) from rfl, ← k2]; simp [List.lookup], k3⟩
      · rename_i z
        obtain ⟨w, e1, e2⟩ := fget_of F hf h2 e
        refine ⟨w, ?_, e2⟩
        have hne : (D.fN f == p.1) = false := beq_eq_false_iff_ne.mpr fun q => z (F.inj g f k1 hf (k2.trans q.symm))
        rw [show p = (p.1, p.2) from rfl, List.lookup, hne]
        exact e1
theorem fput_of (F : ClsAll D X) {f : Nat} (hf : D.okF f = true) {v : Val} {w : V} (r : RelVal D.K H ι v w) : ∀ {fs : List (Nat × Val)} {ws : List (Str × V)}, RelFs D H ι fs ws → RelFs D H ι (fput f v fs) (putF (D.fN f) w ws)
  | [], _, h => by cases h; exact .cons ⟨⟨hf, rfl⟩, r⟩ .nil
  | (g, u) :: l, _, h => by
    cases h with
    | @cons _ p _ ws h1 h2 =>
      obtain ⟨⟨k1, k2⟩, k3⟩ := h1
      obtain ⟨pn, pv⟩ := p
      simp only at k2
      simp only [fput, putF]
      by_cases z : g = f
      · subst z
        rw [if_pos rfl, if_pos k2.symm]
        exact .cons ⟨⟨hf, k2⟩, r⟩ h2
      · rw [if_neg z, if_neg fun q => z (F.inj g f k1 hf (k2.trans q))]
        exact .cons ⟨⟨k1, k2⟩, k3⟩ (fput_of F hf r h2)
theorem fput_len (f : Nat) (v : Val) : ∀ fs : List (Nat × Val), (fput f v fs).length ≤ fs.length + 1
  | [] => by simp [fput]
  | (g, u) :: r => by
    simp only [fput]
    split
    · simp
    · have := fput_len f v r
      simp; omega
theorem fws_len {fs : List (Nat × Val)} {ws : List (Str × V)} (h : RelFs D H ι fs ws) : ws.length = fs.length := (Paired.length h).symm
theorem se_fld (O : XOk D X) (F : ClsAll D X) {o : Expr} {m : Ex} {f : Nat} {pos : Pos} (hf : D.okF f = true) (h : SE D E C X o m) (hb : noCall0 o = true) : SE D E C X (.Attribute o (D.fN f) pos) (.fld m f) := by
  refine pe_by (pe_fld h (base_of hb)) fun σ H Q ⟨ι, env, s, hs, hn, hp⟩ => ?_
  refine ⟨ι, env, s, hs, hn, (post.bind (rel := relV D) hp).imp fun w H1 ⟨ι1, s1, v, e1, m1, r1, q1⟩ => ?_⟩
  cases z : fldV v f s1 with
  | none => rw [z] at q1; exact q1.elim
  | some u =>
    rw [z] at q1
    obtain ⟨c, n, fs, rfl, ho, hc, hg⟩ := fld_cls z
    obtain ⟨n', a, dx, fs', fws, e, ew, ha, ho', h1, h2, h3, h4⟩ := inst_of m1 r1 hc
    cases e
    rw [ho] at ho'
    cases ho'
    obtain ⟨w', l, r'⟩ := fget_of F hf h3 hg
    exact ⟨a, D.cA c, dx, fws, w', ew, h1, F.cls c h4, F.na c f h4 hf, l, q1.now m1 r'⟩
/-! ### stores -/
theorem ss_asgF (O : XOk D X) (F : ClsAll D X) {o e : Expr} {m v : Ex} {f : Nat} {pos pos' : Pos} (hf : D.okF f = true) (h : SE D E C X o m) (hv : SE D E C X e v) (hc : noComp e = true) : SS D E C X (.Assign [.Attribute o (D.fN f) pos'] e pos) (.asgF m f v) := by
  refine ps_by (ps_fld h hv (swap_of hc)) fun N σ H ⟨ι, env, s, hs, hn, hp⟩ => ?_
  refine ⟨ι, env, s, hs, hn, (postX.then (rel := relV D) hp).imp fun w H1 ⟨ι1, s1, u, e1, m1, r1, p1⟩ => ?_⟩
  refine ⟨ι1, env, s1, m1, hn.mono e1, (postX.then (rel := relV D) p1).imp fun x H2 ⟨ι2, s2, y, e2, m2, r2, p2⟩ => ?_⟩
  cases z : fsetV y f u s2 with
  | none => rw [z] at p2; exact p2.elim
  | some s' =>
    rw [z] at p2
    obtain ⟨c, n, fs, rfl, ho, hcl, l, rfl⟩ := fset_cls z
    obtain ⟨n', a, dx, fs', fws, e, ew, ha, ho', h1, h2, h3, h4⟩ := inst_of m2 r2 hcl
    cases e
    rw [ho] at ho'
    cases ho'
    have hl := fws_len h3
    refine ⟨a, D.cA c, dx, fws, ew, h1, F.cls c h4, F.na c f h4 hf, by omega, ?_⟩
    obtain ⟨m3, e3⟩ := m2.write (u := .ins (D.cA c) dx (putF (D.fN f) w fws)) (o' := .inst c (fput f u fs)) ha ho fun ι' e => ⟨dx, _, upd_same, by have := fput_len f u fs; omega, fput_of F hf ((r1.mono e2.to).mono e) (h3.mono e), h4⟩
    exact p2 _ _ σ e3 m3 (((hn.mono e1).mono e2).mono e3)
/-- o= on values that never change -/
def OpA (D : Wd) (E : XK) (X : L2.Cx) (f : Operator) (o : BOp) : Prop := InOp X f fun x y H Q =>
  ∃ ι s a b, Sim D H ι s ∧ RelVal D.K H ι a x ∧ RelVal D.K H ι b y ∧ post D E ι H (relV D) Q (augop o a b s)
def augOk : BOp → Bool
  | .add => true
  | .sub => true
  | _ => false
theorem inop_or {op : Operator} {r r' : V → V → Hp → VK → Prop} (h : InOp X op r) (h' : InOp X op r') : InOp X op (fun x y H Q => r x y H Q ∨ r' x y H Q) := by
  intro pins s σ H x y u v Q I rx ry q
  rcases q with q | q
  · exact h pins s σ H x y u v Q I rx ry q
  · exact h' pins s σ H x y u v Q I rx ry q
theorem inop_imp {op : Operator} {r r' : V → V → Hp → VK → Prop} (h : InOp X op r) (i : ∀ x y H Q, r' x y H Q → r x y H Q) : InOp X op r' := fun pins s σ H x y u v Q I rx ry q => h pins s σ H x y u v Q I rx ry (i x y H Q q)
theorem opa (o : BOp) (h : augOk o = true) : OpA D E X (bopOf o) o := by
  cases o <;> simp [augOk] at h
  · refine inop_imp (inop_or in_add in_addS) fun x y H Q ⟨ι, s, a, b, m, ra, rb, h⟩ => ?_
    unfold augop at h
    split at h
    · simp only at h
      exact .inl ⟨_, _, rv_int ra, rv_int rb, h.now m (.p (.int _))⟩
    · simp only at h
      split at h
      · rename_i l
        obtain ⟨e1, l1⟩ := rv_str ra
        obtain ⟨e2, l2⟩ := rv_str rb
        refine .inr ⟨_, _, e1, e2, by rw [lim_eq]; simpa [Str.length] using l, ?_⟩
        rw [arr_app]
        exact h.now m (.p (.str _ ⟨by rw [lim_eq]; simpa using l, fun c hc => (List.mem_append.mp hc).elim (l1.2 c) (l2.2 c)⟩))
      · exact h.elim
    · exact h.elim
  · refine inop_imp in_sub fun x y H Q ⟨ι, s, a, b, m, ra, rb, h⟩ => ?_
    unfold augop at h
    split at h
    · simp only at h
      exact ⟨_, _, rv_int ra, rv_int rb, h.now m (.p (.int _))⟩
    · exact h.elim
    · exact h.elim
theorem ss_aug (O : XOk D X) {x : Str} {e : Expr} {m : Ex} {i : Nat} {o : BOp} {pos pos' : Pos} (ho : augOk o = true) (hi : X.N[i]? = some x) (hx : Loc X.env.scope x) (hf : X.fn x = true ∨ X.env.scope.names.lookup x = some .local) (h : SE D E C X e m) : SS D E C X (.AugAssign (.Name x pos') (bopOf o) e pos) (.aug i o m) := by
  refine ps_by (ps_aug O.nd hi hx h (opa (D := D) (E := E) o ho) hf) fun N σ H ⟨ι, env, s, hs, hn, hp⟩ => ?_
  have hp : postX D E ι H N (match env[i]? with
    | some (some x) => (ev C m env s).then fun y s => (augop o x y s).then fun z s => .next (env.set i (some z)) s
    | _ => .bot) := hp
  split at hp
  · rename_i v ev0
    obtain ⟨w, e1, r1⟩ := hn.2 i v ev0
    refine ⟨w, e1, ι, env, s, hs, hn, (postX.then (rel := relV D) hp).imp fun y H1 ⟨ι1, s1, b, e1, m1, rb, p1⟩ => ?_⟩
    refine ⟨ι1, s1, v, b, m1, r1.mono e1.to, rb, (postX.then (rel := relV D) p1).imp fun z H2 ⟨ι2, s2, c, e2, m2, r2, p2⟩ => ?_⟩
    exact p2 ι2 H2 _ Ext.refl m2 (((hn.mono e1).mono e2).set r2)
  · exact hp.elim
theorem ss_augF (O : XOk D X) (F : ClsAll D X) {o e : Expr} {m v : Ex} {f : Nat} {p : BOp} {pos pos' : Pos} (ho : augOk p = true) (hf : D.okF f = true) (h : SE D E C X o m) (hv : SE D E C X e v) : SS D E C X (.AugAssign (.Attribute o (D.fN f) pos') (bopOf p) e pos) (.augF m f p v) := by
  refine ps_by (ps_fldaug h hv (opa (D := D) (E := E) p ho)) fun N σ H ⟨ι, env, s, hs, hn, hp⟩ => ?_
  refine ⟨ι, env, s, hs, hn, (postX.then (rel := relV D) hp).imp fun w H1 ⟨ι1, s1, x, e1, m1, r1, p1⟩ => ?_⟩
  cases z : fldV x f s1 with
  | none => rw [z] at p1; exact p1.elim
  | some y =>
    rw [z] at p1
    obtain ⟨c, n, fs, rfl, ho1, hcl, hg⟩ := fld_cls z
    obtain ⟨n', a, dx, fs', fws, e', ew, ha, ho', h1, h2, h3, h4⟩ := inst_of m1 r1 hcl
    cases e'
    rw [ho1] at ho'
    cases ho'
    obtain ⟨w', l, r'⟩ := fget_of F hf h3 hg
    refine ⟨a, D.cA c, dx, fws, w', ew, h1, F.cls c h4, F.na c f h4 hf, l, ?_⟩
    have p1 : postX D E ι1 H1 N ((ev C v env s1).then fun z s => (augop p y z s).then fun u s => if clsOf (.r n) s1 = clsOf (.r n) s then (match fsetV (.r n) f u s with
      | some s' => .next env s'
      | none => .bot) else .bot) := p1
    refine ⟨ι1, env, s1, m1, hn.mono e1, (postX.then (rel := relV D) p1).imp fun z2 H2 ⟨ι2, s2, b, e2, m2, rb, p2⟩ => ?_⟩
    refine ⟨ι2, s2, y, b, m2, r'.mono e2.to, rb, (postX.then (rel := relV D) p2).imp fun z3 H3 ⟨ι3, s3, u, e3, m3, ru, p3⟩ => ?_⟩
    split at p3
    · rename_i hcc
      cases q : fsetV (.r n) f u s3 with
      | none => rw [q] at p3; exact p3.elim
      | some s' =>
        rw [q] at p3
        obtain ⟨c', n', fs2, e4, ho2, hcl2, l2, rfl⟩ := fset_cls q
        cases e4
        rw [hcl, hcl2] at hcc
        cases hcc
        obtain ⟨n', a', dx2, fs3, fws2, e', ew2, ha2, ho', h1', h2', h3', h4'⟩ := inst_of m3 (.r (e3.get (e2.get ha))) hcl2
        cases e'
        cases ew2
        rw [ho2] at ho'
        cases ho'
        have hl := fws_len h3'
        refine ⟨dx2, fws2, h1', by omega, ?_⟩
        obtain ⟨m5, e5⟩ := m3.write (u := .ins (D.cA c) dx2 (putF (D.fN f) z3 fws2)) (o' := .inst c (fput f u fs2)) ha2 ho2 fun ι' e => ⟨dx2, _, upd_same, by have := fput_len f u fs2; omega, fput_of F hf (ru.mono e) (h3'.mono e), h4'⟩
        exact p3 _ _ σ e5 m5 ((((hn.mono e1).mono e2).mono e3).mono e5)
    · exact p3.elim
/-- a, b = x, y -/
theorem ss_par (O : XOk D X) {i j : Nat} {x y : Str} {a b : Expr} {m n : Ex} {px py pt pt2 pos : Pos} {kt k2 : _} (hi : X.N[i]? = some x) (hj : X.N[j]? = some y) (hij : i ≠ j) (hx : X.env.scope.names.lookup x = some .local) (hy : X.env.scope.names.lookup y = some .local)
    (h1 : SE D E C X a m) (h2 : SE D E C X b n) (ha : pl a = true) (hb : pl b = true) (hw : swappedStores [.Tuple [.Name x px, .Name y py] kt pt] (.Tuple [a, b] k2 pt2) X.env = pure (some [x, y])) :
    SS D E C X (.Assign [.Tuple [.Name x px, .Name y py] kt pt] (.Tuple [a, b] k2 pt2) pos) (.par i j m n) := by
  have hA : SA D E C X [a, b] (.cons m (.cons n .nil)) := sa_cons h1 (sa_cons h2 sa_nil hb) ha
  refine ps_by (ps_par O.calm O.nd hi hj hij hx hy hA hw) fun N σ H ⟨ι, env, s, hs, hn, hp⟩ => ?_
  have hp : postX D E ι H N ((ev C m env s).then fun x s => (ev C n env s).then fun y s => if i < env.length ∧ j < env.length then .next ((env.set i (some x)).set j (some y)) s else .bot) := hp
  refine ⟨ι, env, s, hs, hn, ?_⟩
  show post D E ι H (relVs D) _ ((ev C m env s).bind fun v s => ((ev C n env s).bind fun v s => (U.R.ok [] s : U.R (List Val)).bind fun vs s => .ok (v :: vs) s).bind fun vs s => .ok (v :: vs) s)
  cases z1 : ev C m env s with
  | bot => rw [z1] at hp; exact hp.elim
  | exc x s1 => rw [z1] at hp; exact hp
  | ok v s1 =>
    rw [z1] at hp
    simp only [U.R.bind_ok, U.R.then_ok] at hp ⊢
    cases z2 : ev C n env s1 with
    | bot => rw [z2] at hp; exact hp.elim
    | exc x s1 => rw [z2] at hp; exact hp
    | ok u s2 =>
      rw [z2] at hp
      simp only [U.R.bind_ok, U.R.then_ok] at hp ⊢
      intro ι' H' ws e' m' r
      obtain ⟨w, w2, ew, r1, r2⟩ := pd2 r
      split at hp
      · exact ⟨w, w2, ew, hp ι' H' _ e' m' (((hn.mono e').set r1).set r2)⟩
      · exact hp.elim
/-! o[i] = v -/
theorem pset_or {t t' : TSet} (h : PSet X t) (h' : PSet X t') : PSet X (fun o i v H Q => t o i v H Q ∨ t' o i v H Q) := by
  intro pins s σ H o i v ov iv u Q I ro ri rv q
  rcases q with q | q
  · exact h pins s σ H o i v ov iv u Q I ro ri rv q
  · exact h' pins s σ H o i v ov iv u Q I ro ri rv q
theorem ss_asgS (O : XOk D X) {o i e : Expr} {m k v : Ex} {pos pos' : Pos} (h : SE D E C X o m) (hi : SE D E C X i k) (hv : SE D E C X e v) (hp : pl i = true) (hc : noComp e = true)
    (ha : ∀ v, assign (.Subscript o i pos') X.env v = (do
      let ov ← holding [v] (eval o X.env)
      let iv ← holding [v, ov] (eval i X.env)
      standAt pos'
      holding [v, ov, iv] (setItem ov iv v)
      release [v, ov, iv] []))
    (hs : swapsWithSole [.Subscript o i pos'] e pos.line X.env = pure false) (hw : swappedStores [.Subscript o i pos'] e X.env = pure none)
    (h1 : (assignEach [.Subscript o i pos'] X.env).map (·.2) = [assign (.Subscript o i pos') X.env]) : SS D E C X (.Assign [.Subscript o i pos'] e pos) (.asgS m k v) := by
  refine ps_by (ps_asg hv (pg_sub h hi (pset_or set_list (set_dict O.u1)) ha) hs hw h1) fun N σ H ⟨ι, env, s, hs, hn, hp⟩ => ?_
  refine ⟨ι, env, s, hs, hn, (postX.then (rel := relV D) hp).imp fun w H1 ⟨ι1, s1, u, e1, m1, r1, p1⟩ => ?_⟩
  refine ⟨ι1, env, s1, m1, hn.mono e1, (postX.then (rel := relV D) p1).imp fun x H2 ⟨ι2, s2, y, e2, m2, r2, p2⟩ => ?_⟩
  refine ⟨ι2, env, s2, m2, (hn.mono e1).mono e2, (postX.then (rel := relV D) p2).imp fun x3 H3 ⟨ι3, s3, y3, e3, m3, r3, p3⟩ => ?_⟩
  have ru := (r1.mono e2.to).mono e3.to
  have ry := r2.mono e3.to
  have hn3 := ((hn.mono e1).mono e2).mono e3
  have p3 : postX D E ι3 H3 N (match setV y y3 u s3 with
    | some s => .next env s
    | none => .bot) := p3
  cases z : setV y y3 u s3 with
  | none => rw [z] at p3; exact p3.elim
  | some s' =>
    rw [z] at p3
    unfold setV at z
    split at z
    · rename_i n kk _
      obtain ⟨a, ex, ha⟩ := rv_r ry
      cases ho : s3.h[n]? with
      | none => rw [ho] at z; cases z
      | some ob =>
        rw [ho] at z
        cases ob with
        | inst c fs => cases z
        | list xs =>
          simp only at z
          split at z
          · rename_i j
            obtain ⟨us, w1, w2, w3⟩ := m3.list ha ho
            obtain ⟨q, q1, q2⟩ := Option.map_eq_some_iff.mp z
            subst q2
            have ql := Paired.length w3
            refine .inl ⟨a, us, j, q, ex, rv_int r3, w1, by rw [← ql, ← q1]; rfl, ?_⟩
            obtain ⟨m4, e4⟩ := m3.write (u := .lst (us.set q w)) (o' := .list (xs.set q u)) ha ho fun ι' e => ⟨_, upd_same, by simpa using w2, RelVal.monos e (Pd.set ru q w3)⟩
            exact p3 _ _ σ e4 m4 (hn3.mono e4)
          · cases z
        | dict kvs =>
          simp only at z
          split at z
          · rename_i hk
            cases z
            obtain ⟨us, w1, w2, w3⟩ := m3.dict ha ho
            obtain ⟨q, k1, k2⟩ := key_is (rv_p r3) hk.1
            subst k2
            have ql := Paired.length w3
            refine .inr ⟨a, _, ex, DPut.k w1 (by rw [lim_eq, ← ql]; exact hk.2), ?_⟩
            obtain ⟨m4, e4⟩ := m3.write (u := .dK (putK us q w)) (o' := .dict (dput kk u kvs)) ha ho fun ι' e => ⟨_, upd_same, by rw [lim_eq]; have := dput_len kk u kvs; omega, (rel_put k1 ru w3).mono e⟩
            exact p3 _ _ σ e4 m4 (hn3.mono e4)
          · cases z
    · cases z
end
end U
/-! Mp2k: a call runs on the objects of its arguments alone. -/
namespace U
open PySem L2
section
variable {D : Wd} {E : XK} {ι ι' : Inj} {H H' : Hp} {s : S} {Q : VK}
/-- the addresses of those objects -/
def addrs (ι : Inj) (rs : List Nat) : List Addr := rs.map fun n => ι.a.getD n 0
theorem refs_lt : ∀ {vs : List Val} {ws : List V}, Paired (RelVal D.K H ι) vs ws → ∀ n ∈ refs vs, n < ι.a.length
  | [], _, _, n, h => by simp [refs] at h
  | v :: vs, ws, r, n, h => by
    obtain ⟨w, r', e, r1, r2⟩ := Pd.consL r
    cases v with
    | r k =>
      simp only [refs] at h
      rcases List.mem_cons.mp h with z | z
      · subst z
        obtain ⟨a, _, ha⟩ := rv_r r1
        exact (List.getElem?_eq_some_iff.mp ha).1
      · exact refs_lt r2 n z
    | p _ => simp only [refs] at h; exact refs_lt r2 n h
    | t _ => simp only [refs] at h; exact refs_lt r2 n h
    | hd => simp only [refs] at h; exact refs_lt r2 n h
    | sc => simp only [refs] at h; exact refs_lt r2 n h
theorem addrs_get {rs : List Nat} (hl : ∀ n ∈ rs, n < ι.a.length) {j : Nat} {n : Nat} (h : rs[j]? = some n) : (addrs ι rs)[j]? = ι.a[n]? := by
  have := hl n (List.mem_of_getElem? h)
  rw [addrs, List.getElem?_map, h, List.getElem?_eq_getElem this]
  simp [List.getD_eq_getElem?_getD, this]
theorem addrs_back {rs : List Nat} (hl : ∀ n ∈ rs, n < ι.a.length) {j : Nat} {a : Addr} (h : (addrs ι rs)[j]? = some a) : ∃ n, rs[j]? = some n ∧ ι.a[n]? = some a := by
  have l : j < rs.length := by have := (List.getElem?_eq_some_iff.mp h).1; simpa [addrs] using this
  refine ⟨rs[j], List.getElem?_eq_getElem l, ?_⟩
  rw [← h]
  exact (addrs_get hl (List.getElem?_eq_getElem l)).symm
theorem addrs_mem {rs : List Nat} (hl : ∀ n ∈ rs, n < ι.a.length) {a : Addr} (h : a ∈ addrs ι rs) : a ∈ ι.a := by
  obtain ⟨j, hj, e⟩ := List.mem_iff_getElem.mp h
  obtain ⟨n, _, e2⟩ := addrs_back hl (j := j) (a := a) (by rw [← e]; exact List.getElem?_eq_getElem hj)
  exact List.mem_of_getElem? e2
theorem nodup_of : ∀ {l : List Nat}, nodup l = true → l.Nodup
  | [], _ => .nil
  | a :: l, h => by
    simp only [nodup, Bool.and_eq_true, Bool.not_eq_true', List.contains_eq_mem, decide_eq_false_iff_not] at h
    exact List.nodup_cons.mpr ⟨h.1, nodup_of h.2⟩
theorem addrs_nd (m : Sim D H ι s) {rs : List Nat} (hl : ∀ n ∈ rs, n < ι.a.length) (hn : rs.Nodup) : (addrs ι rs).Nodup := by
  rw [List.nodup_iff_pairwise_ne, addrs, List.pairwise_map]
  refine List.Pairwise.imp_of_mem (fun {a b} ha hb hab e => hab ?_) (List.nodup_iff_pairwise_ne.mp hn)
  have la := hl a ha
  have lb := hl b hb
  simp only [List.getD_eq_getElem?_getD, List.getElem?_eq_getElem la, List.getElem?_eq_getElem lb, Option.getD_some] at e
  exact (List.getElem_inj m.nd).mp e
theorem gather_get {h : List Obj} : ∀ {rs : List Nat} {os : List Obj}, gather h rs = some os → os.length = rs.length ∧ ∀ (j n : Nat), rs[j]? = some n → os[j]? = h[n]?
  | [], os, e => by cases e; exact ⟨rfl, fun j n z => by simp at z⟩
  | a :: rs, os, e => by
    simp only [gather] at e
    obtain ⟨o, e1, e2⟩ := Option.bind_eq_some_iff.mp e
    obtain ⟨os', e3, rfl⟩ := Option.map_eq_some_iff.mp e2
    obtain ⟨i1, i2⟩ := gather_get e3
    refine ⟨by simp [i1], fun j n z => ?_⟩
    cases j with
    | zero => cases z; exact e1.symm
    | succ j => simpa using i2 j n (by simpa using z)
/-- a pure object says nothing of the others -/
theorem pure_val {v : Val} {w : V} {ι' : Inj} (h : v.isP = true) (r : RelVal D.K H ι v w) : RelVal D.K H ι' v w := by
  cases v <;> simp [Val.isP] at h
  exact .p (rv_p r)
theorem pure_vals {ι' : Inj} : ∀ {vs : List Val} {ws : List V}, vs.all Val.isP = true → Paired (RelVal D.K H ι) vs ws → Paired (RelVal D.K H ι') vs ws
  | [], _, _, r => by cases r; exact .nil
  | v :: vs, _, h, r => by
    rw [List.all_cons] at h
    obtain ⟨h1, h2⟩ := Bool.and_eq_true_iff.mp h
    cases r with
    | cons a b => exact .cons (pure_val h1 a) (pure_vals h2 b)
theorem pure_pd {α β : Type} {F : α → β → Prop} {ι' : Inj} : ∀ {vs : List (α × Val)} {ws : List (β × V)}, (vs.all fun q => q.2.isP) = true → Paired (fun p q => F p.1 q.1 ∧ RelVal D.K H ι p.2 q.2) vs ws → Paired (fun p q => F p.1 q.1 ∧ RelVal D.K H ι' p.2 q.2) vs ws
  | [], _, _, r => by cases r; exact .nil
  | v :: vs, _, h, r => by
    rw [List.all_cons] at h
    obtain ⟨h1, h2⟩ := Bool.and_eq_true_iff.mp h
    cases r with
    | cons a b => exact .cons ⟨a.1, pure_val h1 a.2⟩ (pure_pd h2 b)
theorem pure_obj {o : Obj} {a : Addr} {ι' : Inj} (h : o.pure = true) (r : RelObj D H ι o a) : RelObj D H ι' o a := by
  cases o with
  | list xs => obtain ⟨ws, h1, h2, h3⟩ := r; exact ⟨ws, h1, h2, pure_vals h h3⟩
  | dict kvs => obtain ⟨ws, h1, h2, h3⟩ := r; exact ⟨ws, h1, h2, pure_pd (F := fun a b => KeyIs a b) h h3⟩
  | inst c fs => obtain ⟨dx, ws, h1, h2, h3, h4⟩ := r; exact ⟨dx, ws, h1, h2, pure_pd (F := fun a b => D.okF a = true ∧ D.fN a = b) h h3, h4⟩
/-- the small state -/
abbrev smallI (ι : Inj) (rs : List Nat) : Inj := { ι with a := addrs ι rs }
theorem small_sim (m : Sim D H ι s) {rs : List Nat} {os : List Obj} (hl : ∀ n ∈ rs, n < ι.a.length) (hn : rs.Nodup) (hg : gather s.h rs = some os) (hp : os.all Obj.pure = true) : Sim D H (smallI ι rs) ⟨os, s.d, s.sc⟩ := by
  obtain ⟨g1, g2⟩ := gather_get hg
  refine ⟨by simp [addrs, g1], addrs_nd m hl hn, fun n o a h1 h2 => ?_, ?_, fun a h => ?_⟩
  · obtain ⟨k, e1, e2⟩ := addrs_back hl h2
    have e3 := g2 n k e1
    have h1 : os[n]? = some o := h1
    rw [h1] at e3
    exact pure_obj (List.all_eq_true.mp hp o (List.mem_of_getElem? h1)) (m.obj k o a e3.symm e2)
  · have := m.hand
    cases e : s.d with
    | none => rw [e] at this; exact this
    | some d =>
      rw [e] at this
      obtain ⟨p, q, e1, h1, h2, h3, h4, h5⟩ := this
      exact ⟨p, q, e1, h1, h2, fun z => h3 (addrs_mem hl z), fun z => h4 (addrs_mem hl z), h5⟩
  · obtain ⟨h1, h2⟩ := m.scr a h
    refine ⟨h1, ?_⟩
    rcases h2 with h2 | ⟨h2, h3, h4⟩
    · exact .inl h2
    · exact .inr ⟨h2, fun z => h3 (addrs_mem hl z), h4⟩
theorem small_vals {rs : List Nat} (hl : ∀ n ∈ rs, n < ι.a.length) : ∀ {vs : List Val} {ws : List V} (k : Nat), Paired (RelVal D.K H ι) vs ws → vs.all flatA = true → (∀ j n, (refs vs)[j]? = some n → rs[k + j]? = some n) → Paired (RelVal D.K H (smallI ι rs)) (renum k vs) ws
  | [], ws, k, r, _, _ => by cases r; exact .nil
  | v :: vs, ws, k, r, hf, hr => by
    rw [List.all_cons] at hf
    obtain ⟨f1, f2⟩ := Bool.and_eq_true_iff.mp hf
    obtain ⟨w, r', e, r1, r2⟩ := Pd.consL r
    subst e
    cases v with
    | p x => exact .cons (.p (rv_p r1)) (small_vals hl k r2 f2 hr)
    | r n =>
      obtain ⟨a, ew, ha⟩ := rv_r r1
      subst ew
      refine .cons (.r ?_) (small_vals hl (k + 1) r2 f2 fun j n h => ?_)
      · have z : rs[k]? = some n := hr 0 n rfl
        show (addrs ι rs)[k]? = some a
        rw [addrs_get hl z]; exact ha
      · have := hr (j + 1) n (by simpa [refs] using h)
        rw [← this]; congr 1; omega
    | t x => simp [flatA] at f1
    | hd => cases r1 with | hd h => exact .cons (.hd h) (small_vals hl k r2 f2 hr)
    | sc => cases r1 with | sc h => exact .cons (.sc h) (small_vals hl k r2 f2 hr)
theorem scatter_len : ∀ (rs : List Nat) (h os : List Obj), (scatter h rs os).length = h.length
  | [], h, os => by cases os <;> rfl
  | a :: rs, h, [] => rfl
  | a :: rs, h, o :: os => by show (scatter (h.set a o) rs os).length = _; rw [scatter_len rs]; simp
theorem scatter_out : ∀ (rs : List Nat) (h os : List Obj) (n : Nat), n ∉ rs → (scatter h rs os)[n]? = h[n]?
  | [], h, os, n, _ => by cases os <;> rfl
  | a :: rs, h, [], n, _ => rfl
  | a :: rs, h, o :: os, n, hn => by
    show (scatter (h.set a o) rs os)[n]? = _
    rw [scatter_out rs _ _ n fun z => hn (List.mem_cons_of_mem _ z), List.getElem?_set_ne]
    intro z; subst z; exact hn List.mem_cons_self
theorem scatter_in : ∀ (rs : List Nat) (h os : List Obj) (j n : Nat), rs.Nodup → os.length = rs.length → rs[j]? = some n → n < h.length → (scatter h rs os)[n]? = os[j]?
  | [], h, os, j, n, _, _, e, _ => by simp at e
  | a :: rs, h, [], j, n, _, l, _, _ => by simp at l
  | a :: rs, h, o :: os, j, n, nd, l, e, hn => by
    obtain ⟨n1, n2⟩ := List.nodup_cons.mp nd
    show (scatter (h.set a o) rs os)[n]? = _
    cases j with
    | zero =>
      cases e
      rw [scatter_out rs _ _ _ n1, List.getElem?_set_self hn]; rfl
    | succ j =>
      have e : rs[j]? = some n := by simpa using e
      rw [scatter_in rs _ os j n n2 (by simpa using l) e (by simpa using hn)]; rfl
/-- the state behind the run: big again -/
theorem big_sim (m : Sim D H ι s) {rs : List Nat} {s' : S} {ι₀ : Inj} (hl : ∀ n ∈ rs, n < ι.a.length) (hn : rs.Nodup) (e : Ext D.K (smallI ι rs) H ι₀ H') (m' : Sim D H' ι₀ s') (hp : (s'.h.take rs.length).all Obj.pure = true) (hk : rs.length ≤ s'.h.length) :
    Sim D H' { ι with hd := ι₀.hd } ⟨scatter s.h rs (s'.h.take rs.length), s'.d, s.sc⟩ ∧ Ext D.K ι H { ι with hd := ι₀.hd } H' ∧
      (∀ j a, ι₀.a[j]? = some a → rs.length ≤ j → H a = none) := by
  have hfresh : ∀ j a, ι₀.a[j]? = some a → rs.length ≤ j → H a = none := fun j a ha hj => by
    rcases e.new a (List.mem_of_getElem? ha) with z | z
    · exfalso
      obtain ⟨i, hi, ei⟩ := List.mem_iff_getElem.mp z
      have li : i < rs.length := by simpa [addrs] using hi
      have e1 : ι₀.a[i]? = some a := e.get (by rw [← ei]; exact List.getElem?_eq_getElem hi)
      obtain ⟨p1, q1⟩ := List.getElem?_eq_some_iff.mp ha
      obtain ⟨p2, q2⟩ := List.getElem?_eq_some_iff.mp e1
      have : j = i := (List.getElem_inj m'.nd).mp (q1.trans q2.symm)
      omega
    · exact z
  have hE : Ext D.K ι H { ι with hd := ι₀.hd } H' := by
    refine ⟨⟨[], by simp⟩, fun a h => .inl h, e.hd, e.hdn, rfl, fun a o h n nh => e.keep a o h (fun z => n (addrs_mem hl z)) nh, e.stay, e.tup⟩
  refine ⟨⟨?_, m.nd, fun n o a h1 h2 => ?_, ?_, fun a h => ?_⟩, hE, hfresh⟩
  · show ι.a.length = (scatter _ _ _).length
    rw [scatter_len]; exact m.len
  · have h1 : (scatter s.h rs (s'.h.take rs.length))[n]? = some o := h1
    have h2 : ι.a[n]? = some a := h2
    by_cases hm : n ∈ rs
    · obtain ⟨j, hj, ej⟩ := List.mem_iff_getElem.mp hm
      have ej' : rs[j]? = some n := by rw [← ej]; exact List.getElem?_eq_getElem hj
      have ln : n < s.h.length := by rw [← m.len]; exact hl n hm
      rw [scatter_in rs s.h _ j n hn (by simp; omega) ej' ln] at h1
      have h3 : s'.h[j]? = some o := by rw [← h1, List.getElem?_take]; simp [hj]
      have h4 : ι₀.a[j]? = some a := e.get ((addrs_get hl ej').trans h2)
      exact pure_obj (List.all_eq_true.mp hp o (List.mem_of_getElem? h1)) (m'.obj j o a h3 h4)
    · rw [scatter_out _ _ _ _ hm] at h1
      have ro := m.obj n o a h1 h2
      obtain ⟨u, hu⟩ := ro.ex
      refine ro.mono hE.to ?_
      rw [hu]
      refine e.keep a u hu (fun z => ?_) fun q hq => ?_
      · obtain ⟨j, hj, ej⟩ := List.mem_iff_getElem.mp z
        obtain ⟨n', e1, e2⟩ := addrs_back hl (j := j) (a := a) (by rw [← ej]; exact List.getElem?_eq_getElem hj)
        obtain ⟨p1, q1⟩ := List.getElem?_eq_some_iff.mp e2
        obtain ⟨p2, q2⟩ := List.getElem?_eq_some_iff.mp h2
        have : n' = n := (List.getElem_inj m.nd).mp (q1.trans q2.symm)
        subst this
        exact hm (List.mem_of_getElem? e1)
      · have := m.hand
        cases ed : s.d with
        | none =>
          rw [ed] at this
          have hq : ι.hd = some (a, q) := hq
          rw [this] at hq; cases hq
        | some d =>
          rw [ed] at this
          obtain ⟨p, q', e1, hh⟩ := this
          have hq : ι.hd = some (a, q) := hq
          rw [e1] at hq
          cases hq
          exact hh.2.2.1 (List.mem_of_getElem? h2)
  · have := m'.hand
    show match s'.d with
      | none => ι₀.hd = none
      | some d => ∃ a b, ι₀.hd = some (a, b) ∧ HandAt H' ι.a d a b
    cases ed : s'.d with
    | none => rw [ed] at this; exact this
    | some d =>
      rw [ed] at this
      obtain ⟨p, q, e1, h1, h2, h3, h4, h5⟩ := this
      have out : p ∉ ι.a ∧ q ∉ ι.a := by
        cases eh : ι.hd with
        | none =>
          obtain ⟨z1, z2⟩ := e.hdn eh p q e1
          exact ⟨m.notMem z1, m.notMem z2⟩
        | some hq =>
          have z := e.hd hq eh
          rw [e1] at z
          cases z
          have := m.hand
          cases ed' : s.d with
          | none => rw [ed'] at this; rw [this] at eh; cases eh
          | some d' =>
            rw [ed'] at this
            obtain ⟨p', q', e2, hh⟩ := this
            rw [e2] at eh
            cases eh
            exact ⟨hh.2.2.1, hh.2.2.2.1⟩
      exact ⟨p, q, e1, h1, h2, out.1, out.2, h5⟩
  · have h : ι.sc = some a := h
    obtain ⟨h1, h2⟩ := m.scr a h
    obtain ⟨h1', h2'⟩ := m'.scr a (by rw [e.sc]; exact h)
    refine ⟨h1, ?_⟩
    rcases h2 with h2 | ⟨⟨o, ho⟩, h3, h4⟩
    · exact .inl h2
    · refine .inr ⟨⟨o, e.keep a _ ho (fun z => h3 (addrs_mem hl z)) h4⟩, h3, fun q hq => ?_⟩
      have hq : ι₀.hd = some (a, q) := hq
      cases eh : ι.hd with
      | none =>
        have z := (e.hdn eh a q hq).1
        rw [ho] at z; cases z
      | some hq' =>
        have z := e.hd hq' eh
        rw [hq] at z
        cases z
        exact h4 q eh
/-- one new object of the small state is told of -/
theorem land_add {s0 : S} {ι1 : Inj} {s' : S} {ι₀ : Inj} {o : Obj} {a : Addr} {j : Nat} (m : Sim D H' ι1 s0) (m' : Sim D H' ι₀ s') (hd : ι1.hd = ι₀.hd) (ha : ι₀.a[j]? = some a) (ho : s'.h[j]? = some o) (hp : o.pure = true) (hn : a ∉ ι1.a) :
    Sim D H' (ι1.add a) { s0 with h := s0.h ++ [o] } := by
  refine m.add hn (fun p q z => ?_) (pure_obj hp (m'.obj j o a ho ha))
  rw [hd] at z
  have := m'.hand
  cases ed : s'.d with
  | none => rw [ed] at this; rw [this] at z; cases z
  | some d =>
    rw [ed] at this
    obtain ⟨p', q', e1, h1, h2, h3, h4, h5⟩ := this
    rw [e1] at z
    cases z
    have am := List.mem_of_getElem? ha
    exact ⟨fun y => h3 (by rw [← y]; exact am), fun y => h4 (by rw [← y]; exact am)⟩
theorem land_t {rs : List Nat} {s' : S} {ι₀ : Inj} {k : Nat} (m' : Sim D H' ι₀ s') (hfresh : ∀ j a, ι₀.a[j]? = some a → k ≤ j → H a = none) : ∀ {vs : List Val} {ws : List V} {h h' : List Obj} {us : List Val} {ι1 : Inj} {s0 : S}, Paired (RelVal D.K H' ι₀) vs ws → (refs vs).Nodup →
    landV.landT k rs s'.h h vs = some (us, h') → Sim D H' ι1 { s0 with h := h } → ι1.hd = ι₀.hd → ι1.sc = ι₀.sc → Ext D.K ι H ι1 H' → (∀ j a, j ∈ refs vs → ι₀.a[j]? = some a → a ∉ ι1.a) →
    ∃ ι2, Sim D H' ι2 { s0 with h := h' } ∧ Ext D.K ι H ι2 H' ∧ Ext0 D.K ι1 H' ι2 H' ∧ Paired (RelVal D.K H' ι2) us ws
  | [], ws, h, h', us, ι1, s0, r, _, e, m, hd, hs, hE, _ => by
    cases r
    cases e
    exact ⟨ι1, m, hE, Ext.refl.to, .nil⟩
  | v :: vs, ws, h, h', us, ι1, s0, r, nd, e, m, hd, hs, hE, hn => by
    obtain ⟨w, ws', ew, r1, r2⟩ := Pd.consL r
    subst ew
    cases v with
    | p x =>
      simp only [landV.landT] at e
      obtain ⟨q, e1, e2⟩ := Option.map_eq_some_iff.mp e
      cases e2
      obtain ⟨ι2, a1, a2, a3, a4⟩ := land_t m' hfresh r2 nd e1 m hd hs hE hn
      exact ⟨ι2, a1, a2, a3, .cons (.p (rv_p r1)) a4⟩
    | r j =>
      simp only [landV.landT] at e
      split at e
      · cases e
      rename_i hj
      obtain ⟨o, e1, e2⟩ := Option.bind_eq_some_iff.mp e
      split at e2
      · rename_i hp
        obtain ⟨q, e3, e4⟩ := Option.map_eq_some_iff.mp e2
        cases e4
        obtain ⟨a, ew, ha⟩ := rv_r r1
        subst ew
        have nd : (j :: refs vs).Nodup := nd
        obtain ⟨nd1, nd2⟩ := List.nodup_cons.mp nd
        have hna := hn j a (by simp [refs]) ha
        have m2 := land_add (o := o) m m' hd ha e1 hp hna
        have hE2 : Ext D.K ι H (ι1.add a) H' := hE.add (hfresh j a ha (by omega))
        obtain ⟨ι2, a1, a2, a3, a4⟩ := land_t (s0 := s0) m' hfresh r2 nd2 e3 m2 hd hs hE2 fun i b hi hb z => by
          rcases List.mem_append.mp z with z | z
          · exact hn i b (by simp [refs, hi]) hb z
          · have : b = a := by simpa using z
            subst this
            obtain ⟨p1, q1⟩ := List.getElem?_eq_some_iff.mp ha
            obtain ⟨p2, q2⟩ := List.getElem?_eq_some_iff.mp hb
            have : j = i := (List.getElem_inj m'.nd).mp (q1.trans q2.symm)
            subst this
            exact nd1 hi
        refine ⟨ι2, a1, a2, ⟨fun h => a3.get ((Ext0.add (K := D.K) (H := H')).get h), a3.hd, a3.sc, a3.tup⟩, .cons (.r ?_) a4⟩
        refine a3.get ?_
        have : ι1.a.length = h.length := m.len
        rw [← this]
        exact Inj.get_add
      · cases e2
    | t x => simp [landV.landT] at e
    | hd => simp [landV.landT] at e
    | sc => simp [landV.landT] at e
theorem refs_rel {vs : List Val} {ws : List V} (r : Paired (RelVal D.K H ι) vs ws) (j : Nat) (h : j ∈ refs vs) : ∃ a, ι.a[j]? = some a := ⟨_, List.getElem?_eq_getElem (refs_lt r j h)⟩
theorem landT_ge {k : Nat} {rs : List Nat} {small : List Obj} : ∀ {vs us : List Val} {h h' : List Obj}, landV.landT k rs small h vs = some (us, h') → ∀ j ∈ refs vs, k ≤ j
  | [], us, h, h', e, j, hj => by simp [refs] at hj
  | v :: vs, us, h, h', e, j, hj => by
    cases v with
    | p x =>
      simp only [landV.landT] at e
      obtain ⟨q, e1, e2⟩ := Option.map_eq_some_iff.mp e
      exact landT_ge (h' := q.2) (us := q.1) e1 j hj
    | r i =>
      simp only [landV.landT] at e
      split at e
      · cases e
      rename_i hi
      obtain ⟨o, e1, e2⟩ := Option.bind_eq_some_iff.mp e
      split at e2
      · obtain ⟨q, e3, e4⟩ := Option.map_eq_some_iff.mp e2
        rcases List.mem_cons.mp hj with z | z
        · omega
        · exact landT_ge (h' := q.2) (us := q.1) e3 j z
      · cases e2
    | t x => simp [landV.landT] at e
    | hd => simp [landV.landT] at e
    | sc => simp [landV.landT] at e
/-- a call on the objects of its arguments alone says what it says on the whole heap -/
theorem foot_ok {run : List Val → S → R Val} {vs : List Val} {ws : List V} (m : Sim D H ι s) (r : Paired (RelVal D.K H ι) vs ws) (h : post D E ι H (relV D) Q (foot run vs s)) :
    ∃ ι₀ s₀ vs₀, Sim D H ι₀ s₀ ∧ Paired (RelVal D.K H ι₀) vs₀ ws ∧ post D E ι₀ H (relV D) Q (run vs₀ s₀) := by
  unfold foot at h
  cases hg : gather s.h (refs vs) with
  | none => simp only [hg] at h; exact h.elim
  | some os =>
    simp only [hg] at h
    split at h
    rotate_left
    · exact h.elim
    rename_i hc
    obtain ⟨hc1, hc2⟩ := Bool.and_eq_true_iff.mp hc
    obtain ⟨hc0, hc3⟩ := Bool.and_eq_true_iff.mp hc1
    have hl := refs_lt r
    have hn := nodup_of hc0
    have m0 := small_sim m hl hn hg hc2
    refine ⟨smallI ι (refs vs), ⟨os, s.d, s.sc⟩, renum 0 vs, m0, small_vals hl 0 r hc3 (fun j n e => by rw [Nat.zero_add]; exact e), ?_⟩
    cases hr : run (renum 0 vs) ⟨os, s.d, s.sc⟩ with
    | bot => simp only [hr] at h; exact h.elim
    | exc x s' =>
      simp only [hr] at h
      split at h
      · rename_i hp
        obtain ⟨hp1, hp2⟩ := Bool.and_eq_true_iff.mp hp
        intro ι' H' c d e' m' re
        obtain ⟨b1, b2, b3⟩ := big_sim m hl hn e' m' hp1 (of_decide_eq_true hp2)
        exact h _ _ c d b2 b1 re
      · exact h.elim
    | ok v s' =>
      simp only [hr] at h
      split at h
      rotate_left
      · exact h.elim
      rename_i hp
      obtain ⟨hp1, hp2⟩ := Bool.and_eq_true_iff.mp hp
      have hp2 := of_decide_eq_true hp2
      intro ι' H' w e' m' rv
      obtain ⟨b1, b2, b3⟩ := big_sim m hl hn e' m' hp1 hp2
      have hsc : ({ ι with hd := ι'.hd } : Inj).sc = ι'.sc := e'.sc.symm
      cases v with
      | p x => exact h _ _ w b2 b1 (.p (rv_p rv))
      | r j =>
        obtain ⟨a, ew, ha⟩ := rv_r rv
        subst ew
        simp only [landV] at h
        by_cases hj : j < (refs vs).length
        · rw [if_pos hj] at h
          have e1 : (refs vs)[j]? = some (refs vs)[j] := List.getElem?_eq_getElem hj
          rw [e1] at h
          refine h _ _ _ b2 b1 (.r ?_)
          show ι.a[(refs vs)[j]]? = some a
          rw [← addrs_get hl e1]
          have lj : j < (addrs ι (refs vs)).length := by simpa [addrs] using hj
          obtain ⟨b, hb⟩ : ∃ b, (addrs ι (refs vs))[j]? = some b := ⟨_, List.getElem?_eq_getElem lj⟩
          have z2 : ι'.a[j]? = some b := e'.get hb
          rw [ha] at z2
          rw [hb, ← z2]
        · rw [if_neg hj] at h
          cases ho : s'.h[j]? with
          | none => rw [ho] at h; exact h.elim
          | some o =>
            rw [ho] at h
            simp only [Option.bind_some] at h
            by_cases hpo : o.pure = true
            · rw [if_pos hpo] at h
              have hf := b3 j a ha (by omega)
              have hna : a ∉ ι.a := m.notMem hf
              have m2 := land_add b1 m' rfl ha ho hpo hna
              refine h _ _ _ (b2.add hf) m2 (.r ?_)
              have : ι.a.length = (scatter s.h (refs vs) (s'.h.take (refs vs).length)).length := b1.len
              rw [← this]
              exact Inj.get_add (ι := { ι with hd := ι'.hd })
            · rw [if_neg hpo] at h; exact h.elim
      | t xs =>
        obtain ⟨a, us, ew, t, l, rp⟩ := rv_t rv
        subst ew
        simp only [landV] at h
        by_cases hnd : nodup (refs xs) = true
        · rw [if_pos hnd] at h
          cases hq : landV.landT (refs vs).length (refs vs) s'.h (scatter s.h (refs vs) (s'.h.take (refs vs).length)) xs with
          | none => rw [hq] at h; exact h.elim
          | some q =>
            rw [hq] at h
            obtain ⟨ys, h'⟩ := q
            obtain ⟨ι2, a1, a2, a3, a4⟩ := land_t (s0 := ⟨[], s'.d, s.sc⟩) m' b3 rp (nodup_of hnd) hq b1 rfl hsc b2 fun j b hj hb z => by
              exact m.notMem (b3 j b hb (landT_ge hq j hj)) z
            refine h _ _ _ a2 a1 (.t t ?_ a4)
            rw [Paired.length a4, ← Paired.length rp]; exact l
        · rw [if_neg hnd] at h; exact h.elim
      | hd =>
        cases rv with
        | hd z => exact h _ _ _ b2 b1 (.hd z)
      | sc => simp only [landV] at h; exact h.elim
end
end U
/-! Mp2l: calls, methods, instances; defs. -/
namespace U
open PySem L2
/-- what a def promises: what its run says -/
def spOf (D : Wd) (run : List Val → S → R Val) : Sp := fun ws H Q E => ∃ ι s vs, Sim D H ι s ∧ Paired (RelVal D.K H ι) vs ws ∧ post D E ι H (relV D) Q (run vs s)
abbrev FOk (P : Program) (w : World) (D : Wd) (mg : Str → Option Value) (base : Heap) (k : Nat) (f : Addr) (fd : FuncData) (ps : List Str) (run : List Val → S → R Val) : Prop := FnOk P w D.K mg base (L2.CX P w) k f fd ps (spOf D run)
section
variable {D : Wd} {E : XK} {X : L2.Cx} {C : Calls} {ι : Inj} {H : Hp} {s : S} {Q : VK}
theorem sp_foot {run : List Val → S → R Val} {ws : List V} (h : spOf D (foot run) ws H Q E) : spOf D run ws H Q E := by
  obtain ⟨ι, s, vs, m, r, h⟩ := h
  exact foot_ok m r h
theorem FOk.foot {P : Program} {w : World} {mg : Str → Option Value} {base : Heap} {k : Nat} {f : Addr} {fd : FuncData} {ps : List Str} {run : List Val → S → R Val} (h : FOk P w D mg base k f fd ps run) : FOk P w D mg base k f fd ps (foot run) :=
  h.imp fun vs H Q E q => sp_foot q
/-- a def that may be called here by the name x -/
structure FnAt (D : Wd) (E : XK) (X : L2.Cx) (x : Str) (g : List Val → S → R Val) : Prop where
  ok : ∃ k fa fd ps, FnOk X.prog X.w X.K X.mg X.base (L2.CX X.prog X.w) k fa fd ps (spOf D g) ∧ Room k X.A ∧ X.mg x = some (.ref fa) ∧ PySem.W.keepIn X.K (.ref fa) = true ∧ Binds X.K fd ps []
  pass : Passes (L2.CX X.prog X.w) X E
theorem se_call {x : Str} {f : Nat} {p pos : Pos} {e : Expr} {es : List Expr} {ms : Exs} (F : FnAt D E X x (C.fn f)) (hg : Gl X x) (hd : (x == ("__debug__" : Str)) = false) (ha : SA D E C X (e :: es) ms) (hp : (e :: es).all pl = true) : SE D E C X (.Call (.Name x p) (e :: es) [] pos) (.call f ms) := by
  obtain ⟨k, fa, fd, ps, F1, F2, F3, F4, F5⟩ := F.ok
  have hp' := hp
  rw [List.all_cons] at hp'
  obtain ⟨h1, h2⟩ := Bool.and_eq_true_iff.mp hp'
  refine pe_by (pe_call F1 F2 hg F3 F4 F5 .nil F.pass ha hd (star_of h1) (tail_plain h2)) fun σ H Q ⟨ι, env, s, hs, hn, hp⟩ => ?_
  refine ⟨ι, env, s, hs, hn, (post.bind (rel := relVs D) hp).imp fun ws H1 ⟨ι1, s1, vs, e1, m1, r1, p1⟩ => ?_⟩
  show spOf D (C.fn f) (ws ++ []) H1 Q E
  rw [List.append_nil]
  exact ⟨ι1, s1, vs, m1, r1, p1⟩
/-- a call of any such def -/
theorem pe_callG {x : Str} {g : List Val → S → R Val} {p pos : Pos} {e : Expr} {es : List Expr} {ms : Exs} (F : FnAt D E X x g) (hg : Gl X x) (hd : (x == ("__debug__" : Str)) = false) (ha : SA D E C X (e :: es) ms) (hp : (e :: es).all pl = true) : PE X (.Call (.Name x p) (e :: es) [] pos) (tG D E (relV D) fun env s => (evs C ms env s).bind g) := by
  obtain ⟨k, fa, fd, ps, F1, F2, F3, F4, F5⟩ := F.ok
  have hp' := hp
  rw [List.all_cons] at hp'
  obtain ⟨h1, h2⟩ := Bool.and_eq_true_iff.mp hp'
  refine pe_by (pe_call F1 F2 hg F3 F4 F5 .nil F.pass ha hd (star_of h1) (tail_plain h2)) fun σ H Q ⟨ι, env, s, hs, hn, hp⟩ => ?_
  refine ⟨ι, env, s, hs, hn, (post.bind (rel := relVs D) hp).imp fun ws H1 ⟨ι1, s1, vs, e1, m1, r1, p1⟩ => ?_⟩
  show spOf D g (ws ++ []) H1 Q E
  rw [List.append_nil]
  exact ⟨ι1, s1, vs, m1, r1, p1⟩
def handG (vs : List Val) (s : S) : R Val := match vs with
  | [a] => handV a s
  | _ => .bot
def drawG (vs : List Val) (s : S) : R Val := match vs with
  | [a, b] => drawV a b s
  | _ => .bot
theorem se_hand {x : Str} {p pos : Pos} {e : Expr} {m : Ex} (F : FnAt D E X x handG) (hg : Gl X x) (hd : (x == ("__debug__" : Str)) = false) (ha : SE D E C X e m) (hp : pl e = true) : SE D E C X (.Call (.Name x p) [e] [] pos) (.hand m) := by
  refine pe_by (pe_callG F hg hd (sa_cons ha sa_nil hp) (by simp [hp])) fun σ H Q ⟨ι, env, s, hs, hn, h⟩ => ⟨ι, env, s, hs, hn, ?_⟩
  have h : post D E ι H (relV D) Q ((ev C m env s).bind fun x s => handV x s) := h
  show post D E ι H (relV D) Q (((ev C m env s).bind fun v s => (U.R.ok [] s : U.R (List Val)).bind fun vs s => .ok (v :: vs) s).bind handG)
  rw [bind_assoc]
  exact h
theorem se_draw {x : Str} {p pos : Pos} {e e' : Expr} {m m' : Ex} (F : FnAt D E X x drawG) (hg : Gl X x) (hd : (x == ("__debug__" : Str)) = false) (ha : SE D E C X e m) (ha' : SE D E C X e' m') (hp : pl e = true) (hp' : pl e' = true) : SE D E C X (.Call (.Name x p) [e, e'] [] pos) (.draw m m') := by
  refine pe_by (pe_callG F hg hd (sa_cons ha (sa_cons ha' sa_nil hp') hp) (all2 hp hp')) fun σ H Q ⟨ι, env, s, hs, hn, h⟩ => ⟨ι, env, s, hs, hn, ?_⟩
  have h : post D E ι H (relV D) Q ((ev C m env s).bind fun x s => (ev C m' env s).bind fun y s => drawV x y s) := h
  show post D E ι H (relV D) Q (((ev C m env s).bind fun v s => ((ev C m' env s).bind fun v s => (U.R.ok [] s : U.R (List Val)).bind fun vs s => .ok (v :: vs) s).bind fun vs s => .ok (v :: vs) s).bind drawG)
  simp only [bind_assoc]
  exact h
theorem se_call0 {x : Str} {f : Nat} {p pos : Pos} (F : FnAt D E X x (C.fn f)) (hg : Gl X x) (hd : (x == ("__debug__" : Str)) = false) : SE D E C X (.Call (.Name x p) [] [] pos) (.call f .nil) := by
  obtain ⟨k, fa, fd, ps, F1, F2, F3, F4, F5⟩ := F.ok
  refine pe_by (pe_call0 F1 F2 hg F3 F4 F5 .nil F.pass hd) fun σ H Q ⟨ι, env, s, hs, hn, hp⟩ => ?_
  exact ⟨ι, s, [], hs, .nil, hp⟩
/-! ### methods -/
theorem mcall_eq {o : Expr} {m : Str} {apos pos : Pos} {es : List Expr} (hb : noCall0 o = true) (hl : (apos.endLine == pos.line) = true) (hp : es.all pl = true) (hn : es.length < 30) : eval (.Call (.Attribute o m apos) es [] pos) X.env = (do
      let ov ← eval o X.env
      standAt apos.atName
      let (f, first) ← holding [ov] (getMethod ov m (plainOf o X.env))
      callWith pos f first (backTo pos (starEach es X.env)) (backToKw pos (keywordEach [] X.env))) := by
  rw [arm_eval_Call, base_of hb]
  have hf : methodCallForm (es.length + ([] : List Keyword).length) (backTo pos (starEach es X.env)) (backToKw pos (keywordEach [] X.env)) = true := by
    show ((backTo pos (starEach es X.env)).all (!·.1) && true && decide (es.length + 0 + 0 < 30)) = true
    rw [few_plain hp, decide_eq_true (by omega)]; rfl
  congr 1; funext ov; congr 1; funext _
  exact mcall_line hf hl
/-- a method of the class c, by its name -/
structure MtAt (D : Wd) (E : XK) (X : L2.Cx) (c : Nat) (x : Str) (g : List Val → S → R Val) : Prop where
  ok : ∃ k fa fd ps, FnOk X.prog X.w X.K X.mg X.base (L2.CX X.prog X.w) k fa fd ps (spOf D g) ∧ Room k X.A ∧ Meth X.K (D.cA c) x fa ∧ Binds X.K fd ps []
  pass : Passes (L2.CX X.prog X.w) X E
  c : Cls X.K (D.cA c)
  no : ∀ f, D.okF f = true → D.fN f ≠ x
theorem look_no {x : Str} {fs : List (Nat × Val)} {ws : List (Str × V)} (no : ∀ f, D.okF f = true → D.fN f ≠ x) (h : RelFs D H ι fs ws) : ws.lookup x = none := by
  induction h with
  | nil => rfl
  | cons a b ih =>
    rename_i p q _ _
    obtain ⟨⟨k1, k2⟩, k3⟩ := a
    have : (x == q.1) = false := beq_eq_false_iff_ne.mpr fun z => no _ k1 (k2.trans z.symm)
    rw [show q = (q.1, q.2) from rfl, List.lookup, this]
    exact ih
theorem isOf_cls {c : Nat} {x : Val} (h : isOf c x s = true) : clsOf x s = some c := by
  unfold isOf at h
  split at h
  · rename_i a
    cases ho : s.h[a]? with
    | none => rw [ho] at h; simp at h
    | some o =>
      rw [ho] at h
      cases o with
      | list _ => simp at h
      | dict _ => simp at h
      | inst d fs =>
        have : d = c := by simpa using h
        subst this
        simp [clsOf, ho]
  · simp at h
theorem se_meth {x : Str} {c f : Nat} {apos pos : Pos} {o : Expr} {es : List Expr} {m : Ex} {ms : Exs} (F : MtAt D E X c x (C.fn f)) (h : SE D E C X o m) (ha : SA D E C X es ms) (hb : noCall0 o = true) (hl : (apos.endLine == pos.line) = true) (hp : es.all pl = true) (hn : es.length < 30)
    (h0 : es = [] → ms = .nil) : SE D E C X (.Call (.Attribute o x apos) es [] pos) (.meth c f m ms) := by
  obtain ⟨k, fa, fd, ps, F1, F2, F3, F4⟩ := F.ok
  cases es with
  | nil =>
    cases h0 rfl
    refine pe_by (pe_meth0 h F.c F3 F1 F2 F4 .nil F.pass (mcall_eq hb hl hp hn)) fun σ H Q ⟨ι, env, s, hs, hn, hp⟩ => ?_
    refine ⟨ι, env, s, hs, hn, (post.bind (rel := relV D) hp).imp fun w H1 ⟨ι1, s1, v, e1, m1, r1, q1⟩ => ?_⟩
    split at q1
    · rename_i ht
      obtain ⟨n, a, dx, fs, fws, rfl, ew, ha', ho, h1, h2, h3, h4⟩ := inst_of m1 r1 (isOf_cls ht)
      exact ⟨a, dx, fws, ew, h1, look_no F.no h3, ι1, s1, [.r n], m1, .cons r1 .nil, q1⟩
    · exact q1.elim
  | cons e es =>
    have hp' := hp
    rw [List.all_cons] at hp'
    obtain ⟨h1, h2⟩ := Bool.and_eq_true_iff.mp hp'
    refine pe_by (pe_meth h F.c F3 F1 F2 F4 .nil F.pass ha (star_of h1) (tail_plain h2) (mcall_eq hb hl hp hn)) fun σ H Q ⟨ι, env, s, hs, hn, hp⟩ => ?_
    refine ⟨ι, env, s, hs, hn, (post.bind (rel := relV D) hp).imp fun w H1 ⟨ι1, s1, v, e1, m1, r1, q1⟩ => ?_⟩
    split at q1
    · rename_i ht
      obtain ⟨n, a, dx, fs, fws, rfl, ew, ha', ho, h1, h2, h3, h4⟩ := inst_of m1 r1 (isOf_cls ht)
      refine ⟨a, dx, fws, ew, h1, look_no F.no h3, ι1, env, s1, m1, hn.mono e1, (post.bind (rel := relVs D) q1).imp fun ws H2 ⟨ι2, s2, vs, e2, m2, r2, p2⟩ => ?_⟩
      show spOf D (C.fn f) (w :: (ws ++ [])) H2 Q E
      rw [List.append_nil]
      exact ⟨ι2, s2, .r n :: vs, m2, .cons (r1.mono e2.to) r2, p2⟩
    · exact q1.elim
/-! ### instances -/
/-- a class that may be made here by the name x: its __init__ runs on the new object -/
structure MkAt (D : Wd) (E : XK) (X : L2.Cx) (c : Nat) (x : Str) (g : List Val → S → R Val) : Prop where
  ok : ∃ k fa fd ps, FnOk X.prog X.w X.K X.mg X.base (L2.CX X.prog X.w) k fa fd ps (spOf D g) ∧ Room (k + 1) X.A ∧ X.mg x = some (.ref (D.cA c)) ∧ Mk X.K (D.cA c) fa ∧ Binds X.K fd ps []
  pass : Passes (L2.CX X.prog X.w) X E
  c : D.okC c = true
/-- an instance made, as the interpreter has it: g runs on the new object -/
def mkG (g : List Val → S → R Val) (c : Nat) (as : List Val) (s : S) : R Val :=
  (g (.r s.h.length :: as) { s with h := s.h ++ [.inst c []] }).bind fun v s' => match v with
    | .p .non => .ok (.r s.h.length) s'
    | _ => .bot
theorem sp_make {g : List Val → S → R Val} {c : Nat} {vs : List Val} {ws : List V} (hc : D.okC c = true) (m : Sim D H ι s) (r : Paired (RelVal D.K H ι) vs ws) (h : post D E ι H (relV D) Q (mkG g c vs s)) :
    ∀ x dx, H x = none → H dx = none → dx ≠ x → spOf D g (.ref x :: ws) (upd (upd H dx (.own x)) x (.ins (D.cA c) dx [])) (fun v H2 => v = .non ∧ Q (.ref x) H2) E := by
  intro x dx hx hdx hne
  have e1 := Ext.fresh (K := D.K) (ι := ι) (o := .own x) hdx
  have m1 := m.fresh (o := .own x) hdx
  have hx1 : upd H dx (.own x) x = none := by rw [upd_ne (Ne.symm hne)]; exact hx
  obtain ⟨m2, e2⟩ := m1.new (u := .ins (D.cA c) dx []) (o := .inst c []) hx1 fun ι' e => ⟨dx, [], upd_same, Nat.zero_le _, .nil, hc⟩
  have e3 := e1.trans e2
  refine ⟨ι.add x, _, .r s.h.length :: vs, m2, .cons (.r (by rw [← m.len]; exact Inj.get_add)) (RelVal.monos e3.to r), ?_⟩
  have h2 := h.ext e3
  unfold mkG at h2
  refine (post.bind (rel := relV D) h2).imp fun w H1 ⟨ι1, s1, v, e4, m4, r4, p4⟩ => ?_
  split at p4
  · refine ⟨rv_non r4, p4.now m4 (.r ?_)⟩
    refine e4.get ?_
    rw [← m.len]; exact Inj.get_add
  · exact p4.elim
theorem se_mk {x : Str} {c : Nat} {g : List Val → S → R Val} {p pos : Pos} {es : List Expr} {ms : Exs} (F : MkAt D E X c x g) (hC : ∀ vs s, C.ini c vs s = mkG g c vs s ∨ C.ini c vs s = .bot) (hg : Gl X x) (hd : (x == ("__debug__" : Str)) = false) (ha : SA D E C X es ms) (hp : es.all pl = true)
    (h0 : es = [] → ms = .nil) : SE D E C X (.Call (.Name x p) es [] pos) (.mk c ms) := by
  obtain ⟨k, fa, fd, ps, F1, F2, F3, F4, F5⟩ := F.ok
  cases es with
  | nil =>
    cases h0 rfl
    refine pe_by (pe_make0 F4 F1 F2 hg F3 F5 .nil F.pass hd) fun σ H Q ⟨ι, env, s, hs, hn, hp⟩ => ?_
    have hp : post D E ι H (relV D) Q (C.ini c [] s) := hp
    rcases hC [] s with z | z
    · rw [z] at hp
      exact sp_make F.c hs .nil hp
    · rw [z] at hp; exact hp.elim
  | cons e es =>
    have hp' := hp
    rw [List.all_cons] at hp'
    obtain ⟨h1, h2⟩ := Bool.and_eq_true_iff.mp hp'
    refine pe_by (pe_make F4 F1 F2 hg F3 F5 .nil F.pass ha hd (star_of h1) (tail_plain h2)) fun σ H Q ⟨ι, env, s, hs, hn, hp⟩ => ?_
    refine ⟨ι, env, s, hs, hn, (post.bind (rel := relVs D) hp).imp fun ws H1 ⟨ι1, s1, vs, e1, m1, r1, p1⟩ => ?_⟩
    rw [List.append_nil]
    rcases hC vs s1 with z | z
    · rw [z] at p1
      exact sp_make F.c m1 r1 p1
    · rw [z] at p1; exact p1.elim
/-! ### a def -/
theorem start_rel {as : List Val} {ws : List V} {N : List Str} {ps ns : Nat} (r : Paired (RelVal D.K H ι) as ws) (hl : as.length = ps) (hN : N.length = ns) : RelEnv D.K H ι (as.map some ++ List.replicate (ns - ps) none) (L2.start N ws) := by
  have ql := Paired.length r
  refine ⟨by simp [L2.start]; omega, fun i v e => ?_⟩
  by_cases h : i < as.length
  · rw [List.getElem?_append_left (by simpa using h), List.getElem?_map] at e
    obtain ⟨v', e1, e2⟩ := Option.map_eq_some_iff.mp e
    cases e2
    obtain ⟨w, q1, q2⟩ := Pd.get r e1
    refine ⟨w, ?_, q2⟩
    unfold L2.start
    rw [List.getElem?_append_left (by simp; omega), List.getElem?_map, q1]; rfl
  · rw [List.getElem?_append_right (by simpa using h), List.getElem?_replicate] at e
    split at e <;> cases e
theorem post_body {P : Prog} {C : Calls} {f : Nat} {vs : List Val} (h : post D E ι H (relV D) Q (body P C f vs s)) : ∃ F, P.fns[f]? = some F ∧ vs.length = F.ps ∧
    postX D E ι H { nx := fun _ H' => Q .non H', rt := Q } (exs C F.body (vs.map some ++ List.replicate (F.ns - F.ps) none) s) := by
  unfold body at h
  cases e : P.fns[f]? with
  | none => rw [e] at h; exact h.elim
  | some F =>
    rw [e] at h
    simp only at h
    by_cases hl : vs.length = F.ps
    · rw [if_pos hl] at h
      refine ⟨F, rfl, hl, ?_⟩
      cases z : exs C F.body (vs.map some ++ List.replicate (F.ns - F.ps) none) s with
      | next env s1 => rw [z] at h; exact fun ι' H' σ e m r => h ι' H' .non e m (.p .non)
      | ret v s1 => rw [z] at h; exact h
      | exc x s1 => rw [z] at h; exact h
      | brk env s1 => rw [z] at h; exact h.elim
      | cnt env s1 => rw [z] at h; exact h.elim
      | bot => rw [z] at h; exact h.elim
    · rw [if_neg hl] at h; exact h.elim
/-- the def's promise from its body's soundness -/
theorem fok_of {P : Program} {w : World} {mg : Str → Option Value} {base : Heap} {x qual : Str} {st : Stmt} {fa : Addr} {fd : FuncData} {N ps : List Str} {k : Nat} {Pr : Prog} {C : Calls} {f : Nat} {F : Fn} (hF : Fun D.K x qual st fa fd) (S : FnScope N ps (defScope st)) (hf : Pr.fns[f]? = some F)
    (hps : ps.length = F.ps) (hns : N.length = F.ns)
    (hb : ∀ (X : L2.Cx) (E : XK), X.prog = P → X.w = w → X.K = D.K → X.mg = mg → X.base = base → X.N = N → X.env.scope = defScope st → XOk D X → Room k X.A → X.stack = X.env :: X.outer → X.env.frame = some X.env.locals → Takes X (fun cls d _ H => E cls d H) → PassesOwn (model X.prog X.w) X.A X.env X.xe → (∀ x, X.fn x = true) → SB D E C X (defBody st) F.body) :
    FOk P w D mg base (k + 1) fa fd ps (body Pr C f) := by
  refine hF.okX S (fun vs H Q E ⟨ι, s, as, m, r, h⟩ => ?_) fun cdv A outer s H ws Q E hr ⟨ι, s1, vs, m, r, h⟩ => ?_
  · obtain ⟨F', e, hl, _⟩ := post_body h
    rw [hf] at e
    cases e
    rw [← Paired.length r, hl, hps]
  · obtain ⟨F', e, hl, hp⟩ := post_body h
    rw [hf] at e
    cases e
    refine ⟨_, hb _ E rfl rfl rfl rfl rfl rfl rfl ⟨rfl, rfl, S.nd, ⟨k, hr⟩⟩ hr rfl rfl (takes_of rfl rfl rfl rfl) (passes_of rfl) (fun _ => rfl), ι, _, s1, m, start_rel r hl hns, hp⟩
end
end U
/-! Mp2m: the check that ties the text to the small language. -/
namespace U
open PySem L2
abbrev tp {α : Type} (s : Str) (a : α) : Str × α := (s, a)
structure Tab where
  gl : List (Str × PV)
  fns : List (Str × Nat)
  cls : List (Str × Nat)
  mth : List (Str × (Nat × Nat))
  fld : List (Str × Nat)
  exs : List (Str × (Nat × Nat))
  cat : List (Str × Nat)
  handN : Str
  drawN : Str
def blNames : List Str := ["len", "abs", "int", "str", "tuple", "list", "dict", "sorted", "ord", "max", "min", "all", "any", "sum", "isinstance", "range", "bool"]
def fbB : Option Scope → Str → Bool
  | none, _ => true
  | some s, x => s.names.lookup x == some .cell
def GlIs (v : PV) (u : Option Value) : Prop := match v with
  | .int i => ∃ t, u = some (.int i t)
  | .str l => StrOk l ∧ ∃ t, u = some (.str ⟨l.toArray⟩ t)
  | _ => False
structure CtxOk (D : Wd) (E : XK) (C : Calls) (X : L2.Cx) (T : Tab) (N : List Str) (sc : Scope) (fb : Option Scope) : Prop where
  O : XOk D X
  hN : X.N = N
  hsc : X.env.scope = sc
  hfb : ∀ x, fbB fb x = true → X.fn x = true
  F : ClsAll D X
  gl : ∀ x v, T.gl.lookup x = some v → GlIs v (X.mg x)
  bl : ∀ x ∈ blNames, X.mg x = none
  fns : ∀ x f, T.fns.lookup x = some f → FnAt D E X x (C.fn f)
  cls : ∀ x c, T.cls.lookup x = some c → ∃ g, MkAt D E X c x g ∧ ∀ vs s, C.ini c vs s = mkG g c vs s ∨ C.ini c vs s = .bot
  mth : ∀ x c f, T.mth.lookup x = some (c, f) → MtAt D E X c x (C.fn f)
  fld : ∀ x f, T.fld.lookup x = some f → D.okF f = true ∧ D.fN f = x
  hand : T.handN ≠ "" → FnAt D E X T.handN handG
  draw : T.drawN ≠ "" → FnAt D E X T.drawN drawG
theorem FnAt.blk {D : Wd} {E : XK} {X : L2.Cx} {x : Str} {g : List Val → S → R Val} (h : FnAt D E X x g) (s : Shared) (H : Hp) (scope : Scope) (e : PySem.Env) (fp : List Addr) : FnAt D E0' (X.blk s H scope e fp) x g := ⟨h.ok, passL⟩
theorem FnAt.tr {D : Wd} {E : XK} {X : L2.Cx} {x : Str} {g : List Val → S → R Val} (h : FnAt D E X x g) (pn : List (Addr × PySem.Obj)) (xe : Value → Shared → Prop) : FnAt D E0' (X.tr pn xe) x g := ⟨h.ok, passL⟩
theorem CtxOk.tr {D : Wd} {E : XK} {C : Calls} {X : L2.Cx} {T : Tab} {N : List Str} {sc : Scope} {fb : Option Scope} (c : CtxOk D E C X T N sc fb) (pn : List (Addr × PySem.Obj)) (xe : Value → Shared → Prop) : CtxOk D E0' C (X.tr pn xe) T N sc fb where
  O := ⟨c.O.hK, c.O.calm, c.O.nd, c.O.room⟩
  hN := c.hN
  hsc := c.hsc
  hfb := c.hfb
  F := ⟨c.F.cls, c.F.na, c.F.inj⟩
  gl := c.gl
  bl := c.bl
  fns := fun x f h => (c.fns x f h).tr pn xe
  cls := fun x k h => let ⟨g, m, q⟩ := c.cls x k h; ⟨g, ⟨m.ok, passL, m.c⟩, q⟩
  mth := fun x k f h => let m := c.mth x k f h; ⟨m.ok, passL, m.c, m.no⟩
  fld := c.fld
  hand := fun h => (c.hand h).tr pn xe
  draw := fun h => (c.draw h).tr pn xe
theorem CtxOk.blk {D : Wd} {E : XK} {C : Calls} {X : L2.Cx} {T : Tab} {N : List Str} {sc : Scope} {fb : Option Scope} (c : CtxOk D E C X T N sc fb) (s : Shared) (H : Hp) (scope : Scope) (cl : List (Str × Addr)) (C' : Addr) (fp : List Addr) :
    CtxOk D E0' C (X.blk s H scope (compEnvC scope cl C' X.env) fp) T N (relS scope sc) (some scope) where
  O := ⟨c.O.hK, c.O.calm, c.O.nd, c.O.room⟩
  hN := c.hN
  hsc := by rw [← c.hsc]; rfl
  hfb := fun x h => h
  F := ⟨c.F.cls, c.F.na, c.F.inj⟩
  gl := c.gl
  bl := c.bl
  fns := fun x f h => (c.fns x f h).blk s H scope _ fp
  cls := fun x k h => let ⟨g, m, q⟩ := c.cls x k h; ⟨g, ⟨m.ok, passL, m.c⟩, q⟩
  mth := fun x k f h => let m := c.mth x k f h; ⟨m.ok, passL, m.c, m.no⟩
  fld := c.fld
  hand := fun h => (c.hand h).blk s H scope _ fp
  draw := fun h => (c.draw h).blk s H scope _ fp
/-! ### the checks -/
def visB (sc : Scope) (x : Str) : Bool := match sc.names.lookup x with
  | some .local => true
  | some .cell => true
  | some .free => true
  | _ => false
def locB (fb : Option Scope) (sc : Scope) (x : Str) : Bool := match sc.names.lookup x with
  | some .local => true
  | some .cell => fbB fb x
  | _ => false
def glB (sc : Scope) (x : Str) : Bool := decide (sc.names.lookup x = some .globalImplicit) && !(x == ("__debug__" : Str))
def bltB (sc : Scope) (x n : Str) : Bool := decide (x = n) && glB sc x
def biName : Bi → Str
  | .len => "len"
  | .abs => "abs"
  | .int => "int"
  | .str => "str"
  | .tuple => "tuple"
  | .list => "list"
  | .dict => "dict"
  | .sorted => "sorted"
  | .ord => "ord"
  | .max2 => "max"
  | .min2 => "min"
def lbName : Lb → Str
  | .all => "all"
  | .any => "any"
  | .tuple => "tuple"
  | .sum => "sum"
  | .len => "len"
  | .sorted => "sorted"
def tyName : Ty → Str
  | .int => "int"
  | .bool => "bool"
  | .str => "str"
  | .tuple => "tuple"
  | .list => "list"
  | .dict => "dict"
  | .cls _ => ""
def strOkB (l : List Nat) : Bool := decide (l.length ≤ 16777216) && l.all fun c => decide (c < 1114112)
def tysB (sc : Scope) : List Ty → List Expr → Bool
  | [], [] => true
  | t :: ts, .Name x _ :: es => isTy t && bltB sc x (tyName t) && tysB sc ts es
  | _, _ => false
def lineB (a p : Pos) : Bool := a.endLine == p.line
mutual
def okG (N : List Str) (sc : Scope) (fb : Option Scope) : Tg → Expr → Bool
  | .var i, e => match e with
    | .Name x _ => decide (N[i]? = some x) && locB fb sc x
    | _ => false
  | .tup ts, e => match e with
    | .Tuple es _ _ => okGs N sc fb ts es
    | _ => false
def okGs (N : List Str) (sc : Scope) (fb : Option Scope) : Tgs → List Expr → Bool
  | .nil, es => es.isEmpty
  | .cons t r, es => match es with
    | e :: es => okG N sc fb t e && okGs N sc fb r es
    | [] => false
end
mutual
def okE (T : Tab) (N : List Str) (sc : Scope) (fb : Option Scope) : Ex → Expr → Bool
  | .lit v, e => match v, e with
    | .int i, .Constant (.int j) _ _ => decide (i = j)
    | .bool i, .Constant (.bool j) _ _ => decide (i = j)
    | .non, .Constant .none _ _ => true
    | .str l, .Constant (.str x) _ _ => decide (x = ⟨l.toArray⟩) && strOkB l
    | .int i, .Name x _ => glB sc x && (match T.gl.lookup x with | some (.int j) => decide (i = j) | _ => false)
    | .str l, .Name x _ => glB sc x && (match T.gl.lookup x with | some (.str j) => decide (l = j) | _ => false)
    | _, _ => false
  | .var i, e => match e with
    | .Name x _ => decide (N[i]? = some x) && visB sc x && !(x == ("__debug__" : Str)) && !(x == ("__classdict__" : Str))
    | _ => false
  | .tup as, e => match e with
    | .Tuple es _ _ => okEs T N sc fb as es
    | _ => false
  | .bin o a b, e => match e with
    | .BinOp x p y _ => decide (p = bopOf o) && okE T N sc fb a x && okE T N sc fb b y
    | _ => false
  | .neg a, e => match e with
    | .UnaryOp .USub x _ => okE T N sc fb a x
    | _ => false
  | .cmp o a b, e => match e with
    | .Compare x [p] [y] _ => decide (p = copOf o) && pl y && okE T N sc fb a x && okE T N sc fb b y
    | _ => false
  | .chain o o' a b c, e => match e with
    | .Compare x [p, p'] [y, z] _ => decide (p = copOf o) && decide (p' = copOf o') && pl z && okE T N sc fb a x && okE T N sc fb b y && okE T N sc fb c z
    | _ => false
  | .and a b, e => match e with
    | .BoolOp .And (x :: y :: r) pos => okE T N sc fb a x && okE T N sc fb b (match r with | [] => y | _ => .BoolOp .And (y :: r) pos)
    | _ => false
  | .or a b, e => match e with
    | .BoolOp .Or (x :: y :: r) pos => okE T N sc fb a x && okE T N sc fb b (match r with | [] => y | _ => .BoolOp .Or (y :: r) pos)
    | _ => false
  | .not a, e => match e with
    | .UnaryOp .Not x _ => okE T N sc fb a x
    | _ => false
  | .ite c a b, e => match e with
    | .IfExp z x y _ => okT T N sc fb c z && okE T N sc fb a x && okE T N sc fb b y
    | _ => false
  | .idx a i, e => match e with
    | .Subscript x y _ => pl y && okE T N sc fb a x && okE T N sc fb i y
    | _ => false
  | .slc a lo hi, e => match e with
    | .Subscript x (.Slice l h none _) _ => okE T N sc fb a x && okO T N sc fb lo l && okO T N sc fb hi h
    | _ => false
  | .rev a, e => match e with
    | .Subscript x (.Slice none none (some (.UnaryOp .USub (.Constant (.int 1) _ _) _)) _) _ => okE T N sc fb a x
    | _ => false
  | .call f as, e => match e with
    | .Call (.Name x _) es [] _ => glB sc x && decide (T.fns.lookup x = some f) && es.all pl && okEs T N sc fb as es
    | _ => false
  | .mk c as, e => match e with
    | .Call (.Name x _) es [] _ => glB sc x && decide (T.cls.lookup x = some c) && es.all pl && okEs T N sc fb as es
    | _ => false
  | .meth c f o as, e => match e with
    | .Call (.Attribute y x ap) es [] p => decide (T.mth.lookup x = some (c, f)) && noCall0 y && lineB ap p && es.all pl && decide (es.length < 30) && okE T N sc fb o y && okEs T N sc fb as es
    | _ => false
  | .fld o f, e => match e with
    | .Attribute y x _ => decide (T.fld.lookup x = some f) && noCall0 y && okE T N sc fb o y
    | _ => false
  | .bi b as, e => match e with
    | .Call (.Name x _) (y :: es) [] _ => bltB sc x (biName b) && biOk b && (y :: es).all pl && okEs T N sc fb as (y :: es)
    | _ => false
  | .isi m ts, e => match e with
    | .Call (.Name y _) [z, w] [] _ => bltB sc y "isinstance" && pl z && okE T N sc fb m z && (match ts, w with
      | [t], .Name x _ => isTy t && bltB sc x (tyName t)
      | ts, .Tuple es _ _ => !ts.isEmpty && decide (ts.length ≤ 100) && tysB sc ts es
      | _, _ => false)
    | _ => false
  | .bm b o as, e => match e with
    | .Call (.Attribute y x ap) es [] p => decide (x = bmNm b) && noCall0 y && lineB ap p && es.all pl && decide (es.length < 30) && okE T N sc fb o y && okEs T N sc fb as es
    | _ => false
  | .lst l, e => okL T N sc fb l e
  | .lb b l, e => match e with
    | .Call (.Name x _) [y] [] _ => bltB sc x (lbName b) && pl y && okL T N sc fb l y
    | _ => false
  | .joinL o l, e => match e with
    | .Call (.Attribute y x ap) [z] [] p => decide (x = "join") && noCall0 y && lineB ap p && pl z && okE T N sc fb o y && okL T N sc fb l z
    | _ => false
  | .dnew, e => match e with
    | .Dict [] [] _ => true
    | _ => false
  | .hand a, e => match e with
    | .Call (.Name x _) [y] [] _ => glB sc x && decide (x = T.handN ∧ x ≠ "") && pl y && okE T N sc fb a y
    | _ => false
  | .draw a b, e => match e with
    | .Call (.Name x _) [y, z] [] _ => glB sc x && decide (x = T.drawN ∧ x ≠ "") && pl y && pl z && okE T N sc fb a y && okE T N sc fb b z
    | _ => false
/-- as a test -/
def okT (T : Tab) (N : List Str) (sc : Scope) (fb : Option Scope) : Ex → Expr → Bool
  | .and a b, e => match e with
    | .BoolOp .And (x :: y :: r) pos => okT T N sc fb a x && okT T N sc fb b (match r with | [] => y | _ => .BoolOp .And (y :: r) pos)
    | _ => false
  | .or a b, e => match e with
    | .BoolOp .Or (x :: y :: r) pos => okT T N sc fb a x && okT T N sc fb b (match r with | [] => y | _ => .BoolOp .Or (y :: r) pos)
    | _ => false
  | .not a, e => match e with
    | .UnaryOp .Not x _ => okT T N sc fb a x
    | _ => false
  | .ite .., _ => false
  | .cmp o a b, e => match e with
    | .Compare x [p] [y] _ => decide (p = copOf o) && pl y && okE T N sc fb a x && okE T N sc fb b y
    | _ => false
  | .chain o o' a b c, e => match e with
    | .Compare x [p, p'] [y, z] _ => decide (p = copOf o) && decide (p' = copOf o') && pl z && okE T N sc fb a x && okE T N sc fb b y && okE T N sc fb c z
    | _ => false
  | .var i, e => match e with
    | .Name x _ => decide (N[i]? = some x) && visB sc x && !(x == ("__debug__" : Str)) && !(x == ("__classdict__" : Str))
    | _ => false
  | .lit v, e => match v, e with
    | .bool i, .Constant (.bool j) _ _ => decide (i = j)
    | .int i, .Constant (.int j) _ _ => decide (i = j)
    | _, _ => false
  | .call f as, e => match e with
    | .Call (.Name x _) es [] _ => glB sc x && decide (T.fns.lookup x = some f) && es.all pl && okEs T N sc fb as es
    | _ => false
  | .meth c f o as, e => match e with
    | .Call (.Attribute y x ap) es [] p => decide (T.mth.lookup x = some (c, f)) && noCall0 y && lineB ap p && es.all pl && decide (es.length < 30) && okE T N sc fb o y && okEs T N sc fb as es
    | _ => false
  | .fld o f, e => match e with
    | .Attribute y x _ => decide (T.fld.lookup x = some f) && noCall0 y && okE T N sc fb o y
    | _ => false
  | .idx a i, e => match e with
    | .Subscript x y _ => pl y && okE T N sc fb a x && okE T N sc fb i y
    | _ => false
  | .slc a lo hi, e => match e with
    | .Subscript x (.Slice l h none _) _ => okE T N sc fb a x && okO T N sc fb lo l && okO T N sc fb hi h
    | _ => false
  | .bin o a b, e => match e with
    | .BinOp x p y _ => decide (p = bopOf o) && okE T N sc fb a x && okE T N sc fb b y
    | _ => false
  | .bi b as, e => match e with
    | .Call (.Name x _) (y :: es) [] _ => bltB sc x (biName b) && biOk b && (y :: es).all pl && okEs T N sc fb as (y :: es)
    | _ => false
  | .isi m ts, e => match e with
    | .Call (.Name y _) [z, w] [] _ => bltB sc y "isinstance" && pl z && okE T N sc fb m z && (match ts, w with
      | [t], .Name x _ => isTy t && bltB sc x (tyName t)
      | ts, .Tuple es _ _ => !ts.isEmpty && decide (ts.length ≤ 100) && tysB sc ts es
      | _, _ => false)
    | _ => false
  | .bm b o as, e => match e with
    | .Call (.Attribute y x ap) es [] p => decide (x = bmNm b) && noCall0 y && lineB ap p && es.all pl && decide (es.length < 30) && okE T N sc fb o y && okEs T N sc fb as es
    | _ => false
  | .lb b l, e => match e with
    | .Call (.Name x _) [y] [] _ => bltB sc x (lbName b) && pl y && okL T N sc fb l y
    | _ => false
  | .draw a b, e => match e with
    | .Call (.Name x _) [y, z] [] _ => glB sc x && decide (x = T.drawN ∧ x ≠ "") && pl y && pl z && okE T N sc fb a y && okE T N sc fb b z
    | _ => false
  | .tup _, _ => false
  | .neg _, _ => false
  | .rev _, _ => false
  | .mk .., _ => false
  | .lst _, _ => false
  | .joinL .., _ => false
  | .dnew, _ => false
  | .hand _, _ => false
def okO (T : Tab) (N : List Str) (sc : Scope) (fb : Option Scope) : Ox → Option Expr → Bool
  | .no, e => e.isNone
  | .some m, e => match e with
    | some x => okE T N sc fb m x
    | none => false
def okEs (T : Tab) (N : List Str) (sc : Scope) (fb : Option Scope) : Exs → List Expr → Bool
  | .nil, es => es.isEmpty
  | .cons m r, es => match es with
    | e :: es => pl e && okE T N sc fb m e && okEs T N sc fb r es
    | [] => false
def okL (T : Tab) (N : List Str) (sc : Scope) (fb : Option Scope) : Le → Expr → Bool
  | .disp as, e => match e with
    | .List es _ => okEs T N sc fb as es
    | _ => false
  | .comp t src c m, e => match e with
    | .ListComp elt [⟨tg, iter, ifs, 0⟩] scope _ => pl iter && okI T N sc fb src iter && blkC N sc scope (t.slots.map fun i => (N.getD i ⟨#[]⟩, i)) && okG N (relS scope sc) (some scope) t tg
      && okC T N (relS scope sc) (some scope) c ifs && okE T N (relS scope sc) (some scope) m elt
    | _ => false
def okC (T : Tab) (N : List Str) (sc : Scope) (fb : Option Scope) : Ox → List Expr → Bool
  | .no, es => es.isEmpty
  | .some m, es => match es with
    | [e] => okT T N sc fb m e
    | _ => false
def okI (T : Tab) (N : List Str) (sc : Scope) (fb : Option Scope) : It → Expr → Bool
  | .ex m, e => okE T N sc fb m e
  | .le l, e => okL T N sc fb l e
  | .rng1 a, e => match e with
    | .Call (.Name x _) [y] [] _ => bltB sc x "range" && pl y && okE T N sc fb a y
    | _ => false
  | .rng2 a b, e => match e with
    | .Call (.Name x _) [y, z] [] _ => bltB sc x "range" && pl y && pl z && okE T N sc fb a y && okE T N sc fb b z
    | _ => false
  | .rng3 a b c, e => match e with
    | .Call (.Name x _) [y, z, w] [] _ => bltB sc x "range" && pl y && pl z && pl w && okE T N sc fb a y && okE T N sc fb b z && okE T N sc fb c w
    | _ => false
  | .enum _, _ => false
  | .srt _, _ => false
end
end U
/-! Mp2n: what passes the check is sound: expressions. -/
namespace U
open PySem L2
section
variable {D : Wd} {E : XK} {X : L2.Cx} {C : Calls} {T : Tab} {N : List Str} {sc : Scope} {fb : Option Scope}
theorem gl_of (c : CtxOk D E C X T N sc fb) {x : Str} (h : glB sc x = true) : Gl X x ∧ (x == ("__debug__" : Str)) = false := by
  unfold glB at h
  obtain ⟨h1, h2⟩ := Bool.and_eq_true_iff.mp h
  refine ⟨?_, by simpa using h2⟩
  show X.env.scope.names.lookup x = _
  rw [c.hsc]
  exact of_decide_eq_true h1
theorem vis_of (c : CtxOk D E C X T N sc fb) {x : Str} (h : visB sc x = true) : Vis X.env.scope x := by
  unfold visB at h
  rw [← c.hsc] at h
  split at h
  · rename_i e; exact .inl e
  · rename_i e; exact .inr (.inl e)
  · rename_i e; exact .inr (.inr e)
  · cases h
theorem loc_of (c : CtxOk D E C X T N sc fb) {x : Str} (h : locB fb sc x = true) : L2.Loc X.env.scope x ∧ (X.fn x = true ∨ X.env.scope.names.lookup x = some .local) := by
  unfold locB at h
  rw [← c.hsc] at h
  split at h
  · rename_i e; exact ⟨.inl e, .inr e⟩
  · rename_i e; exact ⟨.inr e, .inl (c.hfb x h)⟩
  · cases h
theorem blt_of (c : CtxOk D E C X T N sc fb) {x n : Str} {f : Value} (h : bltB sc x n = true) (hn : n ∈ blNames) (hb : bootBuiltins n = some f) (h0 : n ≠ "__name__") : Blt X x f := by
  unfold bltB at h
  obtain ⟨h1, h2⟩ := Bool.and_eq_true_iff.mp h
  have e := of_decide_eq_true h1
  subst e
  obtain ⟨g1, g2⟩ := gl_of c h2
  exact ⟨g1, c.bl _ hn, hb, h0, g2⟩
theorem boots : (bootBuiltins "len" = some (.builtin "len") ∧ bootBuiltins "abs" = some (.builtin "abs") ∧ bootBuiltins "int" = some (.type "int") ∧ bootBuiltins "str" = some (.type "str") ∧ bootBuiltins "tuple" = some (.type "tuple") ∧ bootBuiltins "list" = some (.type "list") ∧
    bootBuiltins "dict" = some (.type "dict") ∧ bootBuiltins "sorted" = some (.builtin "sorted") ∧ bootBuiltins "ord" = some (.builtin "ord") ∧ bootBuiltins "max" = some (.builtin "max") ∧ bootBuiltins "min" = some (.builtin "min")) ∧
    (bootBuiltins "all" = some (.builtin "all") ∧ bootBuiltins "any" = some (.builtin "any") ∧ bootBuiltins "sum" = some (.builtin "sum") ∧ bootBuiltins "isinstance" = some (.builtin "isinstance") ∧ bootBuiltins "bool" = some (.type "bool")) := by decide +kernel
theorem bi_blt (c : CtxOk D E C X T N sc fb) {x : Str} (b : Bi) (h : bltB sc x (biName b) = true) : Blt X x (biVal b) := by
  obtain ⟨⟨a1, a2, a3, a4, a5, a6, a7, a8, a9, a10, a11⟩, _⟩ := boots
  cases b
  · exact blt_of c h (by decide) a1 (by decide)
  · exact blt_of c h (by decide) a2 (by decide)
  · exact blt_of c h (by decide) a3 (by decide)
  · exact blt_of c h (by decide) a4 (by decide)
  · exact blt_of c h (by decide) a5 (by decide)
  · exact blt_of c h (by decide) a6 (by decide)
  · exact blt_of c h (by decide) a7 (by decide)
  · exact blt_of c h (by decide) a8 (by decide)
  · exact blt_of c h (by decide) a9 (by decide)
  · exact blt_of c h (by decide) a10 (by decide)
  · exact blt_of c h (by decide) a11 (by decide)
theorem lb_blt (c : CtxOk D E C X T N sc fb) {x : Str} (b : Lb) (h : bltB sc x (lbName b) = true) : Blt X x (lbVal b) := by
  obtain ⟨⟨a1, a2, a3, a4, a5, a6, a7, a8, a9, a10, a11⟩, ⟨b1, b2, b3, b4, b5⟩⟩ := boots
  cases b
  · exact blt_of c h (by decide) b1 (by decide)
  · exact blt_of c h (by decide) b2 (by decide)
  · exact blt_of c h (by decide) a5 (by decide)
  · exact blt_of c h (by decide) b3 (by decide)
  · exact blt_of c h (by decide) a1 (by decide)
  · exact blt_of c h (by decide) a8 (by decide)
theorem ty_n (c : CtxOk D E C X T N sc fb) {x : Str} {t : Ty} (h0 : isTy t = true) (h : bltB sc x (tyName t) = true) : TyN X t x := by
  obtain ⟨⟨a1, a2, a3, a4, a5, a6, a7, a8, a9, a10, a11⟩, ⟨b1, b2, b3, b4, b5⟩⟩ := boots
  refine ⟨h0, ?_⟩
  cases t
  · exact blt_of c h (by decide) a3 (by decide)
  · exact blt_of c h (by decide) b5 (by decide)
  · exact blt_of c h (by decide) a4 (by decide)
  · exact blt_of c h (by decide) a5 (by decide)
  · exact blt_of c h (by decide) a6 (by decide)
  · exact blt_of c h (by decide) a7 (by decide)
  · simp [isTy] at h0
theorem tys_n (c : CtxOk D E C X T N sc fb) : ∀ {ts : List Ty} {es : List Expr}, tysB sc ts es = true → TyNs X ts es
  | [], es, h => by
    cases es with
    | nil => exact .nil
    | cons e es => simp [tysB] at h
  | t :: ts, es, h => by
    unfold tysB at h
    split at h
    · rename_i q; cases q
    · rename_i q
      cases q
      simp only [Bool.and_eq_true] at h
      exact .cons (ty_n c h.1.1 h.1.2) (tys_n c h.2)
    · cases h
theorem isi_blt (c : CtxOk D E C X T N sc fb) {x : Str} (h : bltB sc x "isinstance" = true) : Blt X x (.builtin "isinstance") := blt_of c h (by decide) boots.2.2.2.2.1 (by decide)
theorem strOk_of {l : List Nat} (h : strOkB l = true) : StrOk l := by
  unfold strOkB at h
  simp only [Bool.and_eq_true, decide_eq_true_eq, List.all_eq_true] at h
  exact ⟨by rw [lim_eq]; exact h.1, h.2⟩
def noStar : Expr → Bool
  | .Starred .. => false
  | _ => true
theorem each_plain {e : Expr} (h : noStar e = true) (es : List Expr) (env : PySem.Env) : assignEach (e :: es) env = (false, assign e env) :: assignEach es env := by
  cases e <;> first | rfl | (simp [noStar] at h)
/-! ### targets -/
theorem okG_star {t : Tg} {e : Expr} (h : okG N sc fb t e = true) : noStar e = true := by
  cases t <;> (unfold okG at h; split at h <;> first | rfl | cases h)
mutual
theorem okG_ok (c : CtxOk D E C X T N sc fb) : ∀ (t : Tg) (e : Expr), okG N sc fb t e = true → PG X e (tgR D.K t)
  | .var i, e, h => by
    unfold okG at h
    split at h
    · rename_i x p
      simp only [Bool.and_eq_true, decide_eq_true_eq] at h
      obtain ⟨l1, l2⟩ := loc_of c h.2
      exact pg_name c.O.nd (by rw [c.hN]; exact h.1) l1 l2
    · cases h
  | .tup ts, e, h => by
    unfold okG at h
    split at h
    · rename_i es k p
      obtain ⟨h1, h2, h3⟩ := okGs_ok c ts es h
      have := pg_tup (k := k) (pos := p) c.O.calm h1 h2 h3
      rw [c.O.hK] at this
      exact this
    · cases h
theorem okGs_ok (c : CtxOk D E C X T N sc fb) : ∀ (t : Tgs) (es : List Expr), okGs N sc fb t es = true → PGs X es (tgsR D.K t) ∧ (assignEach es X.env).length = t.len ∧ (assignEach es X.env).findIdx? (·.1) = none
  | .nil, es, h => by
    unfold okGs at h
    have : es = [] := by simpa using h
    subst this
    exact ⟨pgs_nil, rfl, rfl⟩
  | .cons t r, es, h => by
    unfold okGs at h
    split at h
    · rename_i e es
      simp only [Bool.and_eq_true] at h
      have h1 := okG_ok c t e h.1
      obtain ⟨h2, h3, h4⟩ := okGs_ok c r es h.2
      have hp := each_plain (okG_star h.1) es X.env
      refine ⟨pgs_cons h1 h2 (by rw [hp]; rfl), by rw [hp]; simp [Tgs.len, h3], ?_⟩
      rw [hp, List.findIdx?_cons]
      simp [h4]
    · cases h
end
theorem all_pl : ∀ (ms : Exs) (es : List Expr), okEs T N sc fb ms es = true → es.all pl = true
  | .nil, es, h => by
    unfold okEs at h
    have : es = [] := by simpa using h
    subst this; rfl
  | .cons m r, es, h => by
    unfold okEs at h
    split at h
    · rename_i e es
      simp only [Bool.and_eq_true] at h
      rw [List.all_cons, h.1.1, all_pl r es h.2]; rfl
    · cases h
theorem nil_of {ms : Exs} (h : okEs T N sc fb ms [] = true) : ms = .nil := by
  cases ms with
  | nil => rfl
  | cons m r => unfold okEs at h; cases h
theorem exT_st (c : CtxOk D E C X T N sc fb) {e : Expr} {m : Ex} (h : SE D E C X e m) (he : plT e = true) (hm : exT m = true) : ST D E C X e m := st_plain c.O h he hm
theorem own_snd (l : List Nat) : (l.map fun i => (N.getD i ⟨#[]⟩, i)).map (·.2) = l := by rw [List.map_map]; exact List.map_id _
/-! ### expressions -/
mutual
theorem okE_ok : ∀ (m : Ex) {E : XK} {X : L2.Cx} {sc : Scope} {fb : Option Scope} (c : CtxOk D E C X T N sc fb) (e : Expr), okE T N sc fb m e = true → SE D E C X e m
  | .lit v, E, X, sc, fb, c, e, h => by
    unfold okE at h
    split at h
    · have := of_decide_eq_true h; subst this; exact se_int
    · have := of_decide_eq_true h; subst this; exact se_bool
    · exact se_non
    · simp only [Bool.and_eq_true, decide_eq_true_eq] at h
      rw [h.1]; exact se_str (strOk_of h.2)
    · rename_i i x p
      simp only [Bool.and_eq_true] at h
      obtain ⟨g1, g2⟩ := gl_of c h.1
      obtain ⟨h1, h2⟩ := h
      split at h2
      · rename_i j e
        have := of_decide_eq_true h2; subst this
        obtain ⟨t, q⟩ := c.gl x _ e
        exact se_gint g1 q g2
      · cases h2
    · rename_i i x p
      simp only [Bool.and_eq_true] at h
      obtain ⟨g1, g2⟩ := gl_of c h.1
      obtain ⟨h1, h2⟩ := h
      split at h2
      · rename_i j e
        have := of_decide_eq_true h2; subst this
        obtain ⟨ok, t, q⟩ := c.gl x _ e
        exact se_gstr ok g1 q g2
      · cases h2
    · cases h
  | .var i, E, X, sc, fb, c, e, h => by
    unfold okE at h
    split at h
    · rename_i x p
      simp only [Bool.and_eq_true, decide_eq_true_eq, Bool.not_eq_true'] at h
      obtain ⟨⟨⟨h1, h2⟩, h3⟩, h4⟩ := h
      exact se_var (by rw [c.hN]; exact h1) (vis_of c h2) h3 h4
    · cases h
  | .tup as, E, X, sc, fb, c, e, h => by
    unfold okE at h
    split at h
    · exact se_tup (okEs_ok as c _ h)
    · cases h
  | .bin o a b, E, X, sc, fb, c, e, h => by
    unfold okE at h
    split at h
    · simp only [Bool.and_eq_true, decide_eq_true_eq] at h
      rw [h.1.1]; exact se_bin c.O (okE_ok a c _ h.1.2) (okE_ok b c _ h.2)
    · cases h
  | .neg a, E, X, sc, fb, c, e, h => by
    unfold okE at h
    split at h
    · exact se_neg (okE_ok a c _ h)
    · cases h
  | .cmp o a b, E, X, sc, fb, c, e, h => by
    unfold okE at h
    split at h
    · simp only [Bool.and_eq_true, decide_eq_true_eq] at h
      rw [h.1.1.1]; exact se_cmp c.O (okE_ok a c _ h.1.2) (okE_ok b c _ h.2) h.1.1.2
    · cases h
  | .chain o o' a b d, E, X, sc, fb, c, e, h => by
    unfold okE at h
    split at h
    · simp only [Bool.and_eq_true, decide_eq_true_eq] at h
      obtain ⟨⟨⟨⟨⟨h1, h2⟩, h3⟩, h4⟩, h5⟩, h6⟩ := h
      rw [h1, h2]; exact se_chain c.O (okE_ok a c _ h4) (okE_ok b c _ h5) (okE_ok d c _ h6) h3
    · cases h
  | .and a b, E, X, sc, fb, c, e, h => by
    unfold okE at h
    split at h
    · rename_i x y r pos
      simp only [Bool.and_eq_true] at h
      have h2 := okE_ok b c _ h.2
      refine se_and (okE_ok a c _ h.1) ?_
      cases r with
      | nil => exact se_one h2
      | cons z r => exact h2
    · cases h
  | .or a b, E, X, sc, fb, c, e, h => by
    unfold okE at h
    split at h
    · rename_i x y r pos
      simp only [Bool.and_eq_true] at h
      have h2 := okE_ok b c _ h.2
      refine se_or (okE_ok a c _ h.1) ?_
      cases r with
      | nil => exact se_one h2
      | cons z r => exact h2
    · cases h
  | .not a, E, X, sc, fb, c, e, h => by
    unfold okE at h
    split at h
    · exact se_not (okE_ok a c _ h)
    · cases h
  | .ite k a b, E, X, sc, fb, c, e, h => by
    unfold okE at h
    split at h
    · simp only [Bool.and_eq_true] at h
      exact se_ite (okT_ok k c _ h.1.1).1 (okE_ok a c _ h.1.2) (okE_ok b c _ h.2)
    · cases h
  | .idx a i, E, X, sc, fb, c, e, h => by
    unfold okE at h
    split at h
    · simp only [Bool.and_eq_true] at h
      exact se_idx c.O (okE_ok a c _ h.1.2) (okE_ok i c _ h.2) h.1.1
    · cases h
  | .slc a lo hi, E, X, sc, fb, c, e, h => by
    unfold okE at h
    split at h
    · simp only [Bool.and_eq_true] at h
      exact se_slc c.O (okE_ok a c _ h.1.1) (okO_ok lo c _ h.1.2) (okO_ok hi c _ h.2)
    · cases h
  | .rev a, E, X, sc, fb, c, e, h => by
    unfold okE at h
    split at h
    · exact se_rev c.O (okE_ok a c _ h)
    · cases h
  | .call f as, E, X, sc, fb, c, e, h => by
    unfold okE at h
    split at h
    · rename_i x p es pos
      simp only [Bool.and_eq_true, decide_eq_true_eq] at h
      obtain ⟨⟨⟨h1, h2⟩, h3⟩, h4⟩ := h
      obtain ⟨g1, g2⟩ := gl_of c h1
      cases es with
      | nil => cases nil_of h4; exact se_call0 (c.fns x f h2) g1 g2
      | cons y es => exact se_call (c.fns x f h2) g1 g2 (okEs_ok as c _ h4) h3
    · cases h
  | .mk k as, E, X, sc, fb, c, e, h => by
    unfold okE at h
    split at h
    · rename_i x p es pos
      simp only [Bool.and_eq_true, decide_eq_true_eq] at h
      obtain ⟨⟨⟨h1, h2⟩, h3⟩, h4⟩ := h
      obtain ⟨g1, g2⟩ := gl_of c h1
      obtain ⟨g, M, q⟩ := c.cls x k h2
      exact se_mk M q g1 g2 (okEs_ok as c _ h4) h3 fun z => by subst z; exact nil_of h4
    · cases h
  | .meth k f o as, E, X, sc, fb, c, e, h => by
    unfold okE at h
    split at h
    · rename_i y x ap es p
      simp only [Bool.and_eq_true, decide_eq_true_eq] at h
      obtain ⟨⟨⟨⟨⟨⟨h1, h2⟩, h3⟩, h4⟩, h5⟩, h6⟩, h7⟩ := h
      exact se_meth (c.mth x k f h1) (okE_ok o c _ h6) (okEs_ok as c _ h7) h2 h3 h4 h5 fun z => by subst z; exact nil_of h7
    · cases h
  | .fld o f, E, X, sc, fb, c, e, h => by
    unfold okE at h
    split at h
    · rename_i y x p
      simp only [Bool.and_eq_true, decide_eq_true_eq] at h
      obtain ⟨⟨h1, h2⟩, h3⟩ := h
      obtain ⟨q1, q2⟩ := c.fld x f h1
      rw [← q2]
      exact se_fld c.O c.F q1 (okE_ok o c _ h3) h2
    · cases h
  | .bi b as, E, X, sc, fb, c, e, h => by
    unfold okE at h
    split at h
    · simp only [Bool.and_eq_true] at h
      obtain ⟨⟨⟨h1, h2⟩, h3⟩, h4⟩ := h
      exact se_bi c.O h2 (bi_blt c b h1) (okEs_ok as c _ h4) h3
    · cases h
  | .isi m ts, E, X, sc, fb, c, e, h => by
    unfold okE at h
    split at h
    · simp only [Bool.and_eq_true] at h
      obtain ⟨⟨⟨h1, h2⟩, h3⟩, h4⟩ := h
      have hm := okE_ok m c _ h3
      split at h4
      · simp only [Bool.and_eq_true] at h4
        exact se_isi1 c.O (isi_blt c h1) (ty_n c h4.1 h4.2) hm h2
      · simp only [Bool.and_eq_true, decide_eq_true_eq, Bool.not_eq_true'] at h4
        exact se_isiT c.O (isi_blt c h1) (tys_n c h4.2) h4.1.2 (fun z => by rw [z] at h4; simp at h4) hm h2
      · cases h4
    · cases h
  | .bm b o as, E, X, sc, fb, c, e, h => by
    unfold okE at h
    split at h
    · rename_i y x ap es p
      simp only [Bool.and_eq_true, decide_eq_true_eq] at h
      obtain ⟨⟨⟨⟨⟨⟨h1, h2⟩, h3⟩, h4⟩, h5⟩, h6⟩, h7⟩ := h
      subst h1
      cases es with
      | nil => cases nil_of h7; exact se_bm0 c.O (okE_ok o c _ h6) h2 h3
      | cons z es => exact se_bm c.O (okE_ok o c _ h6) (okEs_ok as c _ h7) h2 h3 h4 h5
    · cases h
  | .lst l, E, X, sc, fb, c, e, h => by
    unfold okE at h
    exact se_lst (okL_ok l c e h)
  | .lb b l, E, X, sc, fb, c, e, h => by
    unfold okE at h
    split at h
    · simp only [Bool.and_eq_true] at h
      exact se_lb c.O (lb_blt c b h.1.1) (okL_ok l c _ h.2) h.1.2
    · cases h
  | .joinL o l, E, X, sc, fb, c, e, h => by
    unfold okE at h
    split at h
    · simp only [Bool.and_eq_true, decide_eq_true_eq] at h
      obtain ⟨⟨⟨⟨⟨h1, h2⟩, h3⟩, h4⟩, h5⟩, h6⟩ := h
      subst h1
      exact se_joinL c.O (okE_ok o c _ h5) (okL_ok l c _ h6) h2 h3 h4
    · cases h
  | .dnew, E, X, sc, fb, c, e, h => by
    unfold okE at h
    split at h
    · exact se_dnew
    · cases h
  | .hand a, E, X, sc, fb, c, e, h => by
    unfold okE at h
    split at h
    · simp only [Bool.and_eq_true, decide_eq_true_eq] at h
      obtain ⟨⟨⟨h1, h2, h0⟩, h3⟩, h4⟩ := h
      subst h2
      obtain ⟨g1, g2⟩ := gl_of c h1
      exact se_hand (c.hand h0) g1 g2 (okE_ok a c _ h4) h3
    · cases h
  | .draw a b, E, X, sc, fb, c, e, h => by
    unfold okE at h
    split at h
    · simp only [Bool.and_eq_true, decide_eq_true_eq] at h
      obtain ⟨⟨⟨⟨⟨h1, h2, h0⟩, h3⟩, h4⟩, h5⟩, h6⟩ := h
      subst h2
      obtain ⟨g1, g2⟩ := gl_of c h1
      exact se_draw (c.draw h0) g1 g2 (okE_ok a c _ h5) (okE_ok b c _ h6) h3 h4
    · cases h
theorem okT_ok : ∀ (m : Ex) {E : XK} {X : L2.Cx} {sc : Scope} {fb : Option Scope} (c : CtxOk D E C X T N sc fb) (e : Expr), okT T N sc fb m e = true → ST D E C X e m ∧ (∀ op es pos, e = .BoolOp op es pos → SW D E C X e m)
  | .and a b, E, X, sc, fb, c, e, h => by
    unfold okT at h
    split at h
    · rename_i x y r pos
      simp only [Bool.and_eq_true] at h
      have h2 := okT_ok b c _ h.2
      have hw : SW D E C X (.BoolOp .And (x :: y :: r) pos) (.and a b) := by
        refine sw_and (okT_ok a c _ h.1).1 ?_
        cases r with
        | nil => exact sw_and1 h2.1
        | cons z r => exact h2.2 _ _ _ rfl
      exact ⟨hw.pt, fun _ _ _ _ => hw⟩
    · cases h
  | .or a b, E, X, sc, fb, c, e, h => by
    unfold okT at h
    split at h
    · rename_i x y r pos
      simp only [Bool.and_eq_true] at h
      have h2 := okT_ok b c _ h.2
      have hw : SW D E C X (.BoolOp .Or (x :: y :: r) pos) (.or a b) := by
        refine sw_or (okT_ok a c _ h.1).1 ?_
        cases r with
        | nil => exact sw_or1 h2.1
        | cons z r => exact h2.2 _ _ _ rfl
      exact ⟨hw.pt, fun _ _ _ _ => hw⟩
    · cases h
  | .not a, E, X, sc, fb, c, e, h => by
    unfold okT at h
    split at h
    · exact ⟨st_not (okT_ok a c _ h).1, fun _ _ _ z => nomatch z⟩
    · cases h
  | .ite .., E, X, sc, fb, c, e, h => by unfold okT at h; cases h
  | .cmp o a b, E, X, sc, fb, c, e, h => by
    unfold okT at h
    split at h
    · simp only [Bool.and_eq_true, decide_eq_true_eq] at h
      rw [h.1.1.1]
      exact ⟨st_cmp c.O (okE_ok a c _ h.1.2) (okE_ok b c _ h.2) h.1.1.2, fun _ _ _ z => nomatch z⟩
    · cases h
  | .chain o o' a b d, E, X, sc, fb, c, e, h => by
    unfold okT at h
    split at h
    · simp only [Bool.and_eq_true, decide_eq_true_eq] at h
      obtain ⟨⟨⟨⟨⟨h1, h2⟩, h3⟩, h4⟩, h5⟩, h6⟩ := h
      rw [h1, h2]
      exact ⟨st_chain c.O (okE_ok a c _ h4) (okE_ok b c _ h5) (okE_ok d c _ h6) h3, fun _ _ _ z => nomatch z⟩
    · cases h
  | .var i, E, X, sc, fb, c, e, h => by
    unfold okT at h
    split at h
    · rename_i x p
      simp only [Bool.and_eq_true, decide_eq_true_eq, Bool.not_eq_true'] at h
      obtain ⟨⟨⟨h1, h2⟩, h3⟩, h4⟩ := h
      exact ⟨exT_st c (se_var (by rw [c.hN]; exact h1) (vis_of c h2) h3 h4) rfl rfl, fun _ _ _ z => nomatch z⟩
    · cases h
  | .lit v, E, X, sc, fb, c, e, h => by
    unfold okT at h
    split at h
    · have := of_decide_eq_true h; subst this; exact ⟨exT_st c se_bool rfl rfl, fun _ _ _ z => nomatch z⟩
    · have := of_decide_eq_true h; subst this; exact ⟨exT_st c se_int rfl rfl, fun _ _ _ z => nomatch z⟩
    · cases h
  | .call f as, E, X, sc, fb, c, e, h => by
    unfold okT at h
    split at h
    · rename_i x p es pos
      simp only [Bool.and_eq_true, decide_eq_true_eq] at h
      obtain ⟨⟨⟨h1, h2⟩, h3⟩, h4⟩ := h
      obtain ⟨g1, g2⟩ := gl_of c h1
      refine ⟨exT_st c ?_ rfl rfl, fun _ _ _ z => nomatch z⟩
      cases es with
      | nil => cases nil_of h4; exact se_call0 (c.fns x f h2) g1 g2
      | cons y es => exact se_call (c.fns x f h2) g1 g2 (okEs_ok as c _ h4) h3
    · cases h
  | .meth k f o as, E, X, sc, fb, c, e, h => by
    unfold okT at h
    split at h
    · rename_i y x ap es p
      simp only [Bool.and_eq_true, decide_eq_true_eq] at h
      obtain ⟨⟨⟨⟨⟨⟨h1, h2⟩, h3⟩, h4⟩, h5⟩, h6⟩, h7⟩ := h
      exact ⟨exT_st c (se_meth (c.mth x k f h1) (okE_ok o c _ h6) (okEs_ok as c _ h7) h2 h3 h4 h5 fun z => by subst z; exact nil_of h7) rfl rfl, fun _ _ _ z => nomatch z⟩
    · cases h
  | .fld o f, E, X, sc, fb, c, e, h => by
    unfold okT at h
    split at h
    · rename_i y x p
      simp only [Bool.and_eq_true, decide_eq_true_eq] at h
      obtain ⟨⟨h1, h2⟩, h3⟩ := h
      obtain ⟨q1, q2⟩ := c.fld x f h1
      rw [← q2]
      exact ⟨exT_st c (se_fld c.O c.F q1 (okE_ok o c _ h3) h2) rfl rfl, fun _ _ _ z => nomatch z⟩
    · cases h
  | .idx a i, E, X, sc, fb, c, e, h => by
    unfold okT at h
    split at h
    · simp only [Bool.and_eq_true] at h
      exact ⟨exT_st c (se_idx c.O (okE_ok a c _ h.1.2) (okE_ok i c _ h.2) h.1.1) rfl rfl, fun _ _ _ z => nomatch z⟩
    · cases h
  | .slc a lo hi, E, X, sc, fb, c, e, h => by
    unfold okT at h
    split at h
    · simp only [Bool.and_eq_true] at h
      exact ⟨exT_st c (se_slc c.O (okE_ok a c _ h.1.1) (okO_ok lo c _ h.1.2) (okO_ok hi c _ h.2)) rfl rfl, fun _ _ _ z => nomatch z⟩
    · cases h
  | .bin o a b, E, X, sc, fb, c, e, h => by
    unfold okT at h
    split at h
    · simp only [Bool.and_eq_true, decide_eq_true_eq] at h
      rw [h.1.1]
      exact ⟨exT_st c (se_bin c.O (okE_ok a c _ h.1.2) (okE_ok b c _ h.2)) rfl rfl, fun _ _ _ z => nomatch z⟩
    · cases h
  | .bi b as, E, X, sc, fb, c, e, h => by
    unfold okT at h
    split at h
    · simp only [Bool.and_eq_true] at h
      obtain ⟨⟨⟨h1, h2⟩, h3⟩, h4⟩ := h
      exact ⟨exT_st c (se_bi c.O h2 (bi_blt c b h1) (okEs_ok as c _ h4) h3) rfl rfl, fun _ _ _ z => nomatch z⟩
    · cases h
  | .isi m ts, E, X, sc, fb, c, e, h => by
    unfold okT at h
    split at h
    · simp only [Bool.and_eq_true] at h
      obtain ⟨⟨⟨h1, h2⟩, h3⟩, h4⟩ := h
      have hm := okE_ok m c _ h3
      refine ⟨exT_st c ?_ rfl rfl, fun _ _ _ z => nomatch z⟩
      split at h4
      · simp only [Bool.and_eq_true] at h4
        exact se_isi1 c.O (isi_blt c h1) (ty_n c h4.1 h4.2) hm h2
      · simp only [Bool.and_eq_true, decide_eq_true_eq, Bool.not_eq_true'] at h4
        exact se_isiT c.O (isi_blt c h1) (tys_n c h4.2) h4.1.2 (fun z => by rw [z] at h4; simp at h4) hm h2
      · cases h4
    · cases h
  | .bm b o as, E, X, sc, fb, c, e, h => by
    unfold okT at h
    split at h
    · rename_i y x ap es p
      simp only [Bool.and_eq_true, decide_eq_true_eq] at h
      obtain ⟨⟨⟨⟨⟨⟨h1, h2⟩, h3⟩, h4⟩, h5⟩, h6⟩, h7⟩ := h
      subst h1
      refine ⟨exT_st c ?_ rfl rfl, fun _ _ _ z => nomatch z⟩
      cases es with
      | nil => cases nil_of h7; exact se_bm0 c.O (okE_ok o c _ h6) h2 h3
      | cons z es => exact se_bm c.O (okE_ok o c _ h6) (okEs_ok as c _ h7) h2 h3 h4 h5
    · cases h
  | .lb b l, E, X, sc, fb, c, e, h => by
    unfold okT at h
    split at h
    · simp only [Bool.and_eq_true] at h
      exact ⟨exT_st c (se_lb c.O (lb_blt c b h.1.1) (okL_ok l c _ h.2) h.1.2) rfl rfl, fun _ _ _ z => nomatch z⟩
    · cases h
  | .draw a b, E, X, sc, fb, c, e, h => by
    unfold okT at h
    split at h
    · simp only [Bool.and_eq_true, decide_eq_true_eq] at h
      obtain ⟨⟨⟨⟨⟨h1, h2, h0⟩, h3⟩, h4⟩, h5⟩, h6⟩ := h
      subst h2
      obtain ⟨g1, g2⟩ := gl_of c h1
      exact ⟨exT_st c (se_draw (c.draw h0) g1 g2 (okE_ok a c _ h5) (okE_ok b c _ h6) h3 h4) rfl rfl, fun _ _ _ z => nomatch z⟩
    · cases h
  | .tup _, E, X, sc, fb, c, e, h => by unfold okT at h; cases h
  | .neg _, E, X, sc, fb, c, e, h => by unfold okT at h; cases h
  | .rev _, E, X, sc, fb, c, e, h => by unfold okT at h; cases h
  | .mk .., E, X, sc, fb, c, e, h => by unfold okT at h; cases h
  | .lst _, E, X, sc, fb, c, e, h => by unfold okT at h; cases h
  | .joinL .., E, X, sc, fb, c, e, h => by unfold okT at h; cases h
  | .dnew, E, X, sc, fb, c, e, h => by unfold okT at h; cases h
  | .hand _, E, X, sc, fb, c, e, h => by unfold okT at h; cases h
theorem okO_ok : ∀ (m : Ox) {E : XK} {X : L2.Cx} {sc : Scope} {fb : Option Scope} (c : CtxOk D E C X T N sc fb) (e : Option Expr), okO T N sc fb m e = true → SO D E C X e m
  | .no, E, X, sc, fb, c, e, h => by
    unfold okO at h
    have : e = none := by simpa using h
    subst this
    exact so_none
  | .some m, E, X, sc, fb, c, e, h => by
    unfold okO at h
    split at h
    · exact so_some (okE_ok m c _ h)
    · cases h
theorem okEs_ok : ∀ (ms : Exs) {E : XK} {X : L2.Cx} {sc : Scope} {fb : Option Scope} (c : CtxOk D E C X T N sc fb) (es : List Expr), okEs T N sc fb ms es = true → SA D E C X es ms
  | .nil, E, X, sc, fb, c, es, h => by
    unfold okEs at h
    have : es = [] := by simpa using h
    subst this
    exact sa_nil
  | .cons m r, E, X, sc, fb, c, es, h => by
    unfold okEs at h
    split at h
    · simp only [Bool.and_eq_true] at h
      exact sa_cons (okE_ok m c _ h.1.2) (okEs_ok r c _ h.2) h.1.1
    · cases h
theorem okL_ok : ∀ (l : Le) {E : XK} {X : L2.Cx} {sc : Scope} {fb : Option Scope} (c : CtxOk D E C X T N sc fb) (e : Expr), okL T N sc fb l e = true → SL D E C X e l
  | .disp as, E, X, sc, fb, c, e, h => by
    unfold okL at h
    split at h
    · exact sl_disp (okEs_ok as c _ h)
    · cases h
  | .comp t src k m, E, X, sc, fb, c, e, h => by
    unfold okL at h
    split at h
    · rename_i elt tg iter ifs scope pos
      simp only [Bool.and_eq_true] at h
      obtain ⟨⟨⟨⟨⟨h1, h2⟩, h3⟩, h4⟩, h5⟩, h6⟩ := h
      exact sl_comp c.O (okI_ok src c tg _ h2) (by rw [c.hN, c.hsc]; exact blkOk_by h3) (fun s H C' cl fp => okG_ok (c.blk s H scope cl C' fp) t tg h4) (fun s H C' cl fp => okC_ok k (c.blk s H scope cl C' fp) ifs h5)
        (fun s H C' cl fp => okE_ok m (c.blk s H scope cl C' fp) elt h6) h1 (fun i hi => by rw [own_snd]; exact hi) (fun i hi => by rw [own_snd] at hi; exact hi)
    · cases h
theorem okC_ok : ∀ (k : Ox) {E : XK} {X : L2.Cx} {sc : Scope} {fb : Option Scope} (c : CtxOk D E C X T N sc fb) (es : List Expr), okC T N sc fb k es = true → PTs X es (tG D E relE (evC C k))
  | .no, E, X, sc, fb, c, es, h => by
    unfold okC at h
    have : es = [] := by simpa using h
    subst this
    exact ⟨fun pins s σ H Q I ⟨ι, env, s', hs, hn, hp⟩ => pts_nil.run pins s σ H Q I (post.now (rel := relE) hp hs rfl)⟩
  | .some m, E, X, sc, fb, c, es, h => by
    unfold okC at h
    split at h
    · exact pts_one (okT_ok m c _ h).1
    · cases h
theorem okI_ok : ∀ (i : It) {E : XK} {X : L2.Cx} {sc : Scope} {fb : Option Scope} (c : CtxOk D E C X T N sc fb) (tg e : Expr), okI T N sc fb i e = true → SI D E C X tg e i
  | .ex m, E, X, sc, fb, c, tg, e, h => by
    unfold okI at h
    exact si_ex c.O (okE_ok m c e h)
  | .le l, E, X, sc, fb, c, tg, e, h => by
    unfold okI at h
    exact si_le c.O (okL_ok l c e h)
  | .rng1 a, E, X, sc, fb, c, tg, e, h => by
    unfold okI at h
    split at h
    · simp only [Bool.and_eq_true] at h
      obtain ⟨⟨h1, h2⟩, h3⟩ := h
      have h1' := h1
      unfold bltB at h1'
      obtain ⟨e1, e2⟩ := Bool.and_eq_true_iff.mp h1'
      have := of_decide_eq_true e1
      subst this
      exact si_rng1 (gl_of c e2).1 (c.bl _ (by decide)) (okE_ok a c _ h3) h2
    · cases h
  | .rng2 a b, E, X, sc, fb, c, tg, e, h => by
    unfold okI at h
    split at h
    · simp only [Bool.and_eq_true] at h
      obtain ⟨⟨⟨⟨h1, h2⟩, h3⟩, h4⟩, h5⟩ := h
      have h1' := h1
      unfold bltB at h1'
      obtain ⟨e1, e2⟩ := Bool.and_eq_true_iff.mp h1'
      have := of_decide_eq_true e1
      subst this
      exact si_rng2 (gl_of c e2).1 (c.bl _ (by decide)) (okE_ok a c _ h4) (okE_ok b c _ h5) h2 h3
    · cases h
  | .rng3 a b d, E, X, sc, fb, c, tg, e, h => by
    unfold okI at h
    split at h
    · simp only [Bool.and_eq_true] at h
      obtain ⟨⟨⟨⟨⟨⟨h1, h2⟩, h3⟩, h4⟩, h5⟩, h6⟩, h7⟩ := h
      have h1' := h1
      unfold bltB at h1'
      obtain ⟨e1, e2⟩ := Bool.and_eq_true_iff.mp h1'
      have := of_decide_eq_true e1
      subst this
      exact si_rng3 (gl_of c e2).1 (c.bl _ (by decide)) (okE_ok a c _ h5) (okE_ok b c _ h6) (okE_ok d c _ h7) h2 h3 h4
    · cases h
  | .enum _, E, X, sc, fb, c, tg, e, h => by unfold okI at h; cases h
  | .srt _, E, X, sc, fb, c, tg, e, h => by unfold okI at h; cases h
end
end
end U
/-! Mx1: an own exception over ValueError whose __init__ says super().__init__(x) and keeps x. -/
namespace U
open PySem PySem.W PySem.Calls PySem.Spec PyProof.Rows L2 NdefX
section
variable {pr : Program} {wo : World} {Ar : Around} {EE : Value → Shared → Prop} {hp : Heap} {gs : Array GenState} {dr : Drawn} {tk : Nat} {oS : OsState}
variable {cn cq : Str} {Ca Na : Addr} {bL mL : List Value} {hD : Bool} {sN : List Str} {sb : List Value} {aB : Bool} {cO : Option Bool} {dA : Option Addr} {z0 z1 z2 z3 z5 : Option Value}
/-- the bound __init__ of ValueError, called on an exception that is being made -/
theorem call_mw {mw ex tp : Addr} {vs : List Value} {R : Value → Shared → Prop}
    (gC : hp.get? Ca = some (excClassObj cn cq Ca Na bL mL hD sN sb aB cO dA z0 z1 z2 z3 z5 "ValueError.__new__")) (gE : hp.get? ex = some (HandSPX.excO Ca tp)) (gM : hp.get? mw = some (kxs_mw "ValueError.__init__" ex)) (lv : vs.length ≤ sizeLine)
    (k : ∀ hp' tp', (∀ b o, b ≠ ex → hp.get? b = some o → hp'.get? b = some o) → hp'.get? ex = some (HandSPX.excO Ca tp') → R .none ⟨hp', gs, dr, tk, oS⟩) :
    wpAny (model pr wo) Ar (call (.ref mw) vs) R EE ⟨hp, gs, dr, tk, oS⟩ := by
  have FV := F.excBase_ValueError
  refine wpAny_call ?_; refine codeAny_of_tree ?_
  show wpAny _ Ar.in1 (callAny (.ref mw) ⟨vs, []⟩) _ _ _
  simp only [callAny]
  refine wpAny_bind ?_; refine wpAny_load gM ?_
  simp only [kxs_mw, (by decide : (Value.type "method-wrapper" == Value.type "method" || Value.type "method-wrapper" == Value.type "builtin_function_or_method" || Value.type "method-wrapper" == Value.type "method-wrapper") = true), if_true]
  refine W.KFB.if_so (by decide) ?_
  refine wpAny_bind (check_bound_init FV.toExcCallFacts gC gE rfl (wpAny_bind (wpAny_pure (wpAny_pure ?_))))
  refine ⟨Code.quiet_builtin _ (by decide +kernel), ?_⟩
  refine codeAny_builtin FV.initEntry ?_
  rw [Around.under_plainId FV.init.plain _]
  wp_walk
  refine k _ hp.objs.size ?_ ?_
  · intro b o ne go
    rw [Heap.get?_update_other _ _ ne.symm]; exact Heap.get?_push_of_some _ go
  · rw [Heap.get?_update_self _ (Heap.get?_push_of_some _ gE) rfl]; rfl
end
/-- what the written part says of such a class and of its __init__ -/
structure SupC (P : Program) (K : PySem.W.Frag) (C fI cc cda : Addr) (G : NF) (x f : Str) (N : List Str) (fd : FuncData) : Prop where
  oex : OexC K C
  scope : NScope N [("self" : Str), x] [("__class__" : Str)] G.scope
  fn : ∃ oc od dV kV doc pm an ct osl, fd = fnX G.name G.qual G.params G.body G.scope G.cl dV kV doc pm an (.ref G.c) ct ∧ K.lookup fI = some ⟨oc, od, .func fd, osl⟩
  cl : G.cl = [(("__class__" : Str), cc)]
  code : codeIn K (.ref G.c) G.qual = true
  hp : ∃ ar, (G.params.posonlyargs ++ G.params.args).head? = some ar ∧ ar.arg = ("self" : Str)
  file : ∃ c1 d1 vs sl file tf, K.lookup G.c = some ⟨c1, d1, .fields vs, sl⟩ ∧ vs[2]? = some (.str file tf) ∧ ((P.main.file : Str) == file) = true
  cell : ∃ c1 d1 sl, K.lookup cc = some ⟨c1, d1, .cell (some (.ref C)), sl⟩
  top : (P.main.scope.names.lookup ("super" : Str)).isSome = false
  hks : G.scope.names.lookup ("super" : Str) = some .globalImplicit
  sup : nsIn K mainGlobals "super" = some none
  opq : nsIn K cStatics "thirdparty.any" = some none
  nxt : ks_superIn K C C "__init__" = some (some (.builtin "ValueError.__init__"))
  self_ : mroIn K C (.ref C) = some true
  ve : subIn K (.ref C) (.type "ValueError") = some true
  noat : findIn K (.ref C) f = some none
  body : ∃ p0 p1 p2 p3 p4 p5 p6 p7 p8 p9, G.body = [.Expr (.Call (.Attribute (.Call (.Name "super" p0) [] [] p1) "__init__" p2) [.Name x p3] [] p4) p5, .Assign [.Attribute (.Name "self" p6) f p7] (.Name x p8) p9]
  lines : ∀ p0 p1 p2 p3 p4 p5 p6 p7 p8 p9, G.body = [.Expr (.Call (.Attribute (.Call (.Name "super" p0) [] [] p1) "__init__" p2) [.Name x p3] [] p4) p5, .Assign [.Attribute (.Name "self" p6) f p7] (.Name x p8) p9] → (p2.endLine == p4.line) = true
  xs : x ≠ "self" ∧ (x == ("__debug__" : Str)) = false ∧ (x == ("__classdict__" : Str)) = false ∧ N[0]? = some ("self" : Str) ∧ N[1]? = some x
theorem mcall_eq0 {env : PySem.Env} {o : Expr} {m : Str} {apos pos : Pos} {es : List Expr} (hl : (apos.endLine == pos.line) = true) (hp : es.all pl = true) (hn : es.length < 30) : eval (.Call (.Attribute o m apos) es [] pos) env = (do
      let ov ← attributeBase o m env (eval o env)
      standAt apos.atName
      let (f, first) ← holding [ov] (getMethod ov m (plainOf o env))
      callWith pos f first (backTo pos (starEach es env)) []) := by
  rw [arm_eval_Call]
  have hf : methodCallForm (es.length + ([] : List Keyword).length) (backTo pos (starEach es env)) (backToKw pos (keywordEach [] env)) = true := by
    show ((backTo pos (starEach es env)).all (!·.1) && true && decide (es.length + 0 + 0 < 30)) = true
    rw [few_plain hp, decide_eq_true (by omega)]; rfl
  congr 1; funext ov; congr 1; funext _
  exact mcall_line hf hl
/-- what it promises -/
def spSup (C : Addr) (f : Str) : Sp := fun vs H Q _ => ∃ (a : Addr) (v : V), vs = [.ref a, v] ∧ H a = some (exo a C none) ∧ ∀ dx, H dx = none → dx ≠ a → Q .non (upd (upd H dx (exd dx [(f, v)])) a (exo a C (some dx)))
theorem sup_ok {P : Program} {w : World} {K : PySem.W.Frag} {mg : Str → Option Value} {base : Heap} {C fI cc cda : Addr} {G : NF} {x f : Str} {N : List Str} {fd : FuncData} {k : Nat} (S : SupC P K C fI cc cda G x f N fd) (hsup : mg "super" = none) :
    FnOk P w K mg base (L2.CX P w) (k + 1) fI fd [("self" : Str), x] (spSup C f) := by
  refine ⟨fun vs H Q E ⟨a, v, e, _⟩ => by rw [e]; rfl, fun A outer s H args us vs Q E hr e0 hb r hsp => ?_⟩
  obtain ⟨a, v, rfl, ha, hq⟩ := hsp
  obtain ⟨oc, od, dV, kV, doc, pm, an, ct, osl, rfl, lk⟩ := S.fn
  obtain ⟨p0, p1, p2, p3, p4, p5, p6, p7, p8, p9, hbody⟩ := S.body
  obtain ⟨ar, har, hself⟩ := S.hp
  obtain ⟨c1, d1, fvs, fsl, file, tf, hcc, hfv, hfile⟩ := S.file
  obtain ⟨cl1, cl2, cl3, hcell⟩ := S.cell
  obtain ⟨xs1, xs2, xs3, xs4, xs5⟩ := S.xs
  have KX : K.In s.heap := e0.mod.kin.keeps fun b o e => (e0.bs b o e).1
  have lim : s.heap.NoLimit := e0.mod.nolimit.keeps fun b o e => (e0.bs b o e).1
  refine codeAny_call_function hr.depth (KX _ _ lk) rfl S.scope.co S.scope.gen rfl (codeRec_of KX S.code) (hb _ _ _ _ ?_)
  refine wpAny_newFunctionEnv S.scope.nocell (fun ⟨n, _⟩ hy => S.scope.par n (List.of_mem_zip hy).1) (fun h₁ hns hsb => ⟨lim.fresh _ hsb, ?_⟩) S.scope.kind
  show codeAny _ _ (.func G.body (envF G fI s.heap.objs.size)) _ _
  refine ks_codeAny_funcAt ?_
  have kp : ∀ b o, s.heap.get? b = some o → h₁.get? b = some o := fun b o e => hsb.extBut b o (Nat.ne_of_lt (Heap.lt_size e)) (Heap.get?_push_of_some _ e)
  have hcn : H cc = none := by
    have z := e0.mod.kin _ _ hcell
    exact (e0.bs _ _ z).2
  have CA : CellsAt G.cl [("__class__" : Str)] [none] s.heap H := by
    rw [S.cl]
    refine ⟨rfl, fun y c e => ?_, fun y z c h1 h2 => ?_, fun i y e => ?_⟩
    · have e' := PySem.mem_of_lookup e
      simp at e'
      obtain ⟨_, rfl⟩ := e'
      exact ⟨hcn, _, _, KX _ _ hcell, rfl⟩
    · have e1 := PySem.mem_of_lookup h1
      have e2 := PySem.mem_of_lookup h2
      simp at e1 e2
      rw [e1.1, e2.1]
    · cases i with
      | zero =>
        simp at e; subst e
        exact ⟨cc, by simp [List.lookup], fun v h => by simp at h⟩
      | succ i => simp at e
  have I : Inv (ncx (L2.CX P w) P w K mg base N G fI A outer s H E) [] (startF N [.ref a, v] [none]) H { s with heap := h₁, toks := s.toks + ([("self" : Str), x].zip us).length } :=
    inv_startN S.scope hr.hd e0 rfl r CA hns kp
  rw [hbody]
  have kx : (envF G fI s.heap.objs.size).kindOf "self" = some .local := S.scope.par _ (by simp)
  have kxx : (envF G fI s.heap.objs.size).kindOf x = some .local := S.scope.par _ (by simp)
  have kcl : (envF G fI s.heap.objs.size).kindOf "__class__" = some .free := S.scope.frk _ (by simp)
  have I1 := I
  have lself : ∀ {A' : Around} {Q' : Value → Shared → Prop} {E' : Value → Shared → Prop} {s1 : Shared}, Inv (ncx (L2.CX P w) P w K mg base N G fI A outer s H E) [] (startF N [.ref a, v] [none]) H s1 → Q' (.ref a) s1 → wpAny (model P w) A' (loadName (envF G fI s.heap.objs.size) "self") Q' E' s1 := fun {A' Q' E' s1} J hq' => by
    obtain ⟨m, hm, hl⟩ := J.loc
    obtain ⟨u, ru, hL⟩ := hl 0 "self" (.ref a) xs4 rfl (.inl kx)
    cases ru
    rcases hL with ⟨_, e⟩ | ⟨e, _⟩
    · exact wpAny_loadName_local S.scope.kind kx hm e hq'
    · rcases e with e | e
      · rw [show (envF G fI s.heap.objs.size).kindOf "self" = some .cell from e] at kx; cases kx
      · rw [show (envF G fI s.heap.objs.size).kindOf "self" = some .free from e] at kx; cases kx
  obtain ⟨nm, qn, Nn, bs, bm, sn, sub, ab, col, dd, k0, k1, k2, k3, k5, hC, hbm⟩ := S.oex.cls
  obtain ⟨t1, ho⟩ := exo_at I.hok ha
  have hCg := I.kIn _ _ hC
  have hcd : clsIn K C = some { name := nm, bases := bs, mro := .ref C :: bm, ns := Nn, qualname := qn, hasDict := true, slotNames := sn, subclasses := sub, abstract := ab, collection := col, hasDel := false } := by unfold clsIn; rw [hC]
  refine ks_wpAt_execs_cons (ks_wpAt_Expr_any (ks_wpAt_MethodCall (pl := plainOf (.Call (.Name "super" p0) [] [] p1) (envF G fI s.heap.objs.size)) (ks_wpAt_super_base S.hks kcl (by decide) rfl (I.kIn _ _ lk) rfl har rfl (I.kIn _ _ hcc) rfl hfv hfile S.top ?_) (mcall_eq0 (S.lines p0 p1 p2 p3 p4 p5 p6 p7 p8 p9 hbody) rfl (by simp))) (by unfold interactive; rw [show (envF G fI s.heap.objs.size).scope.kind = .function from S.scope.kind]; rfl))
  obtain ⟨mb, hb1, hb2⟩ := I.mod.blt
  refine ks_loadName_global S.scope.kind S.hks (Calls.loadGlobal_builtin (I.mod.glob.keeps I.bk) hsup (hb1.keeps I.bk) ((hb2 _ (by decide)).trans (by decide +kernel)) ⟨rfl, ?_⟩)
  refine wpAny_loadName_free S.scope.kind kcl (by show G.cl.lookup _ = _; rw [S.cl]; rfl) ⟨_, I.kIn _ _ hcell, rfl⟩ ?_
  rw [hself]
  refine lself I ?_
  refine ks_wpAny_isType_cls hCg rfl ⟨rfl, ?_⟩
  refine ks_wpAny_call_super hCg rfl ho rfl (fun c e => by cases e) (looks_mroIn I.kIn S.self_) (fun h2 eso k2' => ?_)
  have I2 : Inv (ncx (L2.CX P w) P w K mg base N G fI A outer s H E) [] (startF N [.ref a, v] [none]) H _ := I.kept (t' := s.toks + ([("self" : Str), x].zip us).length) k2'
  have ho2 := k2' _ _ ho
  have hf2 : alongIn K "__init__" (((Value.ref C :: bm).dropWhile (· != .ref C)).drop 1) = some (some (.builtin "ValueError.__init__")) := by
    have z := S.nxt
    unfold ks_superIn at z
    rw [hcd] at z
    exact z
  have haC : a ≠ C := fun z => by
    have z1 := (e0.bs _ _ (e0.mod.kin _ _ hC)).2
    rw [← z, ha] at z1; cases z1
  have J2 : InstAt h2 a { cls := .ref C, dict := none, data := .fields #[.ref t1, .none, .none, .none, .bool false, .none] } C none := ⟨ho2, rfl, rfl, trivial⟩
  refine kxs_getMethod kxs_ValueError eso (looks_opaque I2.kIn S.opq) (l₀ := .ref C :: bm) (fun A Q E s k q => wpAny_bind ((looks_clsIn I2.kIn hcd) A _ E s k (wpAny_pure q))) rfl I2.kIn hf2 (J2.type.andThen (looks_subIn I2.kIn S.ve)) haC (by decide) ?_
  have k3' : ∀ b o, h2.get? b = some o → (h2.push (kxs_mw "ValueError.__init__" a)).get? b = some o := fun b o e => Heap.get?_push_of_some _ e
  have hmw : (h2.push (kxs_mw "ValueError.__init__" a)).get? h2.objs.size = some (kxs_mw "ValueError.__init__" a) := Heap.get?_push_at rfl rfl
  have hnn : H h2.objs.size = none := I2.hok.fresh (Nat.le_refl _)
  have I3 : Inv (ncx (L2.CX P w) P w K mg base N G fI A outer s H E) [] (startF N [.ref a, v] [none]) H _ := I2.kept (t' := s.toks + ([("self" : Str), x].zip us).length + 1) k3'
  have I4 : Inv (ncx (L2.CX P w) P w K mg base N G fI A outer s H E) [(h2.objs.size, kxs_mw "ValueError.__init__" a)] (startF N [.ref a, v] [none]) H _ := I3.pins_of fun p hp => by
    have e : p = (h2.objs.size, kxs_mw "ValueError.__init__" a) := by simpa using hp
    subst e
    refine ⟨hmw, hnn, fun z => ?_, I2.nofs (Nat.le_refl _), fun v z => by cases z⟩
    have l := I2.lt
    rw [← show h2.objs.size = (ncx (L2.CX P w) P w K mg base N G fI A outer s H E).env.locals from z] at l
    exact absurd l (Nat.lt_irrefl _)
  have hpx : PA (ncx (L2.CX P w) P w K mg base N G fI A outer s H E) [.Name x p3] _ := pa_cons (pe_var (i := 1) xs5 (.inl kxx) xs2 xs3) pa_nil
  refine kxs_callWith (i := "ValueError.__init__") (x := a) rfl (evalArgs_plain (wpAny_mono (hpx.run p4 _ _ _ H (fun vs H1 => vs = [v] ∧ H = H1) I4 ⟨v, rfl, rfl, rfl⟩) (fun us4 s4 hh => ?_) fun _ _ z => z))
  obtain ⟨vs4, H4, I5, r4, rfl, rfl⟩ := hh
  obtain ⟨hmw5, _⟩ := I5.pin _ (List.mem_append_right _ List.mem_cons_self)
  refine ⟨hmw5, ?_⟩
  obtain ⟨h5, g5, d5, t5, os5⟩ := s4
  obtain ⟨t6, ho5⟩ := exo_at I5.hok ha
  have hlu : us4.length ≤ sizeLine := by rw [← Paired.length r4, sizeLine_eq]; simp
  refine call_mw (I5.kIn _ _ hC) ho5 hmw5 (by simpa using hlu) fun h6 t7 k6 ho6 => ?_
  have J6 := I5.write (t' := t5) (x := a) (e := a) (o := exo a C none) (by rw [ha]; exact True.intro) (.inl rfl) k6 ⟨_, ho6⟩ (exo_ok ho6)
  have eu : upd H a (exo a C none) = H := by
    funext b
    by_cases hb : b = a
    · rw [hb, upd_same, ha]
    · rw [upd_ne hb]
  rw [eu] at J6
  have J7 := J6.weak (σ' := startF N [.ref a, v] [none]) rfl fun _ _ z => z
  have J8 : Inv (ncx (L2.CX P w) P w K mg base N G fI A outer s H E) [] (startF N [.ref a, v] [none]) H _ := J7.pins_of fun p hp => absurd hp (by simp)
  have hst : PSs (ncx (L2.CX P w) P w K mg base N G fI A outer s H E) [.Assign [.Attribute (.Name "self" p6) f p7] (.Name x p8) p9] _ := pss_one (ps_ost (pe_var (i := 0) xs4 (.inl kx) (by decide) (by decide)) (pe_var (i := 1) xs5 (.inl kxx) xs2 xs3))
  refine wpAt_of_wpAny (wpAny_mono (hst.run [] _ (startF N [.ref a, v] [none]) H { nx := fun _ H' => Q .non H', rt := Q } J8 ⟨v, rfl, .ref a, rfl, a, C, rfl, S.oex, S.noat, .inl ⟨ha, fun dx n ne => hq dx n ne⟩⟩) (fun fl s' hs => ?_) fun e s' hs => hs)
  have fin : ∀ {σ' : L2.St} {H' : Hp} {v : V} {u : Value}, Inv (ncx (L2.CX P w) P w K mg base N G fI A outer s H E) [] σ' H' s' → L2.RelV v u → Q v H' → CE outer P w H s Q u s' :=
    fun {σ' H' v u} J rv q => ⟨v, H', J.os, J.bare, J.base, J.hok, rv, q⟩
  cases fl with
  | ret u =>
    obtain ⟨v, σ', H', J, rv, q⟩ := hs
    exact fin J rv q
  | next =>
    obtain ⟨σ', H', J, q⟩ := hs
    exact fin (v := V.non) (u := Value.none) J rfl q
  | brk =>
    obtain ⟨_, _, _, q⟩ := hs
    exact False.elim q
  | cont =>
    obtain ⟨_, _, _, q⟩ := hs
    exact False.elim q
end U
/-! Mx2: isinstance of a caught error of an own class, with a dict or without. -/
namespace U
open PySem PySem.W PySem.Calls PySem.Spec PyProof.Rows L2
/-- the exception's dict stands, if it has one -/
def ExcD (d : Option Addr) (H : Hp) : Prop := ∀ dd, d = some dd → ∃ fs, H dd = some (.xd fs)
def rIsD (K : PySem.W.Frag) (D a : Addr) (d : Option Addr) : List V → Hp → VK → Prop := fun xs H Q => ExcD d H ∧ ∃ (c : V) (cv : Value) (b : Bool), xs = [.ref a, c] ∧ (∀ u, L2.RelV c u → u = cv) ∧ PySem.W.kitOne K (.ref D) cv = some b ∧ Q (.bl b) H
theorem call_isD {X : L2.Cx} {a D : Addr} {d : Option Addr} {oe : PySem.Obj} {pn : List (Addr × PySem.Obj)} (hC : ExcC X.K D) (hz : Zc (.ref D) d oe) (hf : ∃ vs, oe.data = .fields vs) : CallR (X.suite a ((a, oe) :: pn)) (.builtin "isinstance") (rIsD X.K D a d) := by
  intro pins s σ H xs us Q I r ⟨hd, c, cv, b, ex, hcv, e, q⟩
  subst ex
  obtain ⟨u0, us1, e1, r1, r2⟩ := Pd.consL r
  obtain ⟨u1, us2, e2, r3, r4⟩ := Pd.consL r2
  have e3 := Pd.nilL r4
  subst e3 e2 e1
  have e4 : u0 = .ref a := r1
  have e5 := hcv _ r3
  subst e4 e5
  have pin := (I.pin (a, oe) (List.mem_append_left pins List.mem_cons_self)).1
  obtain ⟨vs, hv⟩ := hf
  have hnc : PySem.W.notCls oe = true := by unfold PySem.W.notCls; rw [hv]
  have J : ∃ od, PySem.W.InstAt s.heap a oe D od := by
    cases d with
    | none => exact ⟨none, pin, hz.1, hnc, by rw [hz.2]; trivial⟩
    | some dd =>
      obtain ⟨fs, hx⟩ := hd dd rfl
      obtain ⟨mA, ⟨o, _, _, ho, _⟩, hr⟩ := (I.hok dd _ hx : ObjOk X.prog X.w H s.heap dd (.xd fs))
      exact ⟨some o, pin, hz.1, hnc, by rw [hz.2]; exact ho⟩
  obtain ⟨od, J⟩ := J
  have hcl : (PySem.W.clsIn X.K D).isSome = true := by
    have z := hC.hd
    unfold PySem.W.hasDictIn at z
    cases h : PySem.W.clsIn X.K D with
    | none => rw [h] at z; cases z
    | some _ => rfl
  exact PySem.W.kia_one (PySem.W.kitx_exc (od := od) hcl hC.hg hC.hk hC.hs hC.ha hC.hn hC.ht hC.hm) I.kIn J e nofun fun tk => ⟨.bl b, H, I.kept (t' := tk) fun _ _ z => z, rfl, q⟩
end U
/-! Mx3: raise C(e), C an own exception with one field; try .. except .. as n. -/
namespace U
open PySem PySem.Spec PyProof.Rows L2
/-- the class c may be made here by the name x; its field is f -/
structure RsAt (D : Wd) (X : L2.Cx) (x : Str) (c f : Nat) : Prop where
  oex : OexC X.K (D.cA c)
  ok : ∃ k fI fd ps, FnOk X.prog X.w X.K X.mg X.base (L2.CX X.prog X.w) k fI fd ps (spSup (D.cA c) (D.fN f)) ∧ Room (k + 1) X.A ∧ PySem.W.findIn X.K (.ref (D.cA c)) "__init__" = some (some (.ref fI)) ∧ PySem.W.typeIn X.K (.ref fI) = some (.type "function") ∧ Binds X.K fd ps []
  mg : X.mg x = some (.ref (D.cA c))
section
variable {D : Wd} {E : XK} {X : L2.Cx} {C : Calls} {ι : Inj} {H : Hp} {s : S} {Q : VK}
theorem ss_raiseF (O : XOk D X) (tk : Takes X (fun cls d _ H => E cls d H)) {x : Str} {c f : Nat} (R : RsAt D X x c f) (hg : Gl X x) (hd : (x == ("__debug__" : Str)) = false) {e : Expr} {m : Ex} {p pos pos' : Pos} (h : SE D E C X e m) (hpl : pl e = true) :
    SS D E C X (.Raise (some (.Call (.Name x p) [e] [] pos)) none pos') (.raiseF c f m) := by
  obtain ⟨k, fI, fd, ps, F1, F2, F3, F4, F5⟩ := R.ok
  refine ps_by (ps_raise O.calm tk (pmk_oex R.oex F3 F4 F1 F2 F5 .nil passL hg R.mg (pa_cons h pa_nil (star_of hpl)) hd (star_of hpl) (tail_plain (by rfl)))) fun N σ H ⟨ι, env, s, hs, hn, hp⟩ => ?_
  refine ⟨ι, env, s, hs, hn, (postX.then (rel := relV D) hp).imp fun w H1 ⟨ι1, s1, u, e1, m1, r1, p1⟩ => ?_⟩
  cases u with
  | p u =>
    refine ⟨by simp, fun a ha => ⟨a, w, rfl, upd_same, fun dx hdx hne => ⟨rfl, dx, [(D.fN f, w)], upd_same, by rw [upd_ne hne, upd_same], by rw [← hdx, upd_ne hne], ?_⟩⟩⟩
    have hdx1 : H1 dx = none := by rw [← hdx, upd_ne hne]
    have eH : upd (del (upd (upd (upd H1 a (exo a (D.cA c) none)) dx (exd dx [(D.fN f, w)])) a (exo a (D.cA c) (some dx))) a) dx (.xd [(D.fN f, w)]) = upd H1 dx (.xd [(D.fN f, w)]) := by
      funext b
      by_cases hb : b = dx
      · rw [hb, upd_same, upd_same]
      · rw [upd_ne hb, upd_ne hb]
        by_cases hb2 : b = a
        · rw [hb2, del_same, ha]
        · rw [del_ne hb2, upd_ne hb2, upd_ne hb, upd_ne hb2]
    rw [eH]
    have ef := Ext.fresh (K := D.K) (ι := ι1) (o := .xd [(D.fN f, w)]) hdx1
    exact p1 ι1 _ _ _ ef (m1.fresh hdx1) ⟨rfl, dx, [(D.fN f, w)], rfl, upd_same, .cons ⟨rfl, (rv_p r1).mono ef.tup⟩ .nil⟩
  | r _ => exact p1.elim
  | t _ => exact p1.elim
  | hd => exact p1.elim
  | sc => exact p1.elim
theorem RelEnv.unset {env : Env} {σ : L2.St} {n : Nat} (h : RelEnv D.K H ι env σ) : RelEnv D.K H ι (env.set n none) (σ.set n none) := by
  refine ⟨by simp [h.1], fun i v e => ?_⟩
  by_cases z : i = n
  · subst z
    by_cases l : i < env.length
    · rw [List.getElem?_set_self l] at e; cases e
    · rw [List.getElem?_eq_none (by simpa using l)] at e; cases e
  · rw [List.getElem?_set_ne (Ne.symm z)] at e ⊢
    exact h.2 i v e
theorem RelEnv.mark {env : Env} {σ : L2.St} {n : Nat} {w : V} (h : RelEnv D.K H ι env σ) : RelEnv D.K H ι (env.set n none) (σ.set n (some w)) := by
  refine ⟨by simp [h.1], fun i v e => ?_⟩
  by_cases z : i = n
  · subst z
    by_cases l : i < env.length
    · rw [List.getElem?_set_self l] at e; cases e
    · rw [List.getElem?_eq_none (by simpa using l)] at e; cases e
  · rw [List.getElem?_set_ne (Ne.symm z)] at e ⊢
    exact h.2 i v e
/-- what the written part says of a class that is caught -/
structure CatC (K : PySem.W.Frag) (c0 C : Value) (A : Addr) (f : Str) : Prop where
  ec : C = .ref A
  exm : PySem.W.exmOne K C c0 = some true
  exc : ExcC K A
  xf : XfC K A
  no : PySem.W.findIn K C f = some none
  kit : PySem.W.kitOne K C C = some true
  kitV : PySem.W.kitOne K C (.type "ValueError") = some true
theorem pss_if {st : List Stmt} {p : Prop} {t : L2.TS} (h : p → PSs X st t) : PSs X st (fun N σ H => p ∧ t N σ H) := ⟨fun pins s σ H N I ⟨hp, q⟩ => (h hp).run pins s σ H N I q⟩
theorem post_q {α β : Type} {rel : Inj → Hp → α → β → Prop} {x : U.R α} {Q : β → Hp → Prop} (h : ∀ a s1, x.quiet = .ok a s1 → post D E0' ι H rel Q (.ok a s1)) (hb : x.quiet ≠ .bot) : post D E0' ι H rel Q x := by
  cases x with
  | ok a s1 => exact h a s1 rfl
  | exc e s1 => exact absurd rfl hb
  | bot => exact absurd rfl hb
theorem ss_try (O : XOk D X) (hs : X.stack = X.env :: X.outer) (hf : X.env.frame = some X.env.locals) (tk : Takes X (fun cls d _ H => E cls d H)) {x n k fl f g : Nat} {l l2 : List Nat} {c : Ex} {as bs : Exs} {xs ns fs gs hx kx : Str} {c0 : Value}
    {z e1 e2 : Expr} {es1 es2 : List Expr} {p1 p2 p3 p4 p5 p6 p7 p8 q1 q2 q3 q4 q5 q6 q7 q8 q9 q10 q11 q12 q13 q14 q15 q16 r1 r2 r3 r4 : Pos} {j1 j2 j3 j4 : Nat}
    (hx1 : X.N[x]? = some xs) (hx2 : X.env.scope.names.lookup xs = some .local) (hn1 : X.N[n]? = some ns) (hn2 : X.env.kindOf ns = some .local) (hnd : (ns == ("__debug__" : Str)) = false ∧ (ns == ("__classdict__" : Str)) = false) (hl : StrOk l) (hl2 : StrOk l2)
    (hN : Names X hx c0) (cat : CatC X.K c0 (.ref (D.cA k)) (D.cA k) (D.fN fl)) (hk : Gl X kx) (hkm : X.mg kx = some (.ref (D.cA k))) (hkd : (kx == ("__debug__" : Str)) = false)
    (B1 : Blt X "isinstance" (.builtin "isinstance")) (B2 : Blt X "ValueError" (.type "ValueError"))
    (hc : ∀ pn xe, ST D E0' C (X.tr pn xe) z c) (ha : ∀ pn xe, SA D E0' C (X.tr pn xe) (e1 :: es1) as) (hb : ∀ pn xe, SA D E0' C (X.tr pn xe) (e2 :: es2) bs)
    (F : FnAt D E X fs (C.fn f)) (G : FnAt D E X gs (C.fn g)) (gf : Gl X fs) (gg : Gl X gs) (gfd : (fs == ("__debug__" : Str)) = false) (ggd : (gs == ("__debug__" : Str)) = false)
    (pa : (e1 :: es1).all pl = true) (pb : (e2 :: es2).all pl = true) :
    SS D E C X (.Try [.Assign [.Name xs p1] (.Tuple [.Constant (.str ⟨l.toArray⟩) j1 p2, .IfExp z (.Call (.Name fs p3) (e1 :: es1) [] p4) (.Call (.Name gs p5) (e2 :: es2) [] p6) p7] j2 p8) q1]
      [.ExceptHandler (some (.Name hx q2)) (some ns) [.If (.BoolOp .And [.Call (.Name "isinstance" q3) [.Name ns q4, .Name kx q5] [] q6, .Call (.Name "isinstance" q7) [.Name ns q8, .Name "ValueError" q9] [] q10] q11)
        [.Assign [.Name xs q12] (.Tuple [.Constant (.str ⟨l2.toArray⟩) j3 q13, .Attribute (.Name ns q14) (D.fN fl) q15] j4 q16) r1] [] r2] r3] [] [] r4) (.tryT x l c f as g bs n k fl l2) := by
  obtain ⟨k1, fa1, fd1, ps1, F1, F2, F3, F4, F5⟩ := F.ok
  obtain ⟨k2, fa2, fd2, ps2, G1, G2, G3, G4, G5⟩ := G.ok
  have sp (e : List Expr) (h : e.all pl = true) : (∀ a r, e = a :: r → pl a = true ∧ r.all pl = true) := fun a r q => by subst q; rw [List.all_cons] at h; exact Bool.and_eq_true_iff.mp h
  obtain ⟨a1, a2⟩ := sp _ pa _ _ rfl
  obtain ⟨b1, b2⟩ := sp _ pb _ _ rfl
  have lx : L2.Loc X.env.scope xs := .inl hx2
  refine ps_by (ps_try_as (c := c0) (i := n) (Wout := fun cls d _ H => E cls d H)
    (tb := fun W => tAsg (tTupF (tCons (tC (.str ⟨l.toArray⟩)) (tCons (tIf (tG D E0' relE (evT C c)) (tCallS (spOf D (C.fn f)) (WE W) (tA D E0' C as)) (tCallS (spOf D (C.fn g)) (WE W) (tA D E0' C bs))) tNil))) (gName x))
    (ts := fun a cls d => fun N σ H => cls = .ref (D.cA k) ∧ tIfS (tAnd (tB (tCB (rIsD X.K (D.cA k) a d) (tCons (tVar n) (tCons (tC (.ref (D.cA k))) tNil)))) (tB (tCB (rIsD X.K (D.cA k) a d) (tCons (tVar n) (tCons (tC (.ty "ValueError")) tNil)))))
      (tAsg (tTupF (tCons (tC (.str ⟨l2.toArray⟩)) (tCons (tXf a cls d (D.cA k) (D.fN fl) (tVar n)) tNil))) (gName x)) tNext N σ H)
    hs hf O.nd hn1 hn2 hN tk (fun W pn xe tkW hpo => ?_) fun a oe cls d pn hz hv => pss_if fun ecl => ?_) fun N σ H ⟨ι, env, s, hm, hn, hp⟩ => ?_
  · refine pss_one (ps_set (i := x) O.nd hx1 lx (pe_tupF (pa_cons pe_str (pa_cons (pe_ifExp (hc pn xe) (pe_callS F1 F2 gf F3 F4 F5 (fun σ => passAt tkW σ) (ha pn xe) gfd (star_of a1) (tail_plain a2)) (pe_callS G1 G2 gg G3 G4 G5 (fun σ => passAt tkW σ) (hb pn xe) ggd (star_of b1) (tail_plain b2))) pa_nil))) rfl (.inr hx2))
  · subst ecl
    have hci : CallR (X.suite a ((a, oe) :: pn)) (.builtin "isinstance") (rIsD X.K (D.cA k) a d) := call_isD cat.exc hz hv
    have pv : ∀ q, PE (X.suite a ((a, oe) :: pn)) (.Name ns q) (tVar n) := fun q => pe_var hn1 (.inl hn2) hnd.1 hnd.2
    have t1 : PT (X.suite a ((a, oe) :: pn)) (.Call (.Name "isinstance" q3) [.Name ns q4, .Name kx q5] [] q6) _ := pt_val (pe_callB hci B1.g B1.m B1.b (pa_cons (pv q4) (pa_cons (pe_glob (v := .ref (D.cA k)) hk hkm rfl hkd) pa_nil)) B1.n B1.d)
    have t2 : PT (X.suite a ((a, oe) :: pn)) (.Call (.Name "isinstance" q7) [.Name ns q8, .Name "ValueError" q9] [] q10) _ := pt_val (pe_callB hci B1.g B1.m B1.b (pa_cons (pv q8) (pa_cons (pe_bltn (v := .ty "ValueError") B2.g B2.m B2.b rfl B2.n B2.d) pa_nil)) B1.n B1.d)
    exact pss_one (ps_if (pw_and t1 (pw_and1 t2)).pt (pss_one (ps_set (i := x) O.nd hx1 lx (pe_tupF (pa_cons pe_str (pa_cons (pe_xf cat.xf cat.no hz hv (pv q14)) pa_nil))) rfl (.inr hx2))) pss_nil)
  · have hp : postX D E ι H N (match (evT C c env s).quiet.bind fun b s => if b then (evs C as env s).quiet.bind (C.fn f) else (evs C bs env s).quiet.bind (C.fn g) with
      | .ok v s => .next (env.set x (some (mkTup [.p (.str l), v]))) s
      | .exc e s => (match e.fs with
        | [(h, u)] => if e.cls = k ∧ h = fl ∧ n < env.length then .next ((env.set x (some (.p (.tup [.str l2, u])))).set n none) s else .bot
        | _ => .bot)
      | .bot => .bot) := hp
    have arm : ∀ (h : Nat) (ms : Exs) (ι1 : Inj) (H1 : Hp) (s1 : S), Sim D H1 ι1 s1 → RelEnv D.K H1 ι1 env σ → postX D E ι1 H1 N (match (evs C ms env s1).quiet.bind (C.fn h) with
      | .ok v s => .next (env.set x (some (mkTup [.p (.str l), v]))) s
      | .exc e s => (match e.fs with
        | [(h, u)] => if e.cls = k ∧ h = fl ∧ n < env.length then .next ((env.set x (some (.p (.tup [.str l2, u])))).set n none) s else .bot
        | _ => .bot)
      | .bot => .bot) → tCallS (spOf D (C.fn h)) (WE (wAs X.K c0 n (fun a cls d => fun N σ H => cls = .ref (D.cA k) ∧ tIfS (tAnd (tB (tCB (rIsD X.K (D.cA k) a d) (tCons (tVar n) (tCons (tC (.ref (D.cA k))) tNil)))) (tB (tCB (rIsD X.K (D.cA k) a d) (tCons (tVar n) (tCons (tC (.ty "ValueError")) tNil)))))
      (tAsg (tTupF (tCons (tC (.str ⟨l2.toArray⟩)) (tCons (tXf a cls d (D.cA k) (D.fN fl) (tVar n)) tNil))) (gName x)) tNext N σ H) (fun cls d _ H => E cls d H) N)) (tA D E0' C ms) σ H1
        (fun y H1 => [V.str ⟨l.toArray⟩, y].length ≤ sizeLine ∧ ∀ p H', H1 p = none → NewT H1 p [V.str ⟨l.toArray⟩, y] H' → N.nx (σ.set x (some (.ref p))) H') := fun h ms ι1 H1 s1 hm hn hp => by
      refine ⟨ι1, env, s1, hm, hn, ?_⟩
      cases ez : evs C ms env s1 with
      | bot => rw [ez] at hp; exact hp.elim
      | exc e s2 => rw [ez] at hp; exact hp.elim
      | ok vs s2 =>
        rw [ez] at hp
        simp only [R.quiet_ok, R.bind_ok] at hp
        intro ι2 H2 ws x2 m2 w2
        refine ⟨ι2, s2, vs, m2, w2, ?_⟩
        have hp := postX.ext hp x2
        have hn2 := hn.mono x2
        cases ef : C.fn h vs s2 with
        | bot => rw [ef] at hp; exact hp.elim
        | ok v s3 =>
          rw [ef] at hp
          intro ι3 H3 w x3 m3 w3
          refine ⟨by rw [lim_eq]; exact (by decide : 2 ≤ LIM), fun p H' hp' nt => ?_⟩
          have xn := Ext.newT (K := D.K) (ι := ι3) hp' nt
          exact hp ι3 H' _ (x3.trans xn) (m3.newT hp' nt) (((hn2.mono x3).mono xn).set (rv_mk nt.at_ (by rw [lim_eq]; exact (by decide : 2 ≤ LIM)) (.cons (.p (.str l hl)) (.cons (w3.mono xn.to) .nil))))
        | exc e s3 =>
          rw [ef] at hp
          intro ι3 H3 cl dd x3 m3 re
          obtain ⟨ecl, efs⟩ := re
          simp only at hp
          split at hp
          · rename_i hh u eq
            split at hp
            · rename_i hc
              have hpZ := hp
              clear hp
              obtain ⟨c1, rfl, c3⟩ := hc
              rw [eq] at efs
              obtain ⟨dx, fws, rfl, hdx, pfs⟩ := efs
              obtain ⟨q, qs, rfl, ⟨q1', q2'⟩, pq⟩ := Pd.consL pfs
              have := Pd.nilL pq
              subst this
              obtain ⟨qa, qb⟩ := q
              simp only at q1' q2'
              subst q1'
              rw [c1] at ecl
              have lσ : n < σ.length := by rw [← hn.1]; exact c3
              have hva : ∀ a : Addr, (σ.set n (some (.ref a)))[n]? = some (some (.ref a)) := fun a => List.getElem?_set_self lσ
              have exd : ExcD (some dx) H3 := fun d' e' => by cases e'; exact ⟨_, hdx⟩
              refine ⟨true, by rw [ecl]; exact cat.exm, fun _ a hna => ⟨ecl, ?_⟩, fun z => by cases z⟩
              refine ⟨_, hva a, exd, .ref (D.cA k), .ref (D.cA k), true, rfl, fun u z => z, cat.kit, true, rfl, ?_⟩
              simp only [if_true]
              refine ⟨_, hva a, exd, .ty "ValueError", .type "ValueError", true, rfl, fun u z => z, cat.kitV, true, rfl, ?_⟩
              simp only [if_true]
              refine ⟨_, hva a, rfl, ecl, dx, _, qb, rfl, hdx, by simp [List.lookup], by rw [lim_eq]; exact (by decide : 2 ≤ LIM), fun p H' hp' nt => ?_⟩
              have xn := Ext.newT (K := D.K) (ι := ι3) hp' nt
              have rt : RelVal D.K H' ι3 (.p (.tup [.str l2, u])) (.ref p) := .p (.tup nt.at_ (by rw [lim_eq]; exact (by decide : 2 ≤ LIM)) (.cons (.str l2 hl2) (.cons (q2'.mono xn.tup) .nil)))
              have hn3 := (hn2.mono x3).mono xn
              have fin : RelEnv D.K H' ι3 ((env.set x (some (.p (.tup [.str l2, u])))).set n none) (((σ.set n (some (.ref a))).set x (some (.ref p))).set n none) := by
                have z1 := (RelEnv.unset (n := n) (RelEnv.set (i := x) (RelEnv.mark (n := n) (w := .ref a) hn3) rt))
                refine ⟨by simpa using z1.1, fun i v e => z1.2 i v ?_⟩
                by_cases zi : i = n
                · subst zi
                  rw [List.getElem?_set_self (by simpa using c3)] at e; cases e
                · rw [List.getElem?_set_ne (Ne.symm zi)] at e ⊢
                  by_cases zx : i = x
                  · subst zx
                    by_cases li : i < env.length
                    · rw [List.getElem?_set_self li] at e
                      rw [List.getElem?_set_self (by simpa using li)]; exact e
                    · rw [List.getElem?_eq_none (by simpa using li)] at e; cases e
                  · rw [List.getElem?_set_ne (Ne.symm zx)] at e ⊢
                    rw [List.getElem?_set_ne (Ne.symm zi)]; exact e
              exact hpZ ι3 H' _ (x3.trans xn) (m3.newT hp' nt) fin
            · exact hp.elim
          · exact hp.elim
    refine ⟨ι, env, s, hm, hn, ?_⟩
    cases et : evT C c env s with
    | bot => rw [et] at hp; exact hp.elim
    | exc e s2 => rw [et] at hp; exact hp.elim
    | ok b s1 =>
      rw [et] at hp
      simp only [R.quiet_ok, R.bind_ok] at hp
      intro ι2 H2 b' x2 m2 w2
      have w2 : b = b' := w2
      subst w2
      have hp := postX.ext hp x2
      cases b with
      | true => rw [if_pos rfl] at hp ⊢; exact arm f as ι2 H2 s1 m2 (hn.mono x2) hp
      | false => rw [if_neg (by simp)] at hp ⊢; exact arm g bs ι2 H2 s1 m2 (hn.mono x2) hp
end
end U
/-! Mp2o: what passes the check is sound: statements. -/
namespace U
open PySem L2
def swNames (sc : Scope) (ts : List Expr) : List Str := ts.filterMap fun
    | .Name id pos => if sc.names.lookup id == some .local && pos.line == (ts.head?.map (·.pos.line)).getD 0 then some id else none
    | _ => none
/-- the stores are not swapped -/
def swN (sc : Scope) (tg e : Expr) : Bool := match tg, e with
  | .Tuple ts _ _, .Tuple vs _ _ => (swNames sc ts).length != ts.length || vs.all (foldedForSure 8)
  | .List .., _ => false
  | _, _ => true
theorem swN_of {env : PySem.Env} {sc : Scope} (hs : env.scope = sc) {tg e : Expr} (h : swN sc tg e = true) : swappedStores [tg] e env = pure none := by
  subst hs
  unfold swN at h
  split at h
  · rename_i ts k p vs k2 p2
    unfold swappedStores
    show (if _ then _ else _) = _
    split
    · rfl
    show (if _ then _ else _) = _
    split
    · rfl
    show (if ((swNames env.scope ts).length != ts.length || _) = true then _ else _) = _
    split
    · rfl
    rename_i h3
    simp only [Bool.or_eq_true, not_or] at h3
    rcases Bool.or_eq_true_iff.mp h with z | z
    · exact absurd z h3.1
    · show (if _ then _ else _) = _
      rw [if_pos z]
  · cases h
  · rename_i h1 h2
    unfold swappedStores
    split
    · rename_i heq
      split at heq
      · exact (h2 _ _ _ _ _ _ (List.cons.inj ‹[tg] = [_]›).1 rfl).elim
      · exact (h1 _ _ (List.cons.inj ‹[tg] = [_]›).1).elim
      · cases heq
    · rfl
theorem swPar {env : PySem.Env} {x y : Str} {px py pt pt2 : Pos} {kt k2 : Nat} {a b : Expr} (hk : env.scope.kind = .function) (ha : pl a = true) (hb : pl b = true) (hx : env.scope.names.lookup x = some .local) (hy : env.scope.names.lookup y = some .local) (hl : (py.line == px.line) = true) (hxy : x ≠ y)
    (h1 : [a, b].all (foldedForSure 8) = false) (h2 : [a, b].all (constantsAlone 8) = false) : swappedStores [.Tuple [.Name x px, .Name y py] kt pt] (.Tuple [a, b] k2 pt2) env = pure (some [x, y]) := by
  have kx : env.kindOf x = some .local := hx
  have ky : env.kindOf y = some .local := hy
  have hb' : env.blockKind = .function := by unfold Env.blockKind; rw [hk]; rfl
  have hn : swNames env.scope [.Name x px, .Name y py] = [x, y] := by
    have e1 : (NameKind.local == NameKind.local) = true := rfl
    have e2 : (some NameKind.local == some NameKind.local) = true := rfl
    have e3 : (px.line == px.line) = true := by simp
    simp only [swNames, List.filterMap_cons, List.filterMap_nil, hx, hy, e2, List.head?_cons, Option.map_some, Option.getD_some, Expr.pos, e3, hl, Bool.and_true, if_true]
  have he : ([x, y] : List Str).eraseDups.length = 2 := by
    have e : (y == x) = false := beq_eq_false_iff_ne.mpr (Ne.symm hxy)
    simp [List.eraseDups, List.eraseDupsBy, List.eraseDupsBy.loop, e]
  unfold swappedStores
  show (if _ then _ else _) = _
  rw [if_neg (by rw [hb']; simp)]
  show (if _ then _ else _) = _
  split
  · rename_i z
    exfalso
    simp only [List.any_cons, List.any_nil, Bool.or_false, Bool.or_eq_true] at z
    rcases z with z | z
    · cases a <;> first | (simp [pl] at ha; done) | (cases z; done)
    · cases b <;> first | (simp [pl] at hb; done) | (cases z; done)
  show (if ((swNames env.scope [.Name x px, .Name y py]).length != 2 || (swNames env.scope [.Name x px, .Name y py]).eraseDups.length != (swNames env.scope [.Name x px, .Name y py]).length) = true then _ else _) = _
  rw [hn, if_neg (by rw [he]; simp)]
  show (if _ then _ else _) = _
  rw [if_neg (by rw [h1]; simp)]
  show (if _ then _ else _) = _
  rw [if_neg (by rw [h2]; simp)]
  show pure (some (swNames env.scope [.Name x px, .Name y py])) = _
  rw [hn]

/-- the comprehension does not take the name's place -/
def swL (sc : Scope) (tg e : Expr) : Bool := match tg, e with
  | .Name y py, .ListComp _ _ scope pos => !(decide (sc.names.lookup y = some .local) && py.line == pos.line && !(scope.names.any fun (n, k) => n == y && (k == .local || k == .cell)))
  | .Tuple .., .ListComp .. => true
  | .Subscript .., .ListComp .. => true
  | _, e => noComp e
theorem swL_of {env : PySem.Env} {sc : Scope} (hs : env.scope = sc) {tg e : Expr} {l : Nat} (h : swL sc tg e = true) : swapsWithSole [tg] e l env = pure false := by
  subst hs
  show swapsWith e (some tg) l env = pure false
  unfold swL at h
  split at h
  · rename_i y py elt gs scope pos
    unfold swapsWith
    show (pure (env.blockKind == .function && env.kindOf y == some .local && py.line == pos.line && !(scope.names.any fun (n, k) => n == y && (k == .local || k == .cell))) : Sem Bool) = _
    congr 1
    have e1 : (env.kindOf y == some NameKind.local) = decide (env.scope.names.lookup y = some .local) := by
      show (env.scope.names.lookup y == some NameKind.local) = _
      rw [Bool.eq_iff_iff, decide_eq_true_eq]; exact beq_iff_eq
    rw [e1]
    have h' := h
    rw [Bool.not_eq_true'] at h'
    cases q : (env.blockKind == ScopeKind.function) with
    | false => rfl
    | true =>
      rw [Bool.true_and]
      exact h'
  · rfl
  · rfl
  · exact swap_of h
/-- the comprehension takes the name's place -/
def swY (sc : Scope) (tg e : Expr) : Bool := match tg, e with
  | .Name y py, .ListComp _ _ scope pos => decide (sc.names.lookup y = some .local) && py.line == pos.line && !(scope.names.any fun (n, k) => n == y && (k == .local || k == .cell))
  | _, _ => false
def kindFn (sc : Scope) : Bool := match sc.kind with
  | .function => true
  | _ => false
mutual
def okS (T : Tab) (N : List Str) (sc : Scope) : St → Stmt → Bool
  | .ex m, s => match s with
    | .Expr e _ => okE T N sc none m e && noComp e
    | _ => false
  | .asg t m, s => match s with
    | .Assign [tg] e _ => okG N sc none t tg && swN sc tg e && ((swL sc tg e && okE T N sc none m e) || (swY sc tg e && kindFn sc && okE T N sc none m e && (match t, m with | .var _, .lst (.comp ..) => true | _, _ => false)))
    | _ => false
  | .asgS o i v, s => match s with
    | .Assign [.Subscript x y _] e _ => okE T N sc none o x && okE T N sc none i y && okE T N sc none v e && pl y && noComp e
    | _ => false
  | .asgF o f v, s => match s with
    | .Assign [.Attribute x n _] e _ => decide (T.fld.lookup n = some f) && okE T N sc none o x && okE T N sc none v e && noComp e
    | _ => false
  | .par i j a b, s => match s with
    | .Assign [.Tuple [.Name x px, .Name y py] _ _] (.Tuple [p, q] _ _) _ => decide (N[i]? = some x) && decide (N[j]? = some y) && decide (i ≠ j) && decide (sc.names.lookup x = some .local) && decide (sc.names.lookup y = some .local) && decide (x ≠ y) && py.line == px.line && kindFn sc &&
      pl p && pl q && !([p, q].all (foldedForSure 8)) && !([p, q].all (constantsAlone 8)) && okE T N sc none a p && okE T N sc none b q
    | _ => false
  | .aug i o m, s => match s with
    | .AugAssign (.Name x _) p e _ => decide (p = bopOf o) && augOk o && decide (N[i]? = some x) && locB none sc x && okE T N sc none m e
    | _ => false
  | .augF o f p v, s => match s with
    | .AugAssign (.Attribute x n _) q e _ => decide (q = bopOf p) && augOk p && decide (T.fld.lookup n = some f) && okE T N sc none o x && okE T N sc none v e
    | _ => false
  | .ret m, s => match s with
    | .Return (some e) _ => okE T N sc none m e
    | _ => false
  | .retN, s => match s with
    | .Return none _ => true
    | _ => false
  | .ite c a b, s => match s with
    | .If e x y _ => okT T N sc none c e && okB T N sc a x && okB T N sc b y
    | _ => false
  | .whl c b, s => match s with
    | .While e x [] _ => okT T N sc none c e && okB T N sc b x
    | _ => false
  | .for_ t i b, s => match s with
    | .For tg e x [] _ => okG N sc none t tg && pl e && okI T N sc none i e && okB T N sc b x
    | _ => false
  | .brk, s => match s with
    | .Break _ => true
    | _ => false
  | .cnt, s => match s with
    | .Continue _ => true
    | _ => false
  | .pass, s => match s with
    | .Pass _ => true
    | _ => false
  | .raise _ _, _ => true
  | .raiseF c f m, s => match s with
    | .Raise (some (.Call (.Name x _) [e] [] _)) none _ => glB sc x && decide (T.exs.lookup x = some (c, f)) && pl e && okE T N sc none m e
    | _ => false
  | .tryT x l c f as g bs n k fl l2, s => match s with
    | .Try [.Assign [.Name xs _] (.Tuple [.Constant (.str a) _ _, .IfExp z (.Call (.Name fs _) (e1 :: es1) [] _) (.Call (.Name gs _) (e2 :: es2) [] _) _] _ _) _] [.ExceptHandler (some (.Name hx _)) (some ns)
        [.If (.BoolOp .And [.Call (.Name i1 _) [.Name n1 _, .Name kx _] [] _, .Call (.Name i2 _) [.Name n2 _, .Name vx _] [] _] _) [.Assign [.Name x2 _] (.Tuple [.Constant (.str b) _ _, .Attribute (.Name n3 _) fx _] _ _) _] [] _] _] [] [] _ =>
      decide (a = ⟨l.toArray⟩) && strOkB l && decide (b = ⟨l2.toArray⟩) && strOkB l2 && decide (N[x]? = some xs) && decide (sc.names.lookup xs = some .local) && decide (N[n]? = some ns) && decide (sc.names.lookup ns = some .local) &&
      decide (n1 = ns ∧ n2 = ns ∧ n3 = ns ∧ x2 = xs ∧ i1 = "isinstance" ∧ i2 = "isinstance" ∧ vx = "ValueError") && !(ns == ("__debug__" : Str)) && !(ns == ("__classdict__" : Str)) && (T.cat.lookup hx).isSome && decide (T.exs.lookup kx = some (k, fl)) && decide (T.fld.lookup fx = some fl) &&
      glB sc hx && glB sc kx && glB sc fs && glB sc gs && glB sc "isinstance" && glB sc "ValueError" && decide (T.fns.lookup fs = some f) && decide (T.fns.lookup gs = some g) && (e1 :: es1).all pl && (e2 :: es2).all pl &&
      okT T N sc none c z && okEs T N sc none as (e1 :: es1) && okEs T N sc none bs (e2 :: es2)
    | _ => false
def okB (T : Tab) (N : List Str) (sc : Scope) : Bk → List Stmt → Bool
  | .nil, ss => ss.isEmpty
  | .cons m r, ss => match ss with
    | s :: ss => okS T N sc m s && okB T N sc r ss
    | [] => false
end
/-- a def's body: a docstring first, or not -/
def okF (T : Tab) (N : List Str) (sc : Scope) (b : Bk) (ss : List Stmt) : Bool := match ss with
  | .Expr (.Constant (.str _) _ _) _ :: r => okB T N sc b r
  | ss => okB T N sc b ss
section
variable {D : Wd} {E : XK} {X : L2.Cx} {C : Calls} {T : Tab} {N : List Str} {sc : Scope}
theorem swY_of {env : PySem.Env} (hs : env.scope = sc) {y : Str} {py pos : Pos} {elt : Expr} {gs : List Comprehension} {scope : Scope} {l : Nat} (hk : kindFn sc = true) (h : swY sc (.Name y py) (.ListComp elt gs scope pos) = true) : sc.names.lookup y = some .local ∧ swapsWith (.ListComp elt gs scope pos) (some (.Name y py)) l env = pure true := by
  subst hs
  unfold swY at h
  simp only [Bool.and_eq_true, decide_eq_true_eq, Bool.not_eq_true'] at h
  obtain ⟨⟨h1, h2⟩, h3⟩ := h
  refine ⟨h1, sw_true ?_ h1 h2 h3⟩
  unfold kindFn at hk
  split at hk
  · assumption
  · cases hk
theorem star1 {tg : Expr} (h : noStar tg = true) (env : PySem.Env) : (assignEach [tg] env).map (·.2) = [assign tg env] := by rw [each_plain h]; rfl
theorem sole_of {tg e : Expr} {l : Nat} {env : PySem.Env} (h : noComp e = true) : swapsWithSole [tg] e l env = pure false := swap_of (t := some tg) (n := l) (env := env) h
theorem asg_sub {o i : Expr} {pos : Pos} {env : PySem.Env} (h : pl i = true) (v : Value) : assign (.Subscript o i pos) env v = (do
      let ov ← holding [v] (eval o env)
      let iv ← holding [v, ov] (eval i env)
      standAt pos
      holding [v, ov, iv] (setItem ov iv v)
      release [v, ov, iv] []) := by
  rw [arm_assign_Subscript]
  cases i <;> first | rfl | (simp [pl] at h)
theorem ss_raise {c : Nat} {as : Exs} {st : Stmt} : SS D E C X st (.raise c as) := ⟨fun pins s σ H N I ⟨ι, env, s', hs, hn, hp⟩ => hp.elim⟩
/-- the context of a def's body -/
structure BodyOk (D : Wd) (E : XK) (X : L2.Cx) (T : Tab) : Prop where
  stk : X.stack = X.env :: X.outer
  fr : X.env.frame = some X.env.locals
  tk : Takes X (fun cls d _ H => E cls d H)
  exs : ∀ x c f, T.exs.lookup x = some (c, f) → RsAt D X x c f
  cat : ∀ x c, T.cat.lookup x = some c → X.mg x = some (.ref (D.cA c)) ∧ X.mg "ValueError" = none ∧ ∀ y k f, T.exs.lookup y = some (k, f) → CatC X.K (.ref (D.cA c)) (.ref (D.cA k)) (D.cA k) (D.fN f)
theorem bv : bootBuiltins "ValueError" = some (.type "ValueError") := by decide +kernel
mutual
theorem okS_ok (hlp : C.lp = loop) (hpo : PassesOwn (model X.prog X.w) X.A X.env X.xe) (BO : BodyOk D E X T) (c : CtxOk D E C X T N sc none) : ∀ (m : U.St) (s : Stmt), okS T N sc m s = true → SS D E C X s m
  | .ex m, s, h => by
    unfold okS at h
    split at h
    · simp only [Bool.and_eq_true] at h
      exact ss_ex (okE_ok m c _ h.1) h.2
    · cases h
  | .asg t m, s, h => by
    unfold okS at h
    split at h
    · rename_i tg e p
      simp only [Bool.and_eq_true, Bool.or_eq_true] at h
      obtain ⟨⟨h1, h2⟩, h3⟩ := h
      rcases h3 with ⟨h3, h4⟩ | ⟨⟨⟨h3, h4⟩, h5⟩, h6⟩
      · exact ss_asg (okE_ok m c _ h4) (okG_ok c t tg h1) (swL_of c.hsc h3) (swN_of c.hsc h2) (star1 (okG_star h1) _)
      · split at h6
        · rename_i k t' src k' m'
          unfold okG at h1
          split at h1
          · rename_i y py
            unfold okE at h5
            unfold okL at h5
            split at h5
            · rename_i elt tg' iter ifs scope pos
              simp only [Bool.and_eq_true, decide_eq_true_eq] at h5 h1
              obtain ⟨⟨⟨⟨⟨q1, q2⟩, q3⟩, q4⟩, q5⟩, q6⟩ := h5
              obtain ⟨y1, y2⟩ := swY_of (l := p.line) c.hsc h4 h3
              exact ss_setLc c.O (by rw [c.hN]; exact h1.1) (by rw [c.hsc]; exact y1) y2 (okI_ok src c tg' _ q2) (by rw [c.hN, c.hsc]; exact blkOk_by q3) (fun s H C' cl fp => okG_ok (c.blk s H scope cl C' fp) t' tg' q4) (fun s H C' cl fp => okC_ok k' (c.blk s H scope cl C' fp) ifs q5)
                (fun s H C' cl fp => okE_ok m' (c.blk s H scope cl C' fp) elt q6) q1 (fun i hi => by rw [own_snd]; exact hi) (fun i hi => by rw [own_snd] at hi; exact hi)
            · cases h5
          · cases h1
        · cases h6
    · cases h
  | .asgS o i v, s, h => by
    unfold okS at h
    split at h
    · simp only [Bool.and_eq_true] at h
      obtain ⟨⟨⟨⟨h1, h2⟩, h3⟩, h4⟩, h5⟩ := h
      exact ss_asgS c.O (okE_ok o c _ h1) (okE_ok i c _ h2) (okE_ok v c _ h3) h4 h5 (fun v => asg_sub h4 v) (sole_of h5) (swN_of rfl rfl) rfl
    · cases h
  | .asgF o f v, s, h => by
    unfold okS at h
    split at h
    · simp only [Bool.and_eq_true, decide_eq_true_eq] at h
      obtain ⟨⟨⟨h1, h2⟩, h3⟩, h4⟩ := h
      obtain ⟨q1, q2⟩ := c.fld _ f h1
      rw [← q2]
      exact ss_asgF c.O c.F q1 (okE_ok o c _ h2) (okE_ok v c _ h3) h4
    · cases h
  | .par i j a b, s, h => by
    unfold okS at h
    split at h
    · simp only [Bool.and_eq_true, decide_eq_true_eq, Bool.not_eq_true'] at h
      obtain ⟨⟨⟨⟨⟨⟨⟨⟨⟨⟨⟨⟨⟨h1, h2⟩, h3⟩, h4⟩, h5⟩, h6⟩, h7⟩, h8⟩, h9⟩, h10⟩, h11⟩, h12⟩, h13⟩, h14⟩ := h
      have hk : X.env.scope.kind = .function := by
        rw [c.hsc]
        unfold kindFn at h8
        split at h8
        · assumption
        · cases h8
      rw [← c.hsc] at h4 h5
      exact ss_par c.O (by rw [c.hN]; exact h1) (by rw [c.hN]; exact h2) h3 h4 h5 (okE_ok a c _ h13) (okE_ok b c _ h14) h9 h10 (swPar hk h9 h10 h4 h5 h7 h6 h11 h12)
    · cases h
  | .aug i o m, s, h => by
    unfold okS at h
    split at h
    · simp only [Bool.and_eq_true, decide_eq_true_eq] at h
      obtain ⟨⟨⟨⟨h1, h2⟩, h3⟩, h4⟩, h5⟩ := h
      obtain ⟨l1, l2⟩ := loc_of c h4
      rw [h1]
      exact ss_aug c.O h2 (by rw [c.hN]; exact h3) l1 l2 (okE_ok m c _ h5)
    · cases h
  | .augF o f p v, s, h => by
    unfold okS at h
    split at h
    · simp only [Bool.and_eq_true, decide_eq_true_eq] at h
      obtain ⟨⟨⟨⟨h1, h2⟩, h3⟩, h4⟩, h5⟩ := h
      obtain ⟨q1, q2⟩ := c.fld _ f h3
      rw [h1, ← q2]
      exact ss_augF c.O c.F h2 q1 (okE_ok o c _ h4) (okE_ok v c _ h5)
    · cases h
  | .ret m, s, h => by
    unfold okS at h
    split at h
    · exact ss_ret (okE_ok m c _ h)
    · cases h
  | .retN, s, h => by
    unfold okS at h
    split at h
    · exact ss_retN
    · cases h
  | .ite k a b, s, h => by
    unfold okS at h
    split at h
    · simp only [Bool.and_eq_true] at h
      exact ss_ite (okT_ok k c _ h.1.1).1 (okB_ok hlp hpo BO c a _ h.1.2) (okB_ok hlp hpo BO c b _ h.2)
    · cases h
  | .whl k b, s, h => by
    unfold okS at h
    split at h
    · simp only [Bool.and_eq_true] at h
      exact ss_whl hlp hpo (okT_ok k c _ h.1).1 (okB_ok hlp hpo BO c b _ h.2)
    · cases h
  | .for_ t i b, s, h => by
    unfold okS at h
    split at h
    · simp only [Bool.and_eq_true] at h
      exact ss_for c.O hpo (okI_ok i c _ _ h.1.2) (okG_ok c t _ h.1.1.1) (okB_ok hlp hpo BO c b _ h.2) h.1.1.2
    · cases h
  | .brk, s, h => by
    unfold okS at h
    split at h
    · exact ss_brk
    · cases h
  | .cnt, s, h => by
    unfold okS at h
    split at h
    · exact ss_cnt
    · cases h
  | .pass, s, h => by
    unfold okS at h
    split at h
    · exact ss_pass
    · cases h
  | .raise _ _, s, h => ss_raise
  | .raiseF c' f m, s, h => by
    unfold okS at h
    split at h
    · simp only [Bool.and_eq_true, decide_eq_true_eq] at h
      obtain ⟨⟨⟨h1, h2⟩, h3⟩, h4⟩ := h
      obtain ⟨g1, g2⟩ := gl_of c h1
      exact ss_raiseF c.O BO.tk (BO.exs _ _ _ h2) g1 g2 (okE_ok m c _ h4) h3
    · cases h
  | .tryT x l c' f as g bs n k fl l2, s, h => by
    unfold okS at h
    split at h
    · simp only [Bool.and_eq_true, decide_eq_true_eq, Bool.not_eq_true'] at h
      obtain ⟨⟨⟨⟨⟨⟨⟨⟨⟨⟨⟨⟨⟨⟨⟨⟨⟨⟨⟨⟨⟨⟨⟨⟨⟨⟨h1, h2⟩, h3⟩, h4⟩, h5⟩, h6⟩, h7⟩, h8⟩, h9⟩, h10⟩, h11⟩, h12⟩, h13⟩, h14⟩, h15⟩, h16⟩, h17⟩, h18⟩, h19⟩, h20⟩, h21⟩, h22⟩, h23⟩, h24⟩, h25⟩, h26⟩, h27⟩ := h
      obtain ⟨rfl, rfl, rfl, rfl, rfl, rfl, rfl⟩ := h9
      subst h1 h3
      obtain ⟨c0, h12⟩ := Option.isSome_iff_exists.mp h12
      obtain ⟨m1, m2, m3⟩ := BO.cat _ _ h12
      have cat := m3 _ _ _ h13
      obtain ⟨q1, q2⟩ := c.fld _ fl h14
      rw [← q2]
      have R := BO.exs _ _ _ h13
      obtain ⟨a1, a2⟩ := gl_of c h15
      obtain ⟨b1, b2⟩ := gl_of c h16
      obtain ⟨f1, f2⟩ := gl_of c h17
      obtain ⟨g1, g2⟩ := gl_of c h18
      obtain ⟨i1, i2⟩ := gl_of c h19
      obtain ⟨v1, v2⟩ := gl_of c h20
      obtain ⟨_, _, _, _, bi, _⟩ := boots
      exact ss_try c.O BO.stk BO.fr BO.tk (by rw [c.hN]; exact h5) (by rw [c.hsc]; exact h6) (by rw [c.hN]; exact h7) (by show X.env.scope.names.lookup _ = _; rw [c.hsc]; exact h8) ⟨h10, h11⟩ (strOk_of h2) (strOk_of h4)
        ⟨a1, a2, .inl m1⟩ cat b1 R.mg b2 ⟨i1, c.bl _ (by decide), bi, by decide, i2⟩ ⟨v1, m2, bv, by decide, v2⟩
        (fun pn xe => (okT_ok c' (c.tr pn xe) _ h25).1) (fun pn xe => okEs_ok as (c.tr pn xe) _ h26) (fun pn xe => okEs_ok bs (c.tr pn xe) _ h27) (c.fns _ _ h21) (c.fns _ _ h22) f1 g1 f2 g2 h23 h24
    · cases h
theorem okB_ok (hlp : C.lp = loop) (hpo : PassesOwn (model X.prog X.w) X.A X.env X.xe) (BO : BodyOk D E X T) (c : CtxOk D E C X T N sc none) : ∀ (m : Bk) (s : List Stmt), okB T N sc m s = true → SB D E C X s m
  | .nil, s, h => by
    unfold okB at h
    have : s = [] := by simpa using h
    subst this
    exact sb_nil
  | .cons m r, s, h => by
    unfold okB at h
    split at h
    · simp only [Bool.and_eq_true] at h
      exact sb_cons (okS_ok hlp hpo BO c m _ h.1) (okB_ok hlp hpo BO c r _ h.2)
    · cases h
end
theorem okF_ok (hlp : C.lp = loop) (hpo : PassesOwn (model X.prog X.w) X.A X.env X.xe) (BO : BodyOk D E X T) (c : CtxOk D E C X T N sc none) {b : Bk} {ss : List Stmt} (h : okF T N sc b ss = true) : SB D E C X ss b := by
  unfold okF at h
  split at h
  · exact sb_doc (okB_ok hlp hpo BO c b _ h)
  · exact okB_ok hlp hpo BO c b _ h
end
end U
/-! Mp2p: a whole program is sound. -/
namespace U
open PySem L2
/-- what is known of the program's text and of the heap behind the top -/
structure Facts (P : Program) (w : World) (D : Wd) (mg : Str → Option Value) (base : Heap) (Pr : Prog) (T : Tab) (fa : Nat → Addr) (fd : Nat → FuncData) (ps : Nat → List Str) : Prop where
  defs : ∀ f F, Pr.fns[f]? = some F → ∃ x qual st N, Fun D.K x qual st (fa f) (fd f) ∧ FnScope N (ps f) (defScope st) ∧ (ps f).length = F.ps ∧ N.length = F.ns ∧ okF T N (defScope st) F.body (defBody st) = true
  binds : ∀ f F, Pr.fns[f]? = some F → Binds D.K (fd f) (ps f) []
  gl : ∀ x v, T.gl.lookup x = some v → GlIs v (mg x)
  bl : ∀ x ∈ blNames, mg x = none
  fns : ∀ x f, T.fns.lookup x = some f → (∃ F, Pr.fns[f]? = some F) ∧ mg x = some (.ref (fa f)) ∧ PySem.W.keepIn D.K (.ref (fa f)) = true
  cls : ∀ x c, T.cls.lookup x = some c → ∃ f F, Pr.cls[c]? = some f ∧ Pr.fns[f]? = some F ∧ mg x = some (.ref (D.cA c)) ∧ Mk D.K (D.cA c) (fa f) ∧ D.okC c = true
  mth : ∀ x c f, T.mth.lookup x = some (c, f) → (∃ F, Pr.fns[f]? = some F) ∧ Meth D.K (D.cA c) x (fa f) ∧ D.okC c = true ∧ ∀ g, D.okF g = true → D.fN g ≠ x
  exs : ∀ x c f, T.exs.lookup x = some (c, f) → ∃ fI fd ps, FnOk P w D.K mg base (L2.CX P w) 1 fI fd ps (spSup (D.cA c) (D.fN f)) ∧ OexC D.K (D.cA c) ∧ PySem.W.findIn D.K (.ref (D.cA c)) "__init__" = some (some (.ref fI)) ∧ PySem.W.typeIn D.K (.ref fI) = some (.type "function") ∧ Binds D.K fd ps [] ∧ mg x = some (.ref (D.cA c))
  cat : ∀ x c, T.cat.lookup x = some c → mg x = some (.ref (D.cA c)) ∧ mg "ValueError" = none ∧ ∀ y k f, T.exs.lookup y = some (k, f) → CatC D.K (.ref (D.cA c)) (.ref (D.cA k)) (D.cA k) (D.fN f)
  fld : ∀ x f, T.fld.lookup x = some f → D.okF f = true ∧ D.fN f = x
  cA : ∀ c, D.okC c = true → Cls D.K (D.cA c)
  na : ∀ c f, D.okC c = true → D.okF f = true → NoAttr D.K (D.cA c) (D.fN f)
  inj : ∀ f g, D.okF f = true → D.okF g = true → D.fN f = D.fN g → f = g
  hand : ∃ f d p, FnOk P w D.K mg base (L2.CX P w) 1 f d p (spOf D handG) ∧ mg T.handN = some (.ref f) ∧ PySem.W.keepIn D.K (.ref f) = true ∧ Binds D.K d p []
  draw : ∃ f d p, FnOk P w D.K mg base (L2.CX P w) 1 f d p (spOf D drawG) ∧ mg T.drawN = some (.ref f) ∧ PySem.W.keepIn D.K (.ref f) = true ∧ Binds D.K d p []
section
variable {P : Program} {w : World} {D : Wd} {mg : Str → Option Value} {base : Heap} {Pr : Prog} {T : Tab} {fa : Nat → Addr} {fd : Nat → FuncData} {ps : Nat → List Str}
theorem fok_bot {k : Nat} {f : Addr} {d : FuncData} {p : List Str} : FOk P w D mg base k f d p fun _ _ => .bot :=
  ⟨fun vs H Q E ⟨_, _, _, _, _, h⟩ => h.elim, fun A outer s H args us vs Q E hr he hb hv ⟨_, _, _, _, _, h⟩ => h.elim⟩
theorem fok_fnOf {k : Nat} {f : Nat} {F : Fn} {a : Addr} {d : FuncData} {p : List Str} {run : Nat → List Val → S → R Val} (hf : Pr.fns[f]? = some F) (h : FOk P w D mg base k a d p (run f)) : FOk P w D mg base k a d p (fnOf Pr run f) := by
  have e : ∀ vs s, fnOf Pr run f vs s = run f vs s ∨ fnOf Pr run f vs s = foot (run f) vs s := fun vs s => by
    unfold fnOf
    rw [hf]
    simp only
    split
    · exact .inl rfl
    · exact .inr rfl
  refine h.imp fun vs H Q E ⟨ι, s, us, m, r, q⟩ => ?_
  rcases e us s with z | z
  · rw [z] at q; exact ⟨ι, s, us, m, r, q⟩
  · rw [z] at q; exact foot_ok m r q
/-- how a new instance's def is run: on its objects alone, or raw -/
def iniG (Pr : Prog) (f : Nat) (run : List Val → S → R Val) (as : List Val) (s : S) : R Val := if (as.drop 1).all Val.isP then foot run as s else if (Pr.fns[f]?).any Fn.dyn then run as s else .bot
theorem ini_eq {run : Nat → List Val → S → R Val} {c f : Nat} (h : Pr.cls[c]? = some f) (vs : List Val) (s : S) : iniOf Pr run c vs s = mkG (iniG Pr f (run f)) c vs s ∨ iniOf Pr run c vs s = .bot := by
  unfold iniOf mkG iniG
  rw [h]
  simp only [List.drop_succ_cons, List.drop_zero]
  split
  · exact .inl rfl
  · split
    · exact .inl rfl
    · exact .inr rfl
theorem fok_ini {k f : Nat} {a : Addr} {d : FuncData} {p : List Str} {run : List Val → S → R Val} (h : FOk P w D mg base k a d p run) : FOk P w D mg base k a d p (iniG Pr f run) := by
  refine h.imp fun vs H Q E ⟨ι, s, us, m, r, q⟩ => ?_
  unfold iniG at q
  split at q
  · exact foot_ok m r q
  · split at q
    · exact ⟨ι, s, us, m, r, q⟩
    · exact q.elim
theorem levels (K : Facts P w D mg base Pr T fa fd ps) : ∀ (n f : Nat) (F : Fn), Pr.fns[f]? = some F → FOk P w D mg base (n + 1) (fa f) (fd f) (ps f) (runG loop Pr n f)
  | 0, f, F, hf => fok_bot
  | 1, f, F, hf => fok_bot
  | n + 2, f, F, hf => by
    have ih1 := levels K (n + 1)
    have ih0 := levels K n
    obtain ⟨x, qual, st, N, d1, d2, d3, d4, d5⟩ := K.defs f F hf
    refine fok_of d1 d2 hf d3 d4 fun X E e1 e2 e3 e4 e5 e6 e7 O hr stk fr tk hpo hfn => ?_
    have pass : Passes (L2.CX X.prog X.w) X E := passes_call tk fun _ _ _ _ h => h
    subst e1 e2 e4 e5
    have room1 : Room (n + 2) X.A := hr
    have BO : BodyOk D E X T := {
      stk := stk
      fr := fr
      tk := tk
      exs := fun z c g hz => by
        obtain ⟨fI, fd', ps', q1, q2, q3, q4, q5, q6⟩ := K.exs z c g hz
        exact ⟨by rw [e3]; exact q2, ⟨1, fI, fd', ps', by rw [e3]; exact q1, room1.mono (by omega), by rw [e3]; exact q3, by rw [e3]; exact q4, by rw [e3]; exact q5⟩, q6⟩
      cat := fun z c hz => by
        obtain ⟨q1, q2, q3⟩ := K.cat z c hz
        exact ⟨q1, q2, fun y k g hy => by rw [e3]; exact q3 y k g hy⟩ }
    refine okF_ok rfl hpo BO (T := T) (N := N) (sc := defScope st) ?_ d5
    have at_ : ∀ (z : Str) (g : Nat), T.fns.lookup z = some g → FnAt D E X z (fnOf Pr (runG loop Pr (n + 1)) g) := fun z g hz => by
      obtain ⟨⟨G, hG⟩, k2, k3⟩ := K.fns z g hz
      refine ⟨⟨n + 2, fa g, fd g, ps g, ?_, room1, k2, by rw [e3]; exact k3, by rw [e3]; exact K.binds g G hG⟩, pass⟩
      rw [e3]
      exact fok_fnOf hG (ih1 g G hG)
    exact {
      O := O
      hN := e6
      hsc := e7
      hfb := fun x _ => hfn x
      F := ⟨fun c h => by rw [e3]; exact K.cA c h, fun c g h h' => by rw [e3]; exact K.na c g h h', K.inj⟩
      gl := K.gl
      bl := K.bl
      fns := at_
      cls := fun z c hz => by
        obtain ⟨g, G, q1, q2, q3, q4, q5⟩ := K.cls z c hz
        refine ⟨iniG Pr g (runG loop Pr n g), ⟨⟨n + 1, fa g, fd g, ps g, ?_, room1, q3, by rw [e3]; exact q4, by rw [e3]; exact K.binds g G q2⟩, pass, q5⟩, fun vs s => ini_eq q1 vs s⟩
        rw [e3]
        exact fok_ini (ih0 g G q2)
      mth := fun z c g hz => by
        obtain ⟨⟨G, hG⟩, k2, k3, k4⟩ := K.mth z c g hz
        refine ⟨⟨n + 2, fa g, fd g, ps g, ?_, room1, by rw [e3]; exact k2, by rw [e3]; exact K.binds g G hG⟩, pass, by rw [e3]; exact K.cA c k3, k4⟩
        rw [e3]
        exact fok_fnOf hG (ih1 g G hG)
      fld := K.fld
      hand := fun _ => by
        obtain ⟨g, d, p, q1, q2, q3, q4⟩ := K.hand
        exact ⟨⟨1, g, d, p, by rw [e3]; exact q1, room1.mono (by omega), q2, by rw [e3]; exact q3, by rw [e3]; exact q4⟩, pass⟩
      draw := fun _ => by
        obtain ⟨g, d, p, q1, q2, q3, q4⟩ := K.draw
        exact ⟨⟨1, g, d, p, by rw [e3]; exact q1, room1.mono (by omega), q2, by rw [e3]; exact q3, by rw [e3]; exact q4⟩, pass⟩ }
end
end U
/-! Mp2q: the draws. -/
namespace U
def m_handL : Fn := { ps := 1, ns := 3, raw := true, body :=
  (.cons (.asg (.var 1) (.lst (.comp (.var 2) (.ex (.slc (.var 0) .no (.some (.lit (.int 63))))) .no (.bi .abs (.cons (.bi .int (.cons (.var 2) .nil)) .nil)))))
  (.cons (.ret (.lst (.disp (.cons (.var 1) (.cons (.lit (.int 0)) (.cons (.lit (.int 0)) (.cons (.bin .add (.lit (.int 1)) (.bi .len (.cons (.var 1) .nil))) (.cons (.lit (.int 0)) .nil))))))))
  .nil)) }
def m_drawL : Fn := { ps := 2, ns := 5, raw := true, body :=
  (.cons (.ite (.and (.cmp .eq (.idx (.var 0) (.lit (.int 2))) (.lit (.int 0))) (.cmp .lt (.idx (.var 0) (.lit (.int 1))) (.bi .len (.cons (.idx (.var 0) (.lit (.int 0))) .nil)))) (.cons (.asg (.var 3) (.idx (.idx (.var 0) (.lit (.int 0))) (.idx (.var 0) (.lit (.int 1)))))
  (.cons (.asgS (.var 0) (.lit (.int 1)) (.bin .add (.idx (.var 0) (.lit (.int 1))) (.lit (.int 1))))
  (.cons (.asgS (.var 0) (.lit (.int 3)) (.bin .mod (.bi .int (.cons (.bin .add (.bin .add (.bin .mul (.idx (.var 0) (.lit (.int 3))) (.lit (.int 69621))) (.var 3)) (.lit (.int 11))) .nil)) (.lit (.int 2147483629))))
  (.cons (.ite (.cmp .ge (.var 3) (.bin .pow (.lit (.int 10)) (.lit (.int 18)))) (.cons (.asgS (.var 0) (.lit (.int 2)) (.var 3))
  .nil) .nil)
  .nil)))) .nil)
  (.cons (.ite (.cmp .gt (.idx (.var 0) (.lit (.int 2))) (.lit (.int 0))) (.cons (.asg (.var 4) (.bin .mod (.bi .int (.cons (.idx (.var 0) (.lit (.int 2))) .nil)) (.var 1)))
  (.cons (.asgS (.var 0) (.lit (.int 2)) (.bin .fdiv (.idx (.var 0) (.lit (.int 2))) (.var 1)))
  (.cons (.ret (.var 4))
  .nil))) .nil)
  (.cons (.asgS (.var 0) (.lit (.int 4)) (.bin .add (.idx (.var 0) (.lit (.int 4))) (.lit (.int 1))))
  (.cons (.asg (.var 2) (.bin .mod (.bi .int (.cons (.bin .mul (.bi .int (.cons (.bin .add (.idx (.var 0) (.lit (.int 3))) (.bin .mul (.lit (.int 7919)) (.idx (.var 0) (.lit (.int 4))))) .nil)) (.lit (.int 48271))) .nil)) (.lit (.int 2147483647))))
  (.cons (.asg (.var 2) (.bin .mod (.bi .int (.cons (.bin .mul (.var 2) (.bin .add (.bin .fdiv (.var 2) (.lit (.int 1009))) (.lit (.int 69621)))) .nil)) (.lit (.int 2147483647))))
  (.cons (.asg (.var 2) (.bin .mod (.bi .int (.cons (.bin .mul (.var 2) (.bin .add (.bin .fdiv (.var 2) (.lit (.int 2003))) (.lit (.int 40692)))) .nil)) (.lit (.int 2147483399))))
  (.cons (.ret (.bin .mod (.bi .int (.cons (.bin .fdiv (.var 2) (.lit (.int 16))) .nil)) (.var 1)))
  .nil))))))) }
def Pr0 : Prog := ⟨[m_handL, m_drawL], []⟩
noncomputable def C0 : Calls := ⟨fun _ _ _ => .bot, fun _ _ _ => .bot, loop⟩
abbrev pI (i : Int) : Val := .p (.int i)
def handH (d : Hand) : List Obj := [.list (d.cells.map pI), .list [.r 0, pI d.at_, pI d.big, pI d.mix, pI d.cnt]]
theorem idx_hand (d : Hand) (sc : List Int) (i : Int) : idxV (.r 1) (pI i) ⟨handH d, none, sc⟩ = atI [.r 0, pI d.at_, pI d.big, pI d.mix, pI d.cnt] i := rfl
theorem s64a (x : Int) : small64 (x % 2147483647) = true := by
  unfold small64
  have h1 := Int.emod_nonneg x (show (2147483647 : Int) ≠ 0 by decide)
  have h2 := Int.emod_lt_of_pos x (show (0 : Int) < 2147483647 by decide)
  simp only [Bool.and_eq_true, decide_eq_true_eq]
  constructor <;> omega
theorem s64c : small64 69621 = true := by decide
theorem s64d : small64 7919 = true := by decide
theorem s64e : small64 48271 = true := by decide
theorem n1 : ¬ (1000000000000000000 : Int) ≤ 0 := by decide
theorem draw_run (d : Hand) (k : Int) (sc : List Int) (h0 : 0 < k) (h1 : k < 1073741824) :
    body Pr0 C0 1 [.r 1, pI k] ⟨handH d, none, sc⟩ = .ok (pI (d.draw k).1) ⟨handH (d.draw k).2, none, sc⟩ := by
  obtain ⟨cells, at_, big, mix, cnt⟩ := d
  by_cases hb : big = 0
  · subst hb
    by_cases ha : at_ < cells.length
    · have ha' : ((at_ : Int) < (cells.length : Int)) := by omega
      by_cases hq : (1000000000000000000 : Int) ≤ cells[at_]
      · have hq' : (0 : Int) < cells[at_] := by omega
        simp [body, Pr0, m_drawL, exs, ex, evT, ev, evs, handH, idxV, atI, ixN, cmpV, cmpP, opt, PV.dep, PV.eq, biV, lenV, setV, setO, binop, binP, s64a, s64c, s64d, s64e, Hand.draw, Tg.bind, h0, h1, ha, ha', hq, hq']
      · simp [body, Pr0, m_drawL, exs, ex, evT, ev, evs, handH, idxV, atI, ixN, cmpV, cmpP, opt, PV.dep, PV.eq, biV, lenV, setV, setO, binop, binP, s64a, s64c, s64d, s64e, Hand.draw, Tg.bind, h0, h1, ha, ha', hq]
    · have ha' : ¬ ((at_ : Int) < (cells.length : Int)) := by omega
      simp [body, Pr0, m_drawL, exs, ex, evT, ev, evs, handH, idxV, atI, ixN, cmpV, cmpP, opt, PV.dep, PV.eq, biV, lenV, setV, setO, binop, binP, s64a, s64c, s64d, s64e, Hand.draw, Tg.bind, h0, h1, ha, ha']
  · by_cases hp : 0 < big
    · simp [body, Pr0, m_drawL, exs, ex, evT, ev, evs, handH, idxV, atI, ixN, cmpV, cmpP, opt, PV.dep, PV.eq, biV, lenV, setV, setO, binop, binP, s64a, s64c, s64d, s64e, Hand.draw, Tg.bind, h0, h1, hb, hp]
    · simp [body, Pr0, m_drawL, exs, ex, evT, ev, evs, handH, idxV, atI, ixN, cmpV, cmpP, opt, PV.dep, PV.eq, biV, lenV, setV, setO, binop, binP, s64a, s64c, s64d, s64e, Hand.draw, Tg.bind, h0, h1, hb, hp]
end U
namespace U
theorem cut63 (sc : List Int) : cut (sc.map pI) none (some 63) = (sc.take 63).map pI := by
  unfold cut sIx
  simp [List.map_take]
theorem turns_abs (g : S → Bool) (h : List Obj) (sc : List Int) (hg : g ⟨h, none, sc⟩ = true) : ∀ (xs : List Int) (e : Env), e.length = 3 →
    turns g (fun v => (Tg.var 2).bind v (wipeE e [2])) (fun env s => evC C0 .no env s) (fun env s => ev C0 (.bi .abs (.cons (.bi .int (.cons (.var 2) .nil)) .nil)) env s) (xs.map pI) ⟨h, none, sc⟩ = .ok (xs.map fun i => pI (i.natAbs : Int)) ⟨h, none, sc⟩
  | [], e, l => by simp [turns, hg]
  | x :: xs, e, l => by
    have ih := turns_abs g h sc hg xs e l
    match e, l with
    | [a, b, c], _ =>
      simp only [List.map_cons, turns, hg, if_true]
      simp [Tg.bind, wipeE, ev, evs, biV, evC] at ih ⊢
      rw [ih]
      simp
      split <;> omega
mutual
theorem PV.beq_rfl : ∀ v : PV, v.beq v = true
  | .non => rfl
  | .bool b => by simp [PV.beq]
  | .int i => by simp [PV.beq]
  | .str s => by simp [PV.beq]
  | .tup xs => by simp [PV.beq, PV.beqs_rfl xs]
theorem PV.beqs_rfl : ∀ v : List PV, PV.beqs v v = true
  | [] => rfl
  | x :: xs => by simp [PV.beqs, PV.beq_rfl x, PV.beqs_rfl xs]
end
theorem beqs_ints : ∀ xs : List Int, Val.beqs (xs.map pI) (xs.map pI) = true
  | [] => rfl
  | x :: xs => by simp [Val.beqs, Val.beq, PV.beq, beqs_ints xs]
theorem hand_run (sc : List Int) (hl : sc.length ≤ 63) : body Pr0 C0 0 [.sc] ⟨[], none, sc⟩ = .ok (.r 2) ⟨[.list ((sc.take 63).map pI), .list ((Hand.start sc).cells.map pI), .list [.r 1, pI 0, pI 0, pI (Hand.start sc).mix, pI 0]], none, sc⟩ := by
  have h2 : (sc.take 63).length ≤ LIM := by simp; exact Nat.le_trans (Nat.min_le_left _ _) (by decide)
  have h3 : ((sc.take 63).map pI).length ≤ LIM := by simpa using h2
  have ht := turns_abs (fun s => still s [(0, (sc.take 63).map pI)]) [.list ((sc.take 63).map pI)] sc (by unfold still; simp only [List.all_cons, List.all_nil, Bool.and_true, List.getElem?_cons_zero]; exact beqs_ints _) (sc.take 63) [some .sc, none, none] rfl
  have e1 : evI C0 (.ex (.slc (.var 0) .no (.some (.lit (.int 63))))) [some .sc, none, none] ⟨[], none, sc⟩ = .ok ((sc.take 63).map pI, [(0, (sc.take 63).map pI)]) ⟨[.list ((sc.take 63).map pI)], none, sc⟩ := by
    have := cut63 sc
    simp only [evI, ev, evO]
    simp [slcV, this, itemsOf, guardOf]
  have e2 : evL C0 (.comp (.var 2) (.ex (.slc (.var 0) .no (.some (.lit (.int 63))))) .no (.bi .abs (.cons (.bi .int (.cons (.var 2) .nil)) .nil))) [some .sc, none, none] ⟨[], none, sc⟩ = .ok ((sc.take 63).map fun i => pI (i.natAbs : Int)) ⟨[.list ((sc.take 63).map pI)], none, sc⟩ := by
    simp only [evL, e1, R.bind_ok, if_pos h3]
    exact ht
  have e3 : ev C0 (.lst (.comp (.var 2) (.ex (.slc (.var 0) .no (.some (.lit (.int 63))))) .no (.bi .abs (.cons (.bi .int (.cons (.var 2) .nil)) .nil)))) [some .sc, none, none] ⟨[], none, sc⟩ = .ok (.r 1) ⟨[.list ((sc.take 63).map pI), .list ((sc.take 63).map fun i => pI (i.natAbs : Int))], none, sc⟩ := by
    simp only [ev, e2, R.bind_ok]
    simp [new]
  have e4 : exs C0 m_handL.body [some .sc, none, none] ⟨[], none, sc⟩ = .ret (.r 2) ⟨[.list ((sc.take 63).map pI), .list ((sc.take 63).map fun i => pI (i.natAbs : Int)), .list [.r 1, pI 0, pI 0, pI (1 + ((sc.take 63).length : Int)), pI 0]], none, sc⟩ := by
    unfold m_handL
    simp only [exs, ex, e3, R.then_ok, Tg.bind]
    have h5 : 5 ≤ LIM := by decide
    simp [ev, evs, evL, biV, lenV, binop, binP, new, h5]
  have e5 : body Pr0 C0 0 [.sc] ⟨[], none, sc⟩ = match exs C0 m_handL.body [some .sc, none, none] ⟨[], none, sc⟩ with
      | .next _ s => .ok (.p .non) s
      | .ret v s => .ok v s
      | .exc e s => .exc e s
      | _ => .bot := rfl
  rw [e5, e4]
  simp [Hand.start, List.map_map, Function.comp_def]
end U
/-! Mp2s: the hand and the draw promise what the interpreter says. -/
namespace U
open PySem L2
section
variable {D : Wd} {E : XK} {H : Hp} {Q : VK}
theorem ints_back {K : PySem.W.Frag} {ι : Inj} {ns : List Int} {ws : List V} (h : Paired (RelVal K H ι) (ns.map pI) ws) : ws = ns.map V.int := ints_of h
theorem small_hand {ι : Inj} {s : S} {d : Hand} {a b : Addr} (m : Sim D H ι s) (hh : HandAt H ι.a d a b) : Sim D H ⟨[b, a], none, ι.sc⟩ ⟨handH d, none, s.sc⟩ := by
  obtain ⟨h1, h2, h3, h4, h5, h6⟩ := hh
  refine ⟨rfl, ?_, fun n o c e1 e2 => ?_, rfl, fun c hc => ?_⟩
  · simp [Ne.symm h5]
  · match n, e1, e2 with
    | 0, e1, e2 =>
      cases e1; cases e2
      exact ⟨_, h2, by rw [lim_eq, List.length_map]; exact Nat.le_trans h6 (by decide), scr_rel _⟩
    | 1, e1, e2 =>
      cases e1; cases e2
      exact ⟨_, h1, by rw [lim_eq]; exact (show 5 ≤ LIM by decide), .cons (.r rfl) (.cons (.p (.int _)) (.cons (.p (.int _)) (.cons (.p (.int _)) (.cons (.p (.int _)) .nil))))⟩
    | n + 2, e1, e2 => simp [handH] at e1
  · obtain ⟨l1, l2⟩ := m.scr c hc
    refine ⟨l1, ?_⟩
    rcases l2 with l2 | ⟨⟨o, l2⟩, l3, l4⟩
    · exact .inl l2
    · refine .inr ⟨⟨o, l2⟩, fun z => ?_, fun q z => nomatch z⟩
      have z : c = b ∨ c = a := by simpa using z
      rcases z with z | z
      · subst z; rw [h2] at l2; cases l2
      · subst z; rw [h1] at l2; cases l2
/-- the big state behind a draw -/
theorem back_hand {ι ι2 : Inj} {s : S} {d d' : Hand} {a b : Addr} {H2 : Hp} (m : Sim D H ι s) (hd : s.d = some d) (e : ι.hd = some (a, b)) (hh : HandAt H ι.a d a b) (e2 : Ext D.K ⟨[b, a], none, ι.sc⟩ H ι2 H2) (m2 : Sim D H2 ι2 ⟨handH d', none, s.sc⟩) (hc : d'.cells = d.cells) :
    Ext D.K ι H ι H2 ∧ Sim D H2 ι { s with d := some d' } := by
  obtain ⟨h1, h2, h3, h4, h5, h6⟩ := hh
  have eb : ι2.a[0]? = some b := e2.get rfl
  have ea : ι2.a[1]? = some a := e2.get rfl
  obtain ⟨wb, b1, b2, b3⟩ := m2.list (n := 0) (xs := d'.cells.map pI) eb rfl
  obtain ⟨wa, a1, a2, a3⟩ := m2.list (n := 1) (xs := [.r 0, pI d'.at_, pI d'.big, pI d'.mix, pI d'.cnt]) ea rfl
  have hb2 : H2 b = some (.lst (d.cells.map V.int)) := by rw [b1, ints_back b3, hc]
  have ha2 : H2 a = some (.lst [.ref b, .int d'.at_, .int d'.big, .int d'.mix, .int d'.cnt]) := by
    obtain ⟨w0, r0, q0, p0, a3⟩ := Pd.consL a3
    obtain ⟨w1, r1, q1, p1, a3⟩ := Pd.consL a3
    obtain ⟨w2, r2, q2, p2, a3⟩ := Pd.consL a3
    obtain ⟨w3, r3, q3, p3, a3⟩ := Pd.consL a3
    obtain ⟨w4, r4, q4, p4, a3⟩ := Pd.consL a3
    cases Pd.nilL a3
    obtain ⟨c, ec, hc'⟩ := rv_r p0
    rw [eb] at hc'
    cases hc'
    rw [a1, q0, q1, q2, q3, q4, ec, rv_int p1, rv_int p2, rv_int p3, rv_int p4]
  have keep : ∀ c o, H c = some o → c ∉ ι.a → (∀ q, ι.hd ≠ some (c, q)) → H2 c = some o := fun c o hc' n nh => by
    by_cases z : c = b
    · subst z; rw [h2] at hc'; rw [hb2, ← hc']
    · have z2 : c ≠ a := fun y => by subst y; exact nh b e
      exact e2.keep c o hc' (by simp [z, z2]) fun q y => nomatch y
  have same : ∀ c, c ∈ ι.a → ∀ o, H c = some o → H2 c = some o := fun c hc' o ho => by
    have z : c ≠ b := fun y => by subst y; exact h4 hc'
    have z2 : c ≠ a := fun y => by subst y; exact h3 hc'
    exact e2.keep c o ho (by simp [z, z2]) fun q y => nomatch y
  have hE : Ext D.K ι H ι H2 := ⟨⟨[], by simp⟩, fun _ h => .inl h, fun _ h => h, fun h p q h' => (by rw [h] at h'; cases h'), rfl, keep, e2.stay, e2.tup⟩
  refine ⟨hE, m.len, m.nd, fun n o c q1 q2 => ?_, ?_, fun c hc' => ?_⟩
  · have ro := m.obj n o c q1 q2
    obtain ⟨u, hu⟩ := ro.ex
    exact ro.mono hE.to (by rw [hu, same c (List.mem_of_getElem? q2) u hu])
  · exact ⟨a, b, e, ha2, by rw [hb2, hc], h3, h4, h5, by rw [hc]; exact h6⟩
  · obtain ⟨l1, l2⟩ := m.scr c hc'
    refine ⟨l1, ?_⟩
    rcases l2 with l2 | ⟨⟨o, l2⟩, l3, l4⟩
    · exact .inl l2
    · exact .inr ⟨⟨o, keep c _ l2 l3 l4⟩, l3, l4⟩
theorem draw_cells (d : Hand) (k : Int) : (d.draw k).2.cells = d.cells := by
  unfold Hand.draw
  split <;> (dsimp only; repeat' split) <;> rfl
theorem sp_draw {ws : List V} (h : spOf D drawG ws H Q E) : spOf D (body Pr0 C0 1) ws H Q E := by
  obtain ⟨ι, s, vs, m, r, h⟩ := h
  unfold drawG at h
  split at h
  · unfold drawV at h
    split at h
    · rename_i k d hd
      split at h
      · rename_i hk
        obtain ⟨w1, w2, ew, r1, r2⟩ := pd2 r
        subst ew
        have hh := m.hand
        rw [hd] at hh
        obtain ⟨a, b, e1, hh⟩ := hh
        have ew1 : w1 = .ref a := by
          cases r1 with
          | hd e => rw [e1] at e; cases e; rfl
        subst ew1
        refine ⟨_, _, [.r 1, pI k], small_hand m hh, .cons (.r rfl) (.cons (by rw [rv_int r2]; exact .p (.int k)) .nil), ?_⟩
        rw [draw_run d k s.sc hk.1 hk.2]
        intro ι2 H2 w e2 m2 rw2
        obtain ⟨x1, x2⟩ := back_hand m hd e1 hh e2 m2 (draw_cells d k)
        exact h ι H2 w x1 x2 (.p (rv_p rw2))
      · exact h.elim
    · exact h.elim
  · exact h.elim
theorem sp_hand {ws : List V} (h : spOf D handG ws H Q E) : spOf D (body Pr0 C0 0) ws H Q E := by
  obtain ⟨ι, s, vs, m, r, h⟩ := h
  unfold handG at h
  split at h
  · unfold handV at h
    split at h
    · rename_i hd
      obtain ⟨w1, ew, r1⟩ := pd1 r
      subst ew
      obtain ⟨c, ew1, hsc⟩ : ∃ c, w1 = .ref c ∧ ι.sc = some c := by
        cases r1 with
        | sc e => exact ⟨_, rfl, e⟩
      subst ew1
      have hn : ι.hd = none := by have := m.hand; rw [hd] at this; exact this
      have hl := (m.scr c hsc).1
      have m0 : Sim D H ⟨[], none, ι.sc⟩ ⟨[], none, s.sc⟩ := by
        refine ⟨rfl, .nil, fun n o a e1 e2 => by simp at e1, rfl, fun c' hc' => ?_⟩
        obtain ⟨l1, l2⟩ := m.scr c' hc'
        refine ⟨l1, ?_⟩
        rcases l2 with l2 | ⟨l2, _⟩
        · exact .inl l2
        · exact .inr ⟨l2, by simp, fun q z => nomatch z⟩
      refine ⟨_, _, [.sc], m0, .cons (.sc hsc) .nil, ?_⟩
      rw [hand_run s.sc hl]
      intro ι2 H2 w e2 m2 rw2
      obtain ⟨a, ew, ea⟩ := rv_r rw2
      subst ew
      have lb : 1 < ι2.a.length := by have := m2.len; rw [this]; simp
      obtain ⟨b, eb⟩ : ∃ b, ι2.a[1]? = some b := ⟨_, List.getElem?_eq_getElem lb⟩
      have fresh : ∀ x ∈ ι2.a, H x = none := fun x hx => (e2.new x hx).elim (fun z => by simp at z) id
      have fa := fresh a (List.mem_of_getElem? ea)
      have fb := fresh b (List.mem_of_getElem? eb)
      have hab : a ≠ b := fun z => by
        subst z
        obtain ⟨p1, q1⟩ := List.getElem?_eq_some_iff.mp ea
        obtain ⟨p2, q2⟩ := List.getElem?_eq_some_iff.mp eb
        have := (List.getElem_inj m2.nd).mp (q1.trans q2.symm)
        omega
      obtain ⟨wb, b1, b2, b3⟩ := m2.list (n := 1) (xs := (Hand.start s.sc).cells.map pI) eb rfl
      obtain ⟨wa, a1, a2, a3⟩ := m2.list (n := 2) (xs := [.r 1, pI 0, pI 0, pI (Hand.start s.sc).mix, pI 0]) ea rfl
      have hb2 : H2 b = some (.lst ((Hand.start s.sc).cells.map V.int)) := by rw [b1, ints_back b3]
      have ha2 : H2 a = some (.lst [.ref b, .int ((Hand.start s.sc).at_ : Int), .int (Hand.start s.sc).big, .int (Hand.start s.sc).mix, .int (Hand.start s.sc).cnt]) := by
        obtain ⟨w0, r0, q0, p0, a3⟩ := Pd.consL a3
        obtain ⟨w1, r1, q1, p1, a3⟩ := Pd.consL a3
        obtain ⟨w2, r2, q2, p2, a3⟩ := Pd.consL a3
        obtain ⟨w3, r3, q3, p3, a3⟩ := Pd.consL a3
        obtain ⟨w4, r4, q4, p4, a3⟩ := Pd.consL a3
        cases Pd.nilL a3
        obtain ⟨c, ec, hc'⟩ := rv_r p0
        rw [eb] at hc'
        cases hc'
        rw [a1, q0, q1, q2, q3, q4, ec, rv_int p1, rv_int p2, rv_int p3, rv_int p4]
        rfl
      have keep : ∀ c o, H c = some o → H2 c = some o := fun c o hc' => e2.keep c o hc' (by simp) fun q y => nomatch y
      have hE : Ext D.K ι H { ι with hd := some (a, b) } H2 := ⟨⟨[], by simp⟩, fun _ h => .inl h, fun q h => (by rw [hn] at h; cases h), fun _ p q h' => (by cases h'; exact ⟨fa, fb⟩), rfl, fun c o h _ _ => keep c o h, e2.stay, e2.tup⟩
      refine h _ H2 _ hE ⟨m.len, m.nd, fun n o c q1 q2 => ?_, ?_, fun c hc' => ?_⟩ (.hd rfl)
      · have ro := m.obj n o c q1 q2
        obtain ⟨u, hu⟩ := ro.ex
        exact ro.mono hE.to (by rw [hu, keep c u hu])
      · exact ⟨a, b, rfl, ha2, hb2, m.notMem fa, m.notMem fb, hab, by simp [Hand.start]; omega⟩
      · obtain ⟨l1, l2⟩ := m.scr c hc'
        refine ⟨l1, ?_⟩
        rcases l2 with l2 | ⟨⟨o, l2⟩, l3, l4⟩
        · exact .inl l2
        · refine .inr ⟨⟨o, keep c _ l2⟩, l3, fun q z => ?_⟩
          cases z
          rw [l2] at fa; cases fa
    · exact h.elim
  · exact h.elim
end
end U
/-! Mp2t: a law's hand and draw. -/
namespace U
open PySem L2
def T0 : Tab := ⟨[], [], [], [], [], [], [], "", ""⟩
section
variable {P : Program} {w : World} {D : Wd} {mg : Str → Option Value} {base : Heap} {fa : Addr} {fd : FuncData} {ps N : List Str} {x qual : Str} {st : Stmt}
theorem fok_hd {i : Nat} {F : Fn} (hF : Fun D.K x qual st fa fd) (S : FnScope N ps (defScope st)) (hf : Pr0.fns[i]? = some F) (hps : ps.length = F.ps) (hns : N.length = F.ns) (hok : okF T0 N (defScope st) F.body (defBody st) = true)
    (bl : ∀ x ∈ blNames, mg x = none) (cA : ∀ c, D.okC c = true → Cls D.K (D.cA c)) (na : ∀ c f, D.okC c = true → D.okF f = true → NoAttr D.K (D.cA c) (D.fN f)) (inj : ∀ f g, D.okF f = true → D.okF g = true → D.fN f = D.fN g → f = g) :
    FOk P w D mg base 1 fa fd ps (body Pr0 C0 i) := by
  refine fok_of (k := 0) hF S hf hps hns fun X E e1 e2 e3 e4 e5 e6 e7 O hr stk fr tk hpo hfn => ?_
  subst e1 e2 e4 e5
  refine okF_ok rfl hpo ⟨stk, fr, tk, fun x c f h => by simp [T0] at h, fun x c h => by simp [T0] at h⟩ (T := T0) (N := N) (sc := defScope st) ?_ hok
  exact {
    O := O
    hN := e6
    hsc := e7
    hfb := fun x _ => hfn x
    F := ⟨fun c h => by rw [e3]; exact cA c h, fun c g h h' => by rw [e3]; exact na c g h h', inj⟩
    gl := fun x v h => by simp [T0] at h
    bl := bl
    fns := fun x v h => by simp [T0] at h
    cls := fun x v h => by simp [T0] at h
    mth := fun x c v h => by simp [T0] at h
    fld := fun x v h => by simp [T0] at h
    hand := fun h => absurd rfl h
    draw := fun h => absurd rfl h }
theorem fok_hand (h : FOk P w D mg base 1 fa fd ps (body Pr0 C0 0)) : FnOk P w D.K mg base (L2.CX P w) 1 fa fd ps (spOf D handG) :=
  h.imp fun _ _ _ _ q => sp_hand q
theorem fok_draw (h : FOk P w D mg base 1 fa fd ps (body Pr0 C0 1)) : FnOk P w D.K mg base (L2.CX P w) 1 fa fd ps (spOf D drawG) :=
  h.imp fun _ _ _ _ q => sp_draw q
end
end U
/-! Mx4: the look at such a class in the written part. -/
namespace U
open PySem PySem.W PySem.Calls PySem.Spec PyProof.Rows L2 NdefX
/-- an exception class: its name, its parameter, its field -/
structure XE where
  x : Str
  par : Str
  f : Str
def XE.Bd (q : XE) : Prop := ∀ (name qual : Str) (body : List Stmt) (scope : Scope) (cl : List (Str × Addr)) (kV doc pm cdv ct : Value) (an : Option Addr) (p1 p2 : Pos) (u v : Value),
  bindArgs (fnX name qual ⟨[], [⟨"self", none, p1⟩, ⟨q.par, none, p2⟩], none, [], [], none, []⟩ body scope cl .none kV doc pm an cdv ct) ⟨[u, v], []⟩ = pure [(("self" : Str), u), (q.par, v)]
def codeB (P : Program) (K : PySem.W.Frag) (c : Addr) : Bool := match K.lookup c with
  | some ⟨_, _, .fields vs, _⟩ => (match (vs[2]? : Option Value) with
    | some (Value.str file _) => (P.main.file : Str) == file
    | _ => false)
  | _ => false
def cellB (K : PySem.W.Frag) (c C : Addr) : Bool := match K.lookup c with
  | some ⟨_, _, .cell (some (.ref D)), _⟩ => decide (D = C)
  | _ => false
def isNone' {α : Type} : Option α → Bool
  | none => true
  | _ => false
def parB (par : Str) (p : Arguments) : Bool := match p with
  | ⟨[], [⟨s, none, _⟩, ⟨q, none, _⟩], none, [], [], none, []⟩ => decide (s = "self") && decide (q = par)
  | _ => false
def bodyB (par f : Str) (b : FuncBody) : Bool := match b with
  | .stmts [.Expr (.Call (.Attribute (.Call (.Name s _) [] [] _) i ap) [.Name x _] [] cp) _, .Assign [.Attribute (.Name sf _) g _] (.Name y _) _] =>
    decide (s = "super" ∧ i = "__init__" ∧ x = par ∧ sf = "self" ∧ g = f ∧ y = par) && (ap.endLine == cp.line)
  | _ => false
def oexB (K : PySem.W.Frag) (C : Addr) : Bool := match K.lookup C with
  | some ⟨.type t, _, .cls cd, sl⟩ => (match cd.mro, sl.toList with
    | .ref C' :: bm, [_, _, _, _, some (.builtin n), _] => decide (t = "type") && decide (C' = C) && decide (n = "ValueError.__new__") && !cd.hasDel && cd.hasDict && HandSPX.refsVE bm
    | _, _ => false)
  | _ => false
def eqI (a b : Option Value) : Bool := decide (a = b)
def supB (P : Program) (K : PySem.W.Frag) (q : XE) : Bool :=
  let C := He.ga K q.x
  let fI := He.ma K C "__init__"
  (match K.lookup fI with
  | some ⟨_, _, .func ⟨_, qual, params, body, scope, gl, [(cn, cc)], .none, _, _, _, _, .ref cda, _, bs⟩, _⟩ =>
    decide (cn = "__class__") && decide (gl = mainGlobals) && decide (bs = builtinsNs) && nscB ["self", q.par, "__class__"] ["self", q.par] ["__class__"] scope && parB q.par params && bodyB q.par q.f body && codeIn K (.ref cda) qual && codeB P K cda && cellB K cc C && decide (scope.names.lookup ("super" : Str) = some .globalImplicit)
  | _ => false) &&
  oexB K C && eqI ((findIn K (.ref C) "__setattr__").getD none) (some (.builtin "object.__setattr__")) && decide (subIn K (.ref C) (.type "BaseException") = some true) && decide (typeIn K (.ref C) = some (.type "type")) && keepIn K (.ref C) && isNone' (P.main.scope.names.lookup ("super" : Str)) &&
  He.eqO (nsIn K mainGlobals "super") (some none) && He.eqO (nsIn K cStatics "thirdparty.any") (some none) && He.eqO (ks_superIn K C C "__init__") (some (some (.builtin "ValueError.__init__"))) && decide (mroIn K C (.ref C) = some true) && decide (subIn K (.ref C) (.type "ValueError") = some true) &&
  He.eqO (findIn K (.ref C) q.f) (some none) && He.eqO (findIn K (.ref C) "__init__") (some (some (.ref fI))) && decide (typeIn K (.ref fI) = some (.type "function")) && !(q.par == ("self" : Str)) && !(q.par == ("__debug__" : Str)) && !(q.par == ("__classdict__" : Str))
theorem isNone_ok {α : Type} {o : Option α} (h : isNone' o = true) : o.isSome = false := by cases o <;> first | rfl | cases h
theorem parB_ok {par : Str} {p : Arguments} (h : parB par p = true) : ∃ p1 p2, p = ⟨[], [⟨"self", none, p1⟩, ⟨par, none, p2⟩], none, [], [], none, []⟩ := by
  unfold parB at h
  split at h
  · simp only [Bool.and_eq_true, decide_eq_true_eq] at h
    obtain ⟨rfl, rfl⟩ := h
    exact ⟨_, _, rfl⟩
  · cases h
theorem bodyB_ok {par f : Str} {b : FuncBody} (h : bodyB par f b = true) : ∃ p0 p1 p2 p3 p4 p5 p6 p7 p8 p9, b = .stmts [.Expr (.Call (.Attribute (.Call (.Name "super" p0) [] [] p1) "__init__" p2) [.Name par p3] [] p4) p5, .Assign [.Attribute (.Name "self" p6) f p7] (.Name par p8) p9] ∧ (p2.endLine == p4.line) = true := by
  unfold bodyB at h
  split at h
  · simp only [Bool.and_eq_true, decide_eq_true_eq] at h
    obtain ⟨⟨rfl, rfl, rfl, rfl, rfl, rfl⟩, h2⟩ := h
    exact ⟨_, _, _, _, _, _, _, _, _, _, rfl, h2⟩
  · cases h
theorem codeB_ok {P : Program} {K : PySem.W.Frag} {c : Addr} (h : codeB P K c = true) : ∃ c1 d1 vs sl file tf, K.lookup c = some ⟨c1, d1, .fields vs, sl⟩ ∧ vs[2]? = some (.str file tf) ∧ ((P.main.file : Str) == file) = true := by
  unfold codeB at h
  split at h
  · rename_i c1 d1 vs sl e
    split at h
    · rename_i file tf e2
      exact ⟨_, _, _, _, _, _, e, e2, h⟩
    · cases h
  · cases h
theorem cellB_ok {K : PySem.W.Frag} {c C : Addr} (h : cellB K c C = true) : ∃ c1 d1 sl, K.lookup c = some ⟨c1, d1, .cell (some (.ref C)), sl⟩ := by
  unfold cellB at h
  split at h
  · rename_i e
    have := of_decide_eq_true h
    subst this
    exact ⟨_, _, _, e⟩
  · cases h
theorem oexB_ok {K : PySem.W.Frag} {C : Addr} (h : oexB K C = true) : ∃ nm q N bs bm sn sub ab col dd k0 k1 k2 k3 k5, K.lookup C = some (excClassObj nm q C N bs bm true sn sub ab col dd k0 k1 k2 k3 k5 "ValueError.__new__") ∧ HandSPX.refsVE bm = true := by
  unfold oexB at h
  split at h
  · rename_i t dd cd sl e
    split at h
    · rename_i C' bm k0 k1 k2 k3 n k5 hm hs
      simp only [Bool.and_eq_true, decide_eq_true_eq, Bool.not_eq_true'] at h
      obtain ⟨⟨⟨⟨⟨rfl, rfl⟩, rfl⟩, h4⟩, h5⟩, h6⟩ := h
      obtain ⟨nm, bs, mro, ns, qn, hd, sn, sub, ab, col, del⟩ := cd
      simp only at hm h4 h5
      subst hm h4 h5
      have hsl : sl = #[k0, k1, k2, k3, some (.builtin "ValueError.__new__"), k5] := by rw [← hs]
      subst hsl
      exact ⟨_, _, _, _, _, _, _, _, _, _, _, _, _, _, _, e, h6⟩
    · cases h
  · cases h
theorem supB_ok {P : Program} {K : PySem.W.Frag} {q : XE} (h : supB P K q = true) (hb : q.Bd) : ∃ fI cc cda G fd, SupC P K (He.ga K q.x) fI cc cda G q.par q.f ["self", q.par, "__class__"] fd ∧ findIn K (.ref (He.ga K q.x)) "__init__" = some (some (.ref fI)) ∧ typeIn K (.ref fI) = some (.type "function") ∧ Binds K fd ["self", q.par] [] := by
  unfold supB at h
  simp only [Bool.and_eq_true] at h
  obtain ⟨⟨⟨⟨⟨⟨⟨⟨⟨⟨⟨⟨⟨⟨⟨⟨⟨h1, h2⟩, h3⟩, h4⟩, h5⟩, h6⟩, h7⟩, h8⟩, h9⟩, h10⟩, h11⟩, h12⟩, h13⟩, h14⟩, h15⟩, h16⟩, h17⟩, h18⟩ := h
  split at h1
  · rename_i oc od nm qual params body scope gl cn cc kV doc pm an cda ct bs osl e
    simp only [Bool.and_eq_true, decide_eq_true_eq] at h1
    obtain ⟨⟨⟨⟨⟨⟨⟨⟨⟨a1, a2⟩, a3⟩, a4⟩, a5⟩, a6⟩, a7⟩, a8⟩, a9⟩, a10⟩ := h1
    subst a1 a2 a3
    obtain ⟨p1, p2, rfl⟩ := parB_ok a5
    obtain ⟨b0, b1, b2, b3, b4, b5, b6, b7, b8, b9, rfl, bl⟩ := bodyB_ok a6
    have hset : findIn K (.ref (He.ga K q.x)) "__setattr__" = some (some (.builtin "object.__setattr__")) := by
      have z := of_decide_eq_true h3
      cases y : findIn K (.ref (He.ga K q.x)) "__setattr__" with
      | none => rw [y] at z; cases z
      | some o => rw [y] at z; exact congrArg some z
    refine ⟨_, cc, cda, ⟨nm, qual, _, _, scope, [("__class__", cc)], cda⟩, _, {
      oex := ⟨oexB_ok h2, hset, of_decide_eq_true h4, of_decide_eq_true h5, h6⟩
      scope := nscope_by a4
      fn := ⟨oc, od, .none, kV, doc, pm, an, ct, osl, rfl, e⟩
      cl := rfl
      code := a7
      hp := ⟨_, rfl, rfl⟩
      file := codeB_ok a8
      cell := cellB_ok a9
      top := isNone_ok h7
      hks := a10
      sup := He.eqO_ok h8
      opq := He.eqO_ok h9
      nxt := He.eqO_ok h10
      self_ := of_decide_eq_true h11
      ve := of_decide_eq_true h12
      noat := He.eqO_ok h13
      body := ⟨_, _, _, _, _, _, _, _, _, _, rfl⟩
      lines := fun p0 p1 p2 p3 p4 p5 p6 p7 p8 p9 e => ?_
      xs := ⟨by simpa using h16, by simpa using h17, by simpa using h18, rfl, rfl⟩ }, He.eqO_ok h14, of_decide_eq_true h15, .all fun us hl => ?_⟩
    · simp only [List.cons.injEq, Stmt.Expr.injEq, Expr.Call.injEq, Expr.Attribute.injEq] at e
      obtain ⟨⟨⟨⟨_, _, rfl⟩, _, _, rfl⟩, _⟩, _⟩ := e
      exact bl
    · match us, (show us.length = 2 from hl) with
      | [u, v], _ => exact hb _ _ _ _ _ _ _ _ _ _ _ _ _ u v
  · cases h1
def catB (K : PySem.W.Frag) (h x f : Str) : Bool :=
  let A := He.ga K x
  decide (exmOne K (.ref A) (.ref (He.ga K h)) = some true) && He.eqO (findIn K (.ref A) "__getattribute__") (some (some (.builtin "BaseException.__getattribute__"))) && He.eqO (findIn K (.ref A) "__getattr__") (some none) && decide (subIn K (.ref A) (.type "BaseException") = some true) && hasDictIn K A &&
  He.eqO (findIn K (.ref A) "__class__") (some (some (.builtin "object.__class__"))) && He.eqO (specialIn K (.builtin "object.__class__") "__get__") (some (some (.builtin "getset_descriptor.__get__"))) && decide (takesIn K (.builtin "object.__class__") = some true) && decide (mroIn K A (.type "object") = some true) &&
  He.eqO (findIn K (.ref A) f) (some none) && decide (kitOne K (.ref A) (.ref A) = some true) && decide (kitOne K (.ref A) (.type "ValueError") = some true)
theorem catB_ok {K : PySem.W.Frag} {h x f : Str} (q : catB K h x f = true) : CatC K (.ref (He.ga K h)) (.ref (He.ga K x)) (He.ga K x) f := by
  unfold catB at q
  simp only [Bool.and_eq_true] at q
  obtain ⟨⟨⟨⟨⟨⟨⟨⟨⟨⟨⟨h1, h2⟩, h3⟩, h4⟩, h5⟩, h6⟩, h7⟩, h8⟩, h9⟩, h10⟩, h11⟩, h12⟩ := q
  have e1 := of_decide_eq_true h1
  have e4 := of_decide_eq_true h4
  have e8 := of_decide_eq_true h8
  have e9 := of_decide_eq_true h9
  exact ⟨rfl, e1, ⟨He.eqO_ok h2, He.eqO_ok h3, e4, h5, He.eqO_ok h6, He.eqO_ok h7, e8, e9⟩, ⟨He.eqO_ok h2, He.eqO_ok h3, e4, h5⟩, He.eqO_ok h10, of_decide_eq_true h11, of_decide_eq_true h12⟩
/-! ### the Hook: the facts, the defs, one more Bool -/
def asC (g : Addr → Option PySem.Obj) (n : Nat) : List Addr := He.asD g n ++ [cStatics]
def obsK (fa : List He.Fa) (fn : List He.DefD) (ex : PySem.W.Frag → Bool) (K : PySem.W.Frag) : He.AlD × Bool := (He.obsD fa fn K, ex K)
def obsC (n : Nat) (fa : List He.Fa) (fn : List He.DefD) (ex : PySem.W.Frag → Bool) (g : Addr → Option PySem.Obj) : He.AlD × Bool := obsK fa fn ex (He.frG g (asC g n))
def hookC (n : Nat) (fa : List He.Fa) (fn : List He.DefD) (ex : PySem.W.Frag → Bool) : PySem.W.Hook where
  α := He.AlD × Bool
  obs := fun s => obsC n fa fn ex s.heap.get?
  val := fun _ => (He.valD fn, true)
  says := fun _ h => ∃ K : PySem.W.Frag, K.In h ∧ He.SaysD fa fn K ∧ ex K = true
  of := fun _ _ e => ⟨_, He.frG_in, congrArg (fun z : He.AlD × Bool => z.1) e, congrArg (fun z : He.AlD × Bool => z.2) e⟩
  keeps := fun _ _ _ ⟨K, hK, c⟩ k => ⟨K, PySem.W.Frag.In.keeps hK k, c⟩
theorem obsC_eq {n : Nat} {fa : List He.Fa} {fn : List He.DefD} {ex : PySem.W.Frag → Bool} {g : Addr → Option PySem.Obj} {s : Shared} (h : ∀ a, g a = s.heap.get? a) : obsC n fa fn ex g = (hookC n fa fn ex).obs s := by
  rw [show g = s.heap.get? from funext h]; rfl
end U
/-! Mp2u: from a law's data to what must be known of its program. -/
namespace U
open PySem L2
/-- one def of the program: its name, where it stands, its statement, its names, how many parameters -/
structure DE where
  x : Str
  at_ : Str × Option Str
  qual : Str
  st : Stmt
  N : List Str
  np : Nat
def DE.ps (q : DE) : List Str := q.N.take q.np
def DE.d (q : DE) : He.DefD := ⟨q.at_, q.x, q.qual, defArgs q.st, defBody q.st, defScope q.st, [], []⟩
def DE.Bd (q : DE) : Prop := ∀ (kV doc pm : Value) (an : Option Addr) (cdv ct : Value) (us : List Value), us.length = q.ps.length → bindArgs (PySem.W.fnOf q.x q.qual (defArgs q.st) (defBody q.st) (defScope q.st) .none kV doc pm an cdv ct) ⟨us, []⟩ = pure (q.ps.zip us)
def scB (N ps : List Str) (sc : Scope) : Bool := decide (sc.kind = .function) && !sc.isCoroutine && !sc.isGenerator && decide N.Nodup && decide (N.take ps.length = ps) &&
  (ps.all fun x => decide (sc.names.lookup x = some .local) || decide (sc.names.lookup x = some .cell)) && sc.names.all fun y => decide (y.2 ≠ .free)
theorem scB_ok {N ps : List Str} {sc : Scope} (h : scB N ps sc = true) : FnScope N ps sc := by
  simp only [scB, Bool.and_eq_true, decide_eq_true_eq, Bool.not_eq_true', List.all_eq_true, Bool.or_eq_true] at h
  obtain ⟨⟨⟨⟨⟨⟨h1, h2⟩, h3⟩, h4⟩, h5⟩, h6⟩, h7⟩ := h
  exact ⟨h1, h2, h3, h4, h5, h6, h7⟩
def deB (T : Tab) (q : DE) (F : Fn) : Bool := scB q.N q.ps (defScope q.st) && decide (q.ps.length = F.ps) && decide (q.N.length = F.ns) && okF T q.N (defScope q.st) F.body (defBody q.st)
/-- the data of a law -/
structure LawD where
  Pr : Prog
  T : Tab
  des : List DE
  hand : DE
  draw : DE
  xes : List XE
/-- all classes: those of instances, those of exceptions, those that are caught -/
def LawD.cls (L : LawD) : List (Str × Nat) := L.T.cls ++ L.T.exs.map (fun q => (q.1, q.2.1)) ++ L.T.cat
def LawD.cN (L : LawD) (c : Nat) : Str := ((L.cls.find? fun q => q.2 == c).map (·.1)).getD ""
def LawD.fN (L : LawD) (c : Nat) : Str := ((L.T.fld.find? fun q => q.2 == c).map (·.1)).getD ""
def LawD.okC (L : LawD) (c : Nat) : Bool := L.T.cls.any fun q => q.2 == c
def LawD.okF (L : LawD) (c : Nat) : Bool := L.T.fld.any fun q => q.2 == c
def glFa (q : Str × PV) : He.Fa := match q.2 with
  | .int i => .int q.1 i
  | .str l => .str q.1 ⟨l.toArray⟩
  | _ => .glo q.1
def LawD.fa0 (L : LawD) : List He.Fa := (L.T.fns.map fun q => .glo q.1) ++ [.glo L.T.handN, .glo L.T.drawN] ++ (L.T.cls.flatMap fun q => [.glo q.1, .cls q.1, .mkr q.1]) ++ (L.T.mth.map fun q => .meth (L.cN q.2.1) q.1) ++ L.T.gl.map glFa ++ blNames.map .free ++
  L.T.cls.flatMap fun q => L.T.fld.map fun z => .noat q.1 z.1
def LawD.fa1 (L : LawD) : List He.Fa := (if L.T.exs.isEmpty && L.T.cat.isEmpty then [] else [.free "super", .free "ValueError"]) ++ (L.T.exs.map fun q => .glo q.1) ++ (L.T.cat.map fun q => .glo q.1)
def LawD.fa (L : LawD) : List He.Fa := L.fa0 ++ L.fa1
/-- what else is looked at -/
def LawD.ex (L : LawD) (P : Program) (K : PySem.W.Frag) : Bool := (L.xes.all fun q => supB P K q) && L.T.cat.all fun h => L.T.exs.all fun q => catB K h.1 q.1 (L.fN q.2.2)
def LawD.fn (L : LawD) : List He.DefD := (L.des ++ [L.hand, L.draw]).map DE.d
def strB (l : List Nat) : Bool := decide (l.length ≤ sizeLine) && l.all fun c => decide (c < 1114112)
def deAll (T : Tab) : List DE → List Fn → Bool
  | [], [] => true
  | q :: qs, F :: Fs => deB T q F && deAll T qs Fs
  | _, _ => false
/-- the check of all that but the heap -/
def LawD.ok (L : LawD) : Bool :=
  (L.T.exs.all fun q => decide (L.cN q.2.1 = q.1) && L.xes.any fun z => decide (z.x = q.1) && decide (z.f = L.fN q.2.2)) &&
  (L.T.cat.all fun q => decide (L.cN q.2 = q.1)) &&
  (L.T.fns.all fun q => match L.des[q.2]? with
    | some d => decide (d.at_ = (q.1, none))
    | none => false) &&
  (L.T.cls.all fun q => decide (L.cN q.2 = q.1) && match L.Pr.cls[q.2]? with
    | some f => (match L.des[f]? with
      | some d => decide (d.at_ = (q.1, some ("__init__" : Str)))
      | none => false)
    | none => false) &&
  (L.T.mth.all fun q => L.okC q.2.1 && (L.T.fld.all fun z => decide (z.1 ≠ q.1)) && match L.des[q.2.2]? with
    | some d => decide (d.at_ = (L.cN q.2.1, some q.1))
    | none => false) &&
  (L.T.fld.all fun q => decide (L.fN q.2 = q.1)) &&
  (L.T.fld.all fun q => L.T.fld.all fun z => decide (L.fN q.2 = L.fN z.2 → q.2 = z.2)) &&
  (L.T.gl.all fun q => match q.2 with
    | .int _ => true
    | .str l => strB l
    | _ => false) &&
  decide (L.hand.at_ = (L.T.handN, none)) && decide (L.draw.at_ = (L.T.drawN, none)) && deB T0 L.hand m_handL && deB T0 L.draw m_drawL && deAll L.T L.des L.Pr.fns
theorem deAll_get {T : Tab} : ∀ {qs : List DE} {Fs : List Fn}, deAll T qs Fs = true → ∀ {f : Nat} {F : Fn}, Fs[f]? = some F → ∃ q, qs[f]? = some q ∧ deB T q F = true
  | [], [], _, f, F, h => by simp at h
  | q :: qs, G :: Fs, h, f, F, e => by
    simp only [deAll, Bool.and_eq_true] at h
    cases f with
    | zero => simp at e; subst e; exact ⟨q, rfl, h.1⟩
    | succ f => exact deAll_get h.2 (by simpa using e)
  | [], _ :: _, h, _, _, _ => by simp [deAll] at h
  | _ :: _, [], h, _, _, _ => by simp [deAll] at h
theorem deAll_put {T : Tab} : ∀ {qs : List DE} {Fs : List Fn}, deAll T qs Fs = true → ∀ {f : Nat} {q : DE}, qs[f]? = some q → ∃ F, Fs[f]? = some F
  | [], [], _, f, F, h => by simp at h
  | q :: qs, G :: Fs, h, f, F, e => by
    simp only [deAll, Bool.and_eq_true] at h
    cases f with
    | zero => exact ⟨G, rfl⟩
    | succ f => exact deAll_put h.2 (by simpa using e)
  | [], _ :: _, h, _, _, _ => by simp [deAll] at h
  | _ :: _, [], h, _, _, _ => by simp [deAll] at h
theorem lookup_in {α : Type} : ∀ {l : List (Str × α)} {x : Str} {v : α}, l.lookup x = some v → (x, v) ∈ l
  | [], x, v, h => by cases h
  | (y, u) :: r, x, v, h => by
    rw [List.lookup_cons] at h
    split at h
    · rename_i e
      have e := eq_of_beq e
      cases h; subst e
      exact List.mem_cons_self ..
    · exact List.mem_cons_of_mem _ (lookup_in h)
theorem strB_ok {l : List Nat} (h : strB l = true) : StrOk l := by
  simp only [strB, Bool.and_eq_true, decide_eq_true_eq, List.all_eq_true] at h
  exact h
section
variable {P : Program} {w : World} {K : PySem.W.Frag} {mg : Str → Option Value} {base h : Heap} {L : LawD}
def LawD.wd (L : LawD) (K : PySem.W.Frag) : Wd := ⟨K, fun c => He.ga K (L.cN c), L.fN, L.okC, L.okF⟩
def LawD.at_ (L : LawD) (f : Nat) : Str × Option Str := match L.des[f]? with
  | some q => q.at_
  | none => ("", none)
def LawD.ps (L : LawD) (f : Nat) : List Str := match L.des[f]? with
  | some q => q.ps
  | none => []
theorem says_fact {fa : List He.Fa} {fn : List He.DefD} (c : He.SaysD fa fn K) {f : He.Fa} (h : f ∈ fa) : f.ok K = true := by
  obtain ⟨i, hi⟩ := List.getElem?_of_mem h
  exact He.SaysD.fact c i hi
theorem fun_of {d : DE} {f : Addr} {fd : FuncData} (F : FunD K d.x d.qual (defArgs d.st) (defBody d.st) (defScope d.st) [] [] f fd) : Fun K d.x d.qual d.st f fd := by
  obtain ⟨oc, od, dV, kV, doc, pm, an, cdv, ct, osl, e, lk, hcd, hD, hK⟩ := F.ex
  rcases hD with ⟨_, z⟩ | ⟨z, _⟩
  · rw [z] at e
    exact ⟨⟨oc, od, kV, doc, pm, an, cdv, ct, osl, e, lk, hcd⟩, F.kp⟩
  · exact absurd rfl z
theorem facts_of (hok : L.ok = true) (hB : ∀ q ∈ L.des ++ [L.hand, L.draw], q.Bd) (X : K.In h) (G : h.Ns mainGlobals mg) (c : He.SaysD L.fa L.fn K) (hx : L.ex P K = true) (hXB : ∀ q ∈ L.xes, q.Bd) :
    ∃ fd : Nat → FuncData, (∀ f q, L.des[f]? = some q → FunD K q.x q.qual (defArgs q.st) (defBody q.st) (defScope q.st) [] [] (He.fAd K q.at_) (fd f)) ∧ ∀ base : Heap, Facts P w (L.wd K) mg base L.Pr L.T (fun f => He.fAd K (L.at_ f)) fd L.ps := by
  simp only [LawD.ok, Bool.and_eq_true, decide_eq_true_eq] at hok
  obtain ⟨⟨⟨⟨⟨⟨⟨⟨⟨⟨⟨⟨k01, k02⟩, k1⟩, k2⟩, k3⟩, k4⟩, k5⟩, k6⟩, k7⟩, k8⟩, k9⟩, k10⟩, k11⟩ := hok
  rw [List.all_eq_true] at k01 k02 k1 k2 k3 k4 k5 k6
  unfold LawD.ex at hx
  rw [Bool.and_eq_true, List.all_eq_true, List.all_eq_true] at hx
  obtain ⟨hx1, hx2⟩ := hx
  have fact : ∀ {f : He.Fa}, f ∈ L.fa0 → f.ok K = true := fun hf => says_fact c (List.mem_append_left _ hf)
  have fact1 : ∀ {f : He.Fa}, f ∈ L.fa1 → f.ok K = true := fun hf => says_fact c (List.mem_append_right _ hf)
  have dfn : ∀ (i : Nat) (q : DE), (L.des ++ [L.hand, L.draw])[i]? = some q → ∃ fd, FunD K q.x q.qual (defArgs q.st) (defBody q.st) (defScope q.st) [] [] (He.fAd K q.at_) fd := fun i q hq => by
    have e : L.fn[i]? = some q.d := by unfold LawD.fn; rw [List.getElem?_map, hq]; rfl
    exact He.SaysD.def_ c i e
  obtain ⟨fdH, FH⟩ := dfn L.des.length L.hand (by simp)
  obtain ⟨fdD, FD⟩ := dfn (L.des.length + 1) L.draw (by simp)
  have ex : ∀ f : Nat, ∃ fd : FuncData, ∀ q : DE, L.des[f]? = some q → FunD K q.x q.qual (defArgs q.st) (defBody q.st) (defScope q.st) [] [] (He.fAd K q.at_) fd := fun f => by
    cases hq : L.des[f]? with
    | none => exact ⟨fdH, fun q z => by cases z⟩
    | some q =>
      obtain ⟨fd, F⟩ := dfn f q (by rw [List.getElem?_append_left (List.getElem?_eq_some_iff.mp hq).1]; exact hq)
      exact ⟨fd, fun q' z => by cases z; exact F⟩
  obtain ⟨fd, hfd⟩ := Classical.axiomOfChoice ex
  have gd : ∀ {f : Nat} {F : Fn}, L.Pr.fns[f]? = some F → ∃ q, L.des[f]? = some q ∧ deB L.T q F = true := fun hf => deAll_get k11 hf
  have at_of : ∀ {f : Nat} {q : DE}, L.des[f]? = some q → L.at_ f = q.at_ := fun hq => by unfold LawD.at_; rw [hq]
  have ps_of : ∀ {f : Nat} {q : DE}, L.des[f]? = some q → L.ps f = q.ps := fun hq => by unfold LawD.ps; rw [hq]
  have bl : ∀ x ∈ blNames, mg x = none := fun x hx => He.free_ok X G (fact (by unfold LawD.fa0; simp only [List.mem_append, List.mem_map]; exact .inl (.inr ⟨x, hx, rfl⟩)))
  have okc : ∀ {cn : Nat}, L.okC cn = true → ∃ x, (x, cn) ∈ L.T.cls ∧ L.cN cn = x := fun hc => by
    simp only [LawD.okC, List.any_eq_true, beq_iff_eq] at hc
    obtain ⟨⟨x, c'⟩, hm, rfl⟩ := hc
    have := k2 _ hm
    simp only [Bool.and_eq_true, decide_eq_true_eq] at this
    exact ⟨x, hm, this.1⟩
  have okf : ∀ {g : Nat}, L.okF g = true → ∃ x, (x, g) ∈ L.T.fld ∧ L.fN g = x := fun hc => by
    simp only [LawD.okF, List.any_eq_true, beq_iff_eq] at hc
    obtain ⟨⟨x, c'⟩, hm, rfl⟩ := hc
    exact ⟨x, hm, by simpa using k4 _ hm⟩
  have cA : ∀ cn, L.okC cn = true → Cls K (He.ga K (L.cN cn)) := fun cn hc => by
    obtain ⟨x, hm, e⟩ := okc hc
    rw [e]
    exact He.cls_ok (fact (by
      unfold LawD.fa0
      simp only [List.mem_append, List.mem_flatMap]
      exact .inl (.inl (.inl (.inl (.inr ⟨_, hm, by simp⟩))))))
  have na : ∀ cn g, L.okC cn = true → L.okF g = true → NoAttr K (He.ga K (L.cN cn)) (L.fN g) := fun cn g hc hg => by
    obtain ⟨x, hm, e⟩ := okc hc
    obtain ⟨y, hm2, e2⟩ := okf hg
    rw [e, e2]
    exact He.noat_ok (fact (by
      unfold LawD.fa0
      simp only [List.mem_append, List.mem_flatMap, List.mem_map]
      exact .inr ⟨_, hm, _, hm2, rfl⟩))
  have inj : ∀ f g, L.okF f = true → L.okF g = true → L.fN f = L.fN g → f = g := fun f g hf hg e => by
    obtain ⟨x, hm, e1⟩ := okf hf
    obtain ⟨y, hm2, e2⟩ := okf hg
    have := k5 _ hm
    rw [List.all_eq_true] at this
    exact (of_decide_eq_true (this _ hm2)) e
  have gloH : mg L.T.handN = some (.ref (He.ga K L.T.handN)) := He.glo_ok X G (fact (by unfold LawD.fa0; simp))
  have gloD : mg L.T.drawN = some (.ref (He.ga K L.T.drawN)) := He.glo_ok X G (fact (by unfold LawD.fa0; simp))
  refine ⟨fd, fun f q hq => hfd f q hq, fun base => ?_⟩
  exact {
    defs := fun f F hf => by
      obtain ⟨q, hq, hd⟩ := gd hf
      simp only [deB, Bool.and_eq_true, decide_eq_true_eq] at hd
      obtain ⟨⟨⟨d1, d2⟩, d3⟩, d4⟩ := hd
      refine ⟨q.x, q.qual, q.st, q.N, ?_, ?_, ?_, d3, d4⟩
      · rw [at_of hq]; exact fun_of (hfd f q hq)
      · rw [ps_of hq]; exact scB_ok d1
      · rw [ps_of hq]; exact d2
    binds := fun f F hf => by
      obtain ⟨q, hq, hd⟩ := gd hf
      rw [ps_of hq]
      exact FunD.bindsN (hfd f q hq) (hB q (List.mem_append_left _ (List.mem_of_getElem? hq)))
    gl := fun x v hx => by
      have hm := lookup_in hx
      have h6 := k6 _ hm
      have hf : glFa (x, v) ∈ L.fa0 := by
        unfold LawD.fa0
        simp only [List.mem_append, List.mem_map]
        exact .inl (.inl (.inr ⟨_, hm, rfl⟩))
      cases v with
      | int i => exact He.int_ok X G (fact hf)
      | str l => exact ⟨strB_ok h6, He.str_ok X G (fact hf)⟩
      | _ => cases h6
    bl := bl
    fns := fun x f hx => by
      have hm := lookup_in hx
      have h1 := k1 _ hm
      cases hq : L.des[f]? with
      | none => simp only [hq] at h1; cases h1
      | some q =>
        simp only [hq, decide_eq_true_eq] at h1
        have e : He.fAd K (L.at_ f) = He.ga K x := by rw [at_of hq, h1]; rfl
        have F := hfd f q hq
        refine ⟨deAll_put k11 hq, ?_, ?_⟩
        · rw [e]; exact He.glo_ok X G (fact (by unfold LawD.fa0; simp only [List.mem_append, List.mem_map]; exact .inl (.inl (.inl (.inl (.inl (.inl ⟨_, hm, rfl⟩)))))))
        · rw [at_of hq]; exact F.kp
    cls := fun x cn hx => by
      have hm := lookup_in hx
      have h2 := k2 _ hm
      simp only [Bool.and_eq_true, decide_eq_true_eq] at h2
      obtain ⟨e1, h2⟩ := h2
      cases hf : L.Pr.cls[cn]? with
      | none => simp only [hf] at h2; cases h2
      | some f =>
        simp only [hf] at h2
        cases hq : L.des[f]? with
        | none => simp only [hq] at h2; cases h2
        | some q =>
          simp only [hq, decide_eq_true_eq] at h2
          obtain ⟨F, hF⟩ := deAll_put k11 hq
          have hin : ∀ z ∈ ([.glo x, .cls x, .mkr x] : List He.Fa), z ∈ L.fa0 := fun z hz => by
            unfold LawD.fa0
            simp only [List.mem_append, List.mem_flatMap]
            exact .inl (.inl (.inl (.inl (.inr ⟨_, hm, hz⟩))))
          have e : (L.wd K).cA cn = He.ga K x := by unfold LawD.wd; simp only [e1]
          refine ⟨f, F, rfl, hF, ?_, ?_, ?_⟩
          · rw [e]; exact He.glo_ok X G (fact (hin _ (by simp)))
          · rw [e, at_of hq, h2]; exact He.mkr_ok (fact (hin _ (by simp)))
          · exact List.any_eq_true.mpr ⟨_, hm, by simp⟩
    mth := fun x cn f hx => by
      have hm := lookup_in hx
      have h3 := k3 _ hm
      simp only [Bool.and_eq_true] at h3
      obtain ⟨⟨a1, a2⟩, a3⟩ := h3
      cases hq : L.des[f]? with
      | none => simp only [hq] at a3; cases a3
      | some q =>
        simp only [hq, decide_eq_true_eq] at a3
        refine ⟨deAll_put k11 hq, ?_, a1, fun g hg => ?_⟩
        · rw [at_of hq, a3]
          exact He.meth_ok (fact (by unfold LawD.fa0; simp only [List.mem_append, List.mem_map]; exact .inl (.inl (.inl (.inr ⟨_, hm, rfl⟩)))))
        · obtain ⟨y, hy, e⟩ := okf hg
          rw [List.all_eq_true] at a2
          have := a2 _ hy
          simp only [decide_eq_true_eq] at this
          show L.fN g ≠ x
          rw [e]
          exact this
    exs := fun x cn f hm0 => by
      have hm := lookup_in hm0
      have h1 := k01 _ hm
      simp only [Bool.and_eq_true, decide_eq_true_eq, List.any_eq_true] at h1
      obtain ⟨e1, z, hz, e2, e3⟩ := h1
      obtain ⟨fI, cc, cda, G', fd', S, s1, s2, s3⟩ := supB_ok (hx1 _ hz) (hXB _ hz)
      have ne : (L.T.exs.isEmpty && L.T.cat.isEmpty) = false := by
        cases hl : L.T.exs with
        | nil => rw [hl] at hm; exact absurd hm List.not_mem_nil
        | cons _ _ => rfl
      have hsup : mg "super" = none := He.free_ok X G (fact1 (by unfold LawD.fa1; rw [ne]; exact List.mem_append_left _ (List.mem_append_left _ List.mem_cons_self)))
      have eA : (L.wd K).cA cn = He.ga K z.x := by unfold LawD.wd; simp only [e1, e2]
      have eF : (L.wd K).fN f = z.f := e3.symm
      rw [eA, eF]
      refine ⟨fI, fd', _, sup_ok (k := 0) S hsup, S.oex, s1, s2, s3, ?_⟩
      rw [e2]
      exact He.glo_ok X G (fact1 (by unfold LawD.fa1; simp only [List.mem_append, List.mem_map]; exact .inl (.inr ⟨_, hm, rfl⟩)))
    cat := fun x cn hm0 => by
      have hm := lookup_in hm0
      have e1 := of_decide_eq_true (k02 _ hm)
      have ne : (L.T.exs.isEmpty && L.T.cat.isEmpty) = false := by
        cases hl : L.T.cat with
        | nil => rw [hl] at hm; exact absurd hm List.not_mem_nil
        | cons _ _ => rw [List.isEmpty_cons, Bool.and_false]
      have eA : (L.wd K).cA cn = He.ga K x := by unfold LawD.wd; simp only [e1]
      rw [eA]
      refine ⟨He.glo_ok X G (fact1 (by unfold LawD.fa1; simp only [List.mem_append, List.mem_map]; exact .inr ⟨_, hm, rfl⟩)), He.free_ok X G (fact1 (by unfold LawD.fa1; rw [ne]; exact List.mem_append_left _ (List.mem_append_left _ (List.mem_cons_of_mem _ List.mem_cons_self)))), fun y k g hy => ?_⟩
      have hy := lookup_in hy
      have h1 := k01 _ hy
      simp only [Bool.and_eq_true, decide_eq_true_eq] at h1
      have q := hx2 _ hm
      rw [List.all_eq_true] at q
      have eB : (L.wd K).cA k = He.ga K y := by unfold LawD.wd; simp only [h1.1]
      rw [eB]
      have z0 : catB K x y (L.fN g) = true := q (y, (k, g)) hy
      exact catB_ok (K := K) (h := x) (x := y) (f := L.fN g) z0
    fld := fun x f hx => by
      have hm := lookup_in hx
      exact ⟨List.any_eq_true.mpr ⟨_, hm, by simp⟩, (show L.fN f = x by simpa using k4 _ hm)⟩
    cA := cA
    na := na
    inj := inj
    hand := by
      simp only [deB, Bool.and_eq_true, decide_eq_true_eq] at k9
      obtain ⟨⟨⟨d1, d2⟩, d3⟩, d4⟩ := k9
      have e : He.fAd K L.hand.at_ = He.ga K L.T.handN := by rw [k7]; rfl
      refine ⟨_, fdH, L.hand.ps, fok_hand (fok_hd (fun_of FH) (scB_ok d1) rfl d2 d3 d4 bl cA na inj), ?_, FH.kp, FunD.bindsN FH (hB _ (by simp))⟩
      rw [e]; exact gloH
    draw := by
      simp only [deB, Bool.and_eq_true, decide_eq_true_eq] at k10
      obtain ⟨⟨⟨d1, d2⟩, d3⟩, d4⟩ := k10
      have e : He.fAd K L.draw.at_ = He.ga K L.T.drawN := by rw [k8]; rfl
      refine ⟨_, fdD, L.draw.ps, fok_draw (fok_hd (fun_of FD) (scB_ok d1) rfl d2 d3 d4 bl cA na inj), ?_, FD.kp, FunD.bindsN FD (hB _ (by simp))⟩
      rw [e]; exact gloD }
end
end U
/-! Mp2v: a law's end. -/
namespace U
open PySem PySem.Spec PyProof.Rows L2
theorem sp_law {D : Wd} {run : List Val → S → R Val} (hrun : ∀ ns : List Int, ns.length ≤ 63 → ∃ s', run [.sc] ⟨[], none, ns⟩ = .ok (.p (.bool true)) s') {H : Hp} {a : Addr} {ns : List Int} (hl : ns.length ≤ 63) (hO : Only H) (hS : SqL D.K H a (ns.map V.int)) {E : XK} :
    spOf D run [.ref a] H (fun v _ => v = .bl true) E := by
  obtain ⟨s', e⟩ := hrun ns hl
  refine ⟨⟨[], none, some a⟩, ⟨[], none, ns⟩, [.sc], ⟨rfl, List.nodup_nil, fun n o c h _ => by simp at h, rfl, fun c hc => ?_⟩, .cons (.sc rfl) .nil, ?_⟩
  · cases hc
    refine ⟨hl, ?_⟩
    rcases hS with (h | ⟨o, h⟩) | h
    · rcases hO a with z | ⟨o, xs, z⟩
      · rw [h] at z; cases z
      · rw [h] at z; cases z
    · exact .inr ⟨⟨o, h⟩, by simp, fun q z => by cases z⟩
    · exact .inl fun H' => .inr h
  · rw [e]
    intro ι' H' v _ _ r
    exact rv_bool r
theorem law_end {l : PySem.W.OpenLaw} {q : Program} {loose : List Str} {XP : (Str → Option Value) → Heap → Prop} {d : DefRec} {x : Str} {L : LawD} {n fl : Nat} {ql : DE} {YP : World → Heap → Prop}
    (hn : l.most = some 63) (hdf : d.params.defaults = []) (hr : Room (n + 1) callerA) (hY : ∀ w h, YP w h → ∃ K : PySem.W.Frag, K.In h ∧ He.SaysD L.fa L.fn K ∧ L.ex l.prog K = true)
    (hok : L.ok = true) (hB : ∀ q ∈ L.des ++ [L.hand, L.draw], q.Bd) (hXB : ∀ q ∈ L.xes, q.Bd) (hq : L.des[fl]? = some ql) (hat : L.T.fns.lookup d.name = some fl) (hps : ql.ps = [x])
    (hrun : ∀ ns : List Int, ns.length ≤ 63 → ∃ s', runG loop L.Pr n fl [.sc] ⟨[], none, ns⟩ = .ok (.p (.bool true)) s') :
    PySem.W.WalkO q loose XP YP l.row.toRowW d [] (fun f vs => PySem.call f vs) := by
  refine Att.attach_call hn hdf fun w s₀ s₁ mg mb fa o pm cd doc a vs ns G Y ho hd hcd hmg hobj hints hlen hg => ?_
  obtain ⟨K, KX, hs, hxx⟩ := hY w _ Y
  obtain ⟨fd, hfd, hF⟩ := facts_of (P := l.prog) (w := w) hok hB KX G.T.g hs hxx hXB
  have F := hfd fl ql hq
  obtain ⟨Fl, hFl⟩ := deAll_put (by
    simp only [LawD.ok, Bool.and_eq_true] at hok
    exact hok.2) hq
  have efa : He.fAd K (L.at_ fl) = fa := by
    have z := ((hF s₁.heap).fns d.name fl hat).2.1
    rw [hmg] at z
    cases z
    rfl
  have eps : L.ps fl = [x] := by unfold LawD.ps; rw [hq]; exact hps
  refine law_call (CX := L2.CX l.prog w) (x := x) (fd := fd fl) KX G.T.g G.T.b G.T.builtins G.T.nolimit hg hobj hints (Nat.le_trans hlen (by decide)) hr (fun base hb hns => ?_) (fun s u => ?_) (fun H hO hS => sp_law (D := L.wd K) hrun hlen hO hS) fun H e s' h => ?_
  · have := levels (hF base) n fl Fl hFl
    rw [efa, eps] at this
    exact this
  · have := FunD.bindsA (ps := ql.ps) F (hB ql (List.mem_append_left _ (List.mem_of_getElem? hq))) s [u] (by rw [hps]; rfl)
    rw [hps] at this
    exact this
  · obtain ⟨_, _, _, _, _, _, _, _, _, _, _, _, h⟩ := h
    exact h
end U
namespace U
abbrev F_is_integer : Nat := 0
abbrev F_is_within : Nat := 1
abbrev F_is_pair : Nat := 2
abbrev F_is_name : Nat := 3
abbrev F_is_kind_there : Nat := 4
abbrev F_is_kind_of_any_size : Nat := 5
abbrev F_is_take : Nat := 6
abbrev F_is_word : Nat := 7
abbrev F_is_whole : Nat := 8
abbrev F_is_program_there : Nat := 9
abbrev F_Reader___init__ : Nat := 10
abbrev F_Reader_sign : Nat := 11
abbrev F_Reader_is_small : Nat := 12
abbrev F_Reader_need : Nat := 13
abbrev F_Reader_name : Nat := 14
abbrev F_Reader_letter : Nat := 15
abbrev F_Reader_finish : Nat := 16
abbrev F_joined_kind : Nat := 17
abbrev F_kind_in : Nat := 18
abbrev F_whole_kind : Nat := 19
abbrev F_read_kind : Nat := 20
abbrev F_whole_program : Nat := 21
abbrev F_read_program : Nat := 22
abbrev F__law_some : Nat := 23
abbrev F__law_shuffled : Nat := 24
abbrev F__law_is : Nat := 25
abbrev F__law_deep : Nat := 26
abbrev F__law_kind : Nat := 27
abbrev F__law_ends : Nat := 28
abbrev F__law_known : Nat := 29
abbrev F__law_some_program : Nat := 30
abbrev F__law_spans : Nat := 31
abbrev F__law_heads : Nat := 32
abbrev F__law_fit : Nat := 33
abbrev F__law_loose : Nat := 34
abbrev F__law_kind_text : Nat := 35
abbrev F__law_text : Nat := 36
abbrev F__law_signs : Nat := 37
abbrev F__law_read_atom : Nat := 38
abbrev F__law_read_kind : Nat := 39
abbrev F__law_read_name : Nat := 40
abbrev F__law_read_take : Nat := 41
abbrev F__law_read_words : Nat := 42
abbrev F__law_due : Nat := 43
abbrev F__law_told : Nat := 44
abbrev F__law_bent : Nat := 45
abbrev F_law : Nat := 46
/-- is_integer(thing); 0:thing -/
def m_is_integer : Fn := { ps := 1, ns := 1, raw := false, body :=
  (.cons (.ret (.and (.isi (.var 0) [.int]) (.not (.isi (.var 0) [.bool]))))
  .nil) }
/-- is_within(thing, least, most); 0:thing 1:least 2:most -/
def m_is_within : Fn := { ps := 3, ns := 3, raw := false, body :=
  (.cons (.ret (.and (.call F_is_integer (.cons (.var 0) .nil)) (.chain .le .le (.var 1) (.var 0) (.var 2))))
  .nil) }
/-- is_pair(thing); 0:thing -/
def m_is_pair : Fn := { ps := 1, ns := 1, raw := false, body :=
  (.cons (.ret (.and (.isi (.var 0) [.tuple]) (.cmp .eq (.bi .len (.cons (.var 0) .nil)) (.lit (.int 2)))))
  .nil) }
/-- is_name(thing); 0:thing 1:sign -/
def c_is_name_0 : Le := .comp (.var 1) (.ex (.var 0)) .no (.cmp .in_ (.var 1) (.lit (.str [97, 98, 99, 100, 101, 102, 103, 104, 105, 106, 107, 108, 109, 110, 111, 112, 113, 114, 115, 116, 117, 118, 119, 120, 121, 122])))
def m_is_name : Fn := { ps := 1, ns := 2, raw := false, body :=
  (.cons (.ret (.and (.isi (.var 0) [.str]) (.and (.chain .le .le (.lit (.int 1)) (.bi .len (.cons (.var 0) .nil)) (.lit (.int 8))) (.lb .all c_is_name_0))))
  .nil) }
/-- is_kind_there(thing); 0:thing 1:waiting 2:letters 3:here 4:deep -/
def w_is_kind_there_0 : St := .whl (.cmp .gt (.bi .len (.cons (.var 1) .nil)) (.lit (.int 0))) (.cons (.asg (.tup (.cons (.var 3) (.cons (.var 4) .nil))) (.bm .pop (.var 1) .nil))
  (.cons (.ite (.and (.call F_is_pair (.cons (.var 3) .nil)) (.cmp .lt (.var 4) (.lit (.int 30)))) (.cons (.ex (.bm .append (.var 1) (.cons (.tup (.cons (.idx (.var 3) (.lit (.int 1))) (.cons (.bin .add (.var 4) (.lit (.int 1))) .nil))) .nil)))
  (.cons (.ex (.bm .append (.var 1) (.cons (.tup (.cons (.idx (.var 3) (.lit (.int 0))) (.cons (.bin .add (.var 4) (.lit (.int 1))) .nil))) .nil)))
  .nil)) (.cons (.ite (.and (.call F_is_within (.cons (.var 3) (.cons (.lit (.int 0)) (.cons (.lit (.int 25)) .nil)))) (.cmp .lt (.var 2) (.lit (.int 60)))) (.cons (.aug 2 .add (.lit (.int 1)))
  .nil) (.cons (.ret (.lit (.bool false)))
  .nil))
  .nil))
  .nil))
def m_is_kind_there : Fn := { ps := 1, ns := 5, raw := false, body :=
  (.cons (.asg (.var 1) (.lst (.disp (.cons (.tup (.cons (.var 0) (.cons (.lit (.int 0)) .nil))) .nil))))
  (.cons (.asg (.var 2) (.lit (.int 0)))
  (.cons w_is_kind_there_0
  (.cons (.ret (.lit (.bool true)))
  .nil)))) }
/-- is_kind_of_any_size(thing); 0:thing 1:waiting 2:here -/
def w_is_kind_of_any_size_0 : St := .whl (.cmp .gt (.bi .len (.cons (.var 1) .nil)) (.lit (.int 0))) (.cons (.asg (.var 2) (.bm .pop (.var 1) .nil))
  (.cons (.ite (.call F_is_pair (.cons (.var 2) .nil)) (.cons (.ex (.bm .extend (.var 1) (.cons (.var 2) .nil)))
  .nil) (.cons (.ite (.not (.call F_is_within (.cons (.var 2) (.cons (.lit (.int 0)) (.cons (.lit (.int 25)) .nil))))) (.cons (.ret (.lit (.bool false)))
  .nil) .nil)
  .nil))
  .nil))
def m_is_kind_of_any_size : Fn := { ps := 1, ns := 3, raw := false, body :=
  (.cons (.asg (.var 1) (.lst (.disp (.cons (.var 0) .nil))))
  (.cons w_is_kind_of_any_size_0
  (.cons (.ret (.lit (.bool true)))
  .nil))) }
/-- is_take(word); 0:word -/
def m_is_take : Fn := { ps := 1, ns := 1, raw := false, body :=
  (.cons (.ret (.isi (.var 0) [.tuple]))
  .nil) }
/-- is_word(thing); 0:thing -/
def m_is_word : Fn := { ps := 1, ns := 1, raw := false, body :=
  (.cons (.ite (.call F_is_pair (.cons (.var 0) .nil)) (.cons (.ret (.and (.call F_is_name (.cons (.idx (.var 0) (.lit (.int 0))) .nil)) (.call F_is_kind_of_any_size (.cons (.idx (.var 0) (.lit (.int 1))) .nil))))
  .nil) .nil)
  (.cons (.ret (.and (.isi (.var 0) [.str]) (.or (.cmp .eq (.var 0) (.lit (.str [64]))) (.call F_is_name (.cons (.var 0) .nil)))))
  .nil)) }
/-- is_whole(words); 0:words 1:many 2:word -/
def w_is_whole_0 : St := .for_ (.var 2) (.ex (.rev (.var 0))) (.cons (.ite (.not (.call F_is_take (.cons (.var 2) .nil))) (.cons (.aug 1 .add (.ite (.cmp .eq (.var 2) (.lit (.str [64]))) (.neg (.lit (.int 1))) (.lit (.int 1))))
  .nil) .nil)
  (.cons (.ite (.cmp .lt (.var 1) (.lit (.int 1))) (.cons (.ret (.lit (.bool false)))
  .nil) .nil)
  .nil))
def m_is_whole : Fn := { ps := 1, ns := 3, raw := false, body :=
  (.cons (.asg (.var 1) (.lit (.int 0)))
  (.cons w_is_whole_0
  (.cons (.ret (.cmp .eq (.var 1) (.lit (.int 1))))
  .nil))) }
/-- is_program_there(thing); 0:thing 1:word -/
def c_is_program_there_0 : Le := .comp (.var 1) (.ex (.var 0)) (.some (.call F_is_take (.cons (.var 1) .nil))) (.call F_is_kind_there (.cons (.idx (.var 1) (.lit (.int 1))) .nil))
def c_is_program_there_1 : Le := .comp (.var 1) (.ex (.var 0)) .no (.call F_is_word (.cons (.var 1) .nil))
def m_is_program_there : Fn := { ps := 1, ns := 2, raw := false, body :=
  (.cons (.ite (.or (.not (.isi (.var 0) [.tuple])) (.not (.chain .le .le (.lit (.int 1)) (.bi .len (.cons (.var 0) .nil)) (.lit (.int 400))))) (.cons (.ret (.lit (.bool false)))
  .nil) .nil)
  (.cons (.ite (.or (.not (.lb .all c_is_program_there_1)) (.not (.call F_is_whole (.cons (.var 0) .nil)))) (.cons (.ret (.lit (.bool false)))
  .nil) .nil)
  (.cons (.ret (.lb .all c_is_program_there_0))
  .nil))) }
/-- Reader___init__(self, text); 0:self 1:text -/
def m_Reader___init__ : Fn := { ps := 2, ns := 2, raw := false, dyn := true, body :=
  (.cons (.ite (.not (.isi (.var 1) [.str])) (.cons (.raiseF 1 2 (.neg (.lit (.int 1))))
  .nil) .nil)
  (.cons (.asgF (.var 0) 1 (.var 1))
  (.cons (.asgF (.var 0) 0 (.lit (.int 0)))
  .nil))) }
/-- Reader_sign(self); 0:self -/
def m_Reader_sign : Fn := { ps := 1, ns := 1, raw := false, body :=
  (.cons (.ret (.slc (.fld (.var 0) 1) (.some (.fld (.var 0) 0)) (.some (.bin .add (.fld (.var 0) 0) (.lit (.int 1))))))
  .nil) }
/-- Reader_is_small(self); 0:self -/
def m_Reader_is_small : Fn := { ps := 1, ns := 1, raw := false, body :=
  (.cons (.ret (.and (.cmp .ne (.meth 4 F_Reader_sign (.var 0) .nil) (.lit (.str []))) (.cmp .in_ (.meth 4 F_Reader_sign (.var 0) .nil) (.lit (.str [97, 98, 99, 100, 101, 102, 103, 104, 105, 106, 107, 108, 109, 110, 111, 112, 113, 114, 115, 116, 117, 118, 119, 120, 121, 122])))))
  .nil) }
/-- Reader_need(self, signs); 0:self 1:signs 2:sign -/
def w_Reader_need_0 : St := .for_ (.var 2) (.ex (.var 1)) (.cons (.ite (.cmp .ne (.meth 4 F_Reader_sign (.var 0) .nil) (.var 2)) (.cons (.raiseF 1 2 (.fld (.var 0) 0))
  .nil) .nil)
  (.cons (.augF (.var 0) 0 .add (.lit (.int 1)))
  .nil))
def m_Reader_need : Fn := { ps := 2, ns := 3, raw := false, body :=
  (.cons w_Reader_need_0
  .nil) }
/-- Reader_name(self); 0:self 1:begin -/
def w_Reader_name_0 : St := .whl (.and (.meth 4 F_Reader_is_small (.var 0) .nil) (.cmp .lt (.fld (.var 0) 0) (.bin .add (.var 1) (.lit (.int 8))))) (.cons (.augF (.var 0) 0 .add (.lit (.int 1)))
  .nil)
def m_Reader_name : Fn := { ps := 1, ns := 2, raw := false, body :=
  (.cons (.asg (.var 1) (.fld (.var 0) 0))
  (.cons w_Reader_name_0
  (.cons (.ite (.cmp .eq (.fld (.var 0) 0) (.var 1)) (.cons (.raiseF 1 2 (.var 1))
  .nil) .nil)
  (.cons (.ret (.slc (.fld (.var 0) 1) (.some (.var 1)) (.some (.fld (.var 0) 0))))
  .nil)))) }
/-- Reader_letter(self); 0:self -/
def m_Reader_letter : Fn := { ps := 1, ns := 1, raw := false, body :=
  (.cons (.ite (.not (.meth 4 F_Reader_is_small (.var 0) .nil)) (.cons (.raiseF 1 2 (.fld (.var 0) 0))
  .nil) .nil)
  (.cons (.augF (.var 0) 0 .add (.lit (.int 1)))
  (.cons (.ret (.bm .index (.lit (.str [97, 98, 99, 100, 101, 102, 103, 104, 105, 106, 107, 108, 109, 110, 111, 112, 113, 114, 115, 116, 117, 118, 119, 120, 121, 122])) (.cons (.idx (.fld (.var 0) 1) (.bin .sub (.fld (.var 0) 0) (.lit (.int 1)))) .nil)))
  .nil))) }
/-- Reader_finish(self); 0:self -/
def m_Reader_finish : Fn := { ps := 1, ns := 1, raw := false, body :=
  (.cons (.ite (.cmp .ne (.meth 4 F_Reader_sign (.var 0) .nil) (.lit (.str []))) (.cons (.raiseF 1 2 (.fld (.var 0) 0))
  .nil) .nil)
  .nil) }
/-- joined_kind(rows); 0:rows 1:found 2:left -/
def w_joined_kind_0 : St := .for_ (.var 2) (.ex (.rev (.slc (.var 0) .no (.some (.neg (.lit (.int 1))))))) (.cons (.asg (.var 1) (.tup (.cons (.var 2) (.cons (.var 1) .nil))))
  .nil)
def m_joined_kind : Fn := { ps := 1, ns := 3, raw := false, body :=
  (.cons (.asg (.var 1) (.idx (.var 0) (.neg (.lit (.int 1)))))
  (.cons w_joined_kind_0
  (.cons (.ret (.var 1))
  .nil))) }
/-- kind_in(reader); 0:reader 1:rows 2:inner -/
def w_kind_in_0 : St := .whl (.cmp .eq (.meth 4 F_Reader_sign (.var 0) .nil) (.lit (.str [40]))) (.cons (.ex (.meth 4 F_Reader_need (.var 0) (.cons (.lit (.str [40])) .nil)))
  (.cons (.ex (.bm .append (.var 1) (.cons (.lst (.disp .nil)) .nil)))
  .nil))
def w_kind_in_1 : St := .whl (.cmp .gt (.bi .len (.cons (.var 1) .nil)) (.lit (.int 0))) (.cons w_kind_in_0
  (.cons (.ex (.bm .append (.idx (.var 1) (.neg (.lit (.int 1)))) (.cons (.meth 4 F_Reader_letter (.var 0) .nil) .nil)))
  (.cons (.ite (.and (.cmp .ne (.meth 4 F_Reader_sign (.var 0) .nil) (.lit (.str [32]))) (.and (.cmp .gt (.bi .len (.cons (.var 1) .nil)) (.lit (.int 1))) (.cmp .gt (.bi .len (.cons (.idx (.var 1) (.neg (.lit (.int 1)))) .nil)) (.lit (.int 1))))) (.cons (.ex (.meth 4 F_Reader_need (.var 0) (.cons (.lit (.str [41])) .nil)))
  (.cons (.asg (.var 2) (.call F_joined_kind (.cons (.bm .pop (.var 1) .nil) .nil)))
  (.cons (.ex (.bm .append (.idx (.var 1) (.neg (.lit (.int 1)))) (.cons (.var 2) .nil)))
  .nil))) (.cons (.ite (.and (.cmp .ne (.meth 4 F_Reader_sign (.var 0) .nil) (.lit (.str [32]))) (.cmp .eq (.bi .len (.cons (.var 1) .nil)) (.lit (.int 1)))) (.cons (.ret (.call F_joined_kind (.cons (.idx (.var 1) (.lit (.int 0))) .nil)))
  .nil) .nil)
  .nil))
  (.cons (.ex (.meth 4 F_Reader_need (.var 0) (.cons (.lit (.str [32, 62, 32])) .nil)))
  .nil))))
def m_kind_in : Fn := { ps := 1, ns := 3, raw := false, body :=
  (.cons (.asg (.var 1) (.lst (.disp (.cons (.lst (.disp .nil)) .nil))))
  (.cons w_kind_in_1
  (.cons (.ret (.lit .non))
  .nil))) }
/-- whole_kind(text); 0:text 1:reader 2:found -/
def m_whole_kind : Fn := { ps := 1, ns := 3, raw := false, dyn := true, body :=
  (.cons (.asg (.var 1) (.mk 4 (.cons (.var 0) .nil)))
  (.cons (.asg (.var 2) (.call F_kind_in (.cons (.var 1) .nil)))
  (.cons (.ex (.meth 4 F_Reader_finish (.var 1) .nil))
  (.cons (.ret (.var 2))
  .nil)))) }
/-- read_kind(text); 0:text 1:found -/
def m_read_kind : Fn := { ps := 1, ns := 2, raw := false, dyn := true, body :=
  (.cons (.asg (.var 1) (.call F_whole_kind (.cons (.var 0) .nil)))
  (.cons (.ite (.not (.call F_is_kind_there (.cons (.var 1) .nil))) (.cons (.raise 2 .nil)
  .nil) .nil)
  (.cons (.ret (.var 1))
  .nil))) }
/-- whole_program(text); 0:text 1:reader 2:found 3:waiting 4:is_open 5:name -/
def w_whole_program_0 : St := .whl (.and (.cmp .gt (.bi .len (.cons (.var 3) .nil)) (.lit (.int 0))) (.cmp .eq (.idx (.var 3) (.neg (.lit (.int 1)))) (.lit (.str [41])))) (.cons (.ex (.meth 4 F_Reader_need (.var 1) (.cons (.bm .pop (.var 3) .nil) .nil)))
  .nil)
def w_whole_program_1 : St := .whl (.var 4) (.cons (.ite (.cmp .eq (.meth 4 F_Reader_sign (.var 1) .nil) (.lit (.str [40]))) (.cons (.ex (.meth 4 F_Reader_need (.var 1) (.cons (.lit (.str [40])) .nil)))
  (.cons (.ex (.bm .append (.var 2) (.cons (.lit (.str [64])) .nil)))
  (.cons (.ex (.bm .append (.var 3) (.cons (.lit (.str [32])) .nil)))
  .nil))) (.cons (.ite (.cmp .eq (.meth 4 F_Reader_sign (.var 1) .nil) (.lit (.str [91]))) (.cons (.ex (.meth 4 F_Reader_need (.var 1) (.cons (.lit (.str [91])) .nil)))
  (.cons (.asg (.var 5) (.meth 4 F_Reader_name (.var 1) .nil))
  (.cons (.ex (.meth 4 F_Reader_need (.var 1) (.cons (.lit (.str [58])) .nil)))
  (.cons (.ex (.bm .append (.var 2) (.cons (.tup (.cons (.var 5) (.cons (.call F_kind_in (.cons (.var 1) .nil)) .nil))) .nil)))
  (.cons (.ex (.meth 4 F_Reader_need (.var 1) (.cons (.lit (.str [93, 32])) .nil)))
  .nil))))) (.cons (.ex (.bm .append (.var 2) (.cons (.meth 4 F_Reader_name (.var 1) .nil) .nil)))
  (.cons w_whole_program_0
  (.cons (.asg (.var 4) (.cmp .gt (.bi .len (.cons (.var 3) .nil)) (.lit (.int 0))))
  (.cons (.ite (.var 4) (.cons (.ex (.meth 4 F_Reader_need (.var 1) (.cons (.bm .pop (.var 3) .nil) .nil)))
  (.cons (.ex (.bm .append (.var 3) (.cons (.lit (.str [41])) .nil)))
  .nil)) .nil)
  .nil)))))
  .nil))
  .nil)
def m_whole_program : Fn := { ps := 1, ns := 6, raw := false, dyn := true, body :=
  (.cons (.asg (.var 1) (.mk 4 (.cons (.var 0) .nil)))
  (.cons (.asg (.var 2) (.lst (.disp .nil)))
  (.cons (.asg (.var 3) (.lst (.disp .nil)))
  (.cons (.asg (.var 4) (.lit (.bool true)))
  (.cons w_whole_program_1
  (.cons (.ex (.meth 4 F_Reader_finish (.var 1) .nil))
  (.cons (.ret (.bi .tuple (.cons (.var 2) .nil)))
  .nil))))))) }
/-- read_program(text); 0:text 1:found -/
def m_read_program : Fn := { ps := 1, ns := 2, raw := false, dyn := true, body :=
  (.cons (.asg (.var 1) (.call F_whole_program (.cons (.var 0) .nil)))
  (.cons (.ite (.not (.call F_is_program_there (.cons (.var 1) .nil))) (.cons (.raise 3 .nil)
  .nil) .nil)
  (.cons (.ret (.var 1))
  .nil))) }
/-- _law_some(_law_hand_here, _law_things); 0:_law_hand_here 1:_law_things -/
def m__law_some : Fn := { ps := 2, ns := 2, raw := false, dyn := true, body :=
  (.cons (.ret (.idx (.var 1) (.draw (.var 0) (.bi .len (.cons (.var 1) .nil)))))
  .nil) }
/-- _law_shuffled(_law_hand_here, _law_things); 0:_law_hand_here 1:_law_things 2:_law_pool 3:_law_found -/
def w__law_shuffled_0 : St := .whl (.cmp .gt (.bi .len (.cons (.var 2) .nil)) (.lit (.int 0))) (.cons (.ex (.bm .append (.var 3) (.cons (.bm .popAt (.var 2) (.cons (.draw (.var 0) (.bi .len (.cons (.var 2) .nil))) .nil)) .nil)))
  .nil)
def m__law_shuffled : Fn := { ps := 2, ns := 4, raw := false, body :=
  (.cons (.asg (.var 2) (.bi .list (.cons (.var 1) .nil)))
  (.cons (.asg (.var 3) (.lst (.disp .nil)))
  (.cons w__law_shuffled_0
  (.cons (.ret (.var 3))
  .nil)))) }
/-- _law_is(_law_told_here, _law_due_here); 0:_law_told_here 1:_law_due_here 2:_law_k 3:_law_key -/
def c__law_is_0 : Le := .comp (.var 3) (.ex (.var 1)) .no (.call F__law_is (.cons (.idx (.var 0) (.var 3)) (.cons (.idx (.var 1) (.var 3)) .nil)))
def c__law_is_1 : Le := .comp (.var 2) (.rng1 (.bi .len (.cons (.var 1) .nil))) .no (.call F__law_is (.cons (.idx (.var 0) (.var 2)) (.cons (.idx (.var 1) (.var 2)) .nil)))
def m__law_is : Fn := { ps := 2, ns := 4, raw := false, body :=
  (.cons (.ite (.isi (.var 1) [.tuple, .list]) (.cons (.ite (.or (.cmp .ne (.isi (.var 0) [.tuple]) (.isi (.var 1) [.tuple])) (.cmp .ne (.isi (.var 0) [.list]) (.isi (.var 1) [.list]))) (.cons (.ret (.lit (.bool false)))
  .nil) .nil)
  (.cons (.ret (.and (.cmp .eq (.bi .len (.cons (.var 0) .nil)) (.bi .len (.cons (.var 1) .nil))) (.lb .all c__law_is_1)))
  .nil)) .nil)
  (.cons (.ite (.isi (.var 1) [.dict]) (.cons (.ret (.and (.isi (.var 0) [.dict]) (.and (.cmp .eq (.var 0) (.var 1)) (.lb .all c__law_is_0))))
  .nil) .nil)
  (.cons (.ret (.and (.cmp .eq (.isi (.var 0) [.bool]) (.isi (.var 1) [.bool])) (.cmp .eq (.var 0) (.var 1))))
  .nil))) }
/-- _law_deep(_law_kind_here); 0:_law_kind_here 1:_law_found 2:_law_turn -/
def w__law_deep_0 : St := .for_ (.var 2) (.rng1 (.lit (.int 36))) (.cons (.asg (.var 1) (.ite (.cmp .eq (.var 0) (.lit (.int 0))) (.lst (.disp (.cons (.var 1) .nil))) (.tup (.cons (.var 1) .nil))))
  .nil)
def m__law_deep : Fn := { ps := 1, ns := 3, raw := true, body :=
  (.cons (.asg (.var 1) (.lit .non))
  (.cons w__law_deep_0
  (.cons (.ret (.var 1))
  .nil))) }
/-- _law_kind(_law_hand_here, _law_deep_here); 0:_law_hand_here 1:_law_deep_here -/
def m__law_kind : Fn := { ps := 2, ns := 2, raw := false, body :=
  (.cons (.ite (.or (.cmp .eq (.var 1) (.lit (.int 0))) (.cmp .eq (.draw (.var 0) (.lit (.int 3))) (.lit (.int 0)))) (.cons (.ret (.draw (.var 0) (.bin .add (.lit (.int 2)) (.bi .int (.cons (.cmp .eq (.draw (.var 0) (.lit (.int 8))) (.lit (.int 0))) .nil)))))
  .nil) .nil)
  (.cons (.ret (.tup (.cons (.call F__law_kind (.cons (.var 0) (.cons (.bin .sub (.var 1) (.lit (.int 1))) .nil))) (.cons (.call F__law_kind (.cons (.var 0) (.cons (.bin .sub (.var 1) (.lit (.int 1))) .nil))) .nil))))
  .nil)) }
/-- _law_ends(_law_kind_here); 0:_law_kind_here 1:_law_found -/
def w__law_ends_0 : St := .whl (.isi (.var 0) [.tuple]) (.cons (.ex (.bm .append (.var 1) (.cons (.idx (.var 0) (.lit (.int 0))) .nil)))
  (.cons (.asg (.var 0) (.idx (.var 0) (.lit (.int 1))))
  .nil))
def m__law_ends : Fn := { ps := 1, ns := 2, raw := false, body :=
  (.cons (.asg (.var 1) (.lst (.disp .nil)))
  (.cons w__law_ends_0
  (.cons (.ret (.tup (.cons (.var 1) (.cons (.var 0) .nil))))
  .nil))) }
/-- _law_known(_law_hand_here, _law_many); 0:_law_hand_here 1:_law_many 2:_law_names 3:_law_name -/
def c__law_known_0 : Le := .comp (.var 3) (.ex (.var 2)) .no (.tup (.cons (.var 3) (.cons (.call F__law_kind (.cons (.var 0) (.cons (.lit (.int 2)) .nil))) .nil)))
def m__law_known : Fn := { ps := 2, ns := 4, raw := false, body :=
  (.cons (.asg (.var 2) (.slc (.call F__law_shuffled (.cons (.var 0) (.cons (.lst (.disp (.cons (.lit (.str [102])) (.cons (.lit (.str [103])) (.cons (.lit (.str [104])) (.cons (.lit (.str [109])) (.cons (.lit (.str [110])) (.cons (.lit (.str [111, 110, 101])) (.cons (.lit (.str [116, 119, 111])) (.cons (.lit (.str [116, 104, 114, 101, 101])) (.cons (.lit (.str [97, 98, 99, 100, 101, 102, 103, 104])) .nil))))))))))) .nil))) .no (.some (.var 1))))
  (.cons (.ret (.lb .tuple c__law_known_0))
  .nil)) }
/-- _law_some_program(_law_hand_here, _law_known_here, _law_deep_here); 0:_law_hand_here 1:_law_known_here 2:_law_deep_here 3:_law_turn 4:_law_found 5:_law_name 6:_law_kind_here -/
def c__law_some_program_0 : Le := .comp (.tup (.cons (.var 5) (.cons (.var 6) .nil))) (.ex (.var 1)) .no (.var 5)
def w__law_some_program_1 : St := .for_ (.var 3) (.rng1 (.lit (.int 6))) (.cons (.ite (.cmp .eq (.draw (.var 0) (.lit (.int 4))) (.lit (.int 0))) (.cons (.asg (.var 4) (.call F__law_loose (.cons (.var 0) (.cons (.bin .add (.lst c__law_some_program_0) (.lst (.disp (.cons (.lit (.str [120])) (.cons (.lit (.str [121])) (.cons (.lit (.str [122])) .nil)))))) (.cons (.var 2) .nil)))))
  .nil) (.cons (.asg (.var 4) (.call F__law_fit (.cons (.var 0) (.cons (.bi .dict (.cons (.var 1) .nil)) (.cons (.call F__law_kind (.cons (.var 0) (.cons (.lit (.int 2)) .nil))) (.cons (.var 2) .nil))))))
  .nil))
  (.cons (.ite (.cmp .le (.bi .len (.cons (.var 4) .nil)) (.lit (.int 60))) (.cons (.ret (.var 4))
  .nil) .nil)
  .nil))
def m__law_some_program : Fn := { ps := 3, ns := 7, raw := false, body :=
  (.cons w__law_some_program_1
  (.cons (.ret (.tup (.cons (.tup (.cons (.lit (.str [120])) (.cons (.lit (.int 0)) .nil))) (.cons (.lit (.str [120])) .nil))))
  .nil)) }
/-- _law_spans(_law_words); 0:_law_words 1:_law_found 2:_law_waiting 3:_law_place 4:_law_last -/
def w__law_spans_0 : St := .for_ (.var 3) (.rng3 (.bin .sub (.bi .len (.cons (.var 0) .nil)) (.lit (.int 1))) (.neg (.lit (.int 1))) (.neg (.lit (.int 1)))) (.cons (.asg (.var 4) (.bin .add (.var 3) (.lit (.int 1))))
  (.cons (.ite (.cmp .eq (.idx (.var 0) (.var 3)) (.lit (.str [64]))) (.cons (.ex (.bm .pop (.var 2) .nil))
  (.cons (.asg (.var 4) (.bm .pop (.var 2) .nil))
  .nil)) (.cons (.ite (.isi (.idx (.var 0) (.var 3)) [.tuple]) (.cons (.asg (.var 4) (.bm .pop (.var 2) .nil))
  .nil) .nil)
  .nil))
  (.cons (.asgS (.var 1) (.var 3) (.var 4))
  (.cons (.ex (.bm .append (.var 2) (.cons (.var 4) .nil)))
  .nil))))
def m__law_spans : Fn := { ps := 1, ns := 5, raw := false, body :=
  (.cons (.asg (.var 1) (.bin .mul (.lst (.disp (.cons (.lit (.int 0)) .nil))) (.bi .len (.cons (.var 0) .nil))))
  (.cons (.asg (.var 2) (.lst (.disp .nil)))
  (.cons w__law_spans_0
  (.cons (.ret (.var 1))
  .nil)))) }
/-- _law_heads(_law_inner, _law_end, _law_deep_here); 0:_law_inner 1:_law_end 2:_law_deep_here 3:_law_found 4:_law_name -/
def w__law_heads_0 : St := .for_ (.var 4) (.ex (.bi .sorted (.cons (.var 0) .nil))) (.cons (.ite (.and (.cmp .eq (.idx (.call F__law_ends (.cons (.idx (.var 0) (.var 4)) .nil)) (.lit (.int 1))) (.var 1)) (.or (.cmp .gt (.var 2) (.lit (.int 0))) (.not (.isi (.idx (.var 0) (.var 4)) [.tuple])))) (.cons (.ex (.bm .append (.var 3) (.cons (.var 4) .nil)))
  .nil) .nil)
  .nil)
def m__law_heads : Fn := { ps := 3, ns := 5, raw := false, body :=
  (.cons (.asg (.var 3) (.lst (.disp .nil)))
  (.cons w__law_heads_0
  (.cons (.ret (.var 3))
  .nil))) }
/-- _law_fit(_law_hand_here, _law_known_here, _law_kind_here, _law_deep_here); 0:_law_hand_here 1:_law_known_here 2:_law_kind_here 3:_law_deep_here 4:_law_lefts 5:_law_end 6:_law_inner 7:_law_taken 8:_law_left 9:_law_some_here 10:_law_name 11:_law_found 12:_law_wider 13:_law_body -/
def w__law_fit_0 : St := .for_ (.var 8) (.ex (.idx (.call F__law_ends (.cons (.idx (.var 6) (.var 10)) .nil)) (.lit (.int 0)))) (.cons (.asg (.var 11) (.bin .add (.bin .add (.tup (.cons (.lit (.str [64])) .nil)) (.var 11)) (.call F__law_fit (.cons (.var 0) (.cons (.var 6) (.cons (.var 8) (.cons (.bin .sub (.var 3) (.lit (.int 1))) .nil)))))))
  .nil)
def w__law_fit_1 : St := .for_ (.var 8) (.ex (.var 4)) (.cons (.asg (.var 10) (.call F__law_some (.cons (.var 0) (.cons (.lst (.disp (.cons (.lit (.str [120])) (.cons (.lit (.str [121])) (.cons (.lit (.str [122])) (.cons (.lit (.str [120])) (.cons (.lit (.str [117])) (.cons (.lit (.str [118])) .nil)))))))) .nil))))
  (.cons (.asg (.var 7) (.bin .add (.var 7) (.tup (.cons (.tup (.cons (.var 10) (.cons (.var 8) .nil))) .nil))))
  (.cons (.asgS (.var 6) (.var 10) (.var 8))
  .nil)))
def m__law_fit : Fn := { ps := 4, ns := 14, raw := false, body :=
  (.cons (.asg (.tup (.cons (.var 4) (.cons (.var 5) .nil))) (.call F__law_ends (.cons (.var 2) .nil)))
  (.cons (.asg (.var 6) (.bi .dict (.cons (.var 1) .nil)))
  (.cons (.asg (.var 7) (.tup .nil))
  (.cons w__law_fit_1
  (.cons (.asg (.var 9) (.call F__law_heads (.cons (.var 6) (.cons (.var 5) (.cons (.var 3) .nil)))))
  (.cons (.ite (.cmp .eq (.bi .len (.cons (.var 9) .nil)) (.lit (.int 0))) (.cons (.ret (.bin .add (.var 7) (.tup (.cons (.call F__law_some (.cons (.var 0) (.cons (.bin .add (.bi .sorted (.cons (.var 6) .nil)) (.lst (.disp (.cons (.lit (.str [119])) .nil)))) .nil))) .nil))))
  .nil) .nil)
  (.cons (.asg (.var 10) (.call F__law_some (.cons (.var 0) (.cons (.var 9) .nil))))
  (.cons (.asg (.var 11) (.tup (.cons (.var 10) .nil)))
  (.cons w__law_fit_0
  (.cons (.ite (.and (.cmp .gt (.var 3) (.lit (.int 0))) (.cmp .eq (.draw (.var 0) (.lit (.int 6))) (.lit (.int 0)))) (.cons (.par 10 8 (.call F__law_some (.cons (.var 0) (.cons (.lst (.disp (.cons (.lit (.str [120])) (.cons (.lit (.str [121])) (.cons (.lit (.str [113])) .nil))))) .nil))) (.call F__law_kind (.cons (.var 0) (.cons (.lit (.int 1)) .nil))))
  (.cons (.asg (.var 12) (.bi .dict (.cons (.var 6) .nil)))
  (.cons (.asgS (.var 12) (.var 10) (.var 8))
  (.cons (.asg (.var 13) (.call F__law_fit (.cons (.var 0) (.cons (.var 12) (.cons (.var 5) (.cons (.bin .sub (.var 3) (.lit (.int 1))) .nil))))))
  (.cons (.asg (.var 11) (.bin .add (.bin .add (.tup (.cons (.lit (.str [64])) (.cons (.tup (.cons (.var 10) (.cons (.var 8) .nil))) .nil))) (.var 13)) (.call F__law_fit (.cons (.var 0) (.cons (.var 6) (.cons (.var 8) (.cons (.bin .sub (.var 3) (.lit (.int 1))) .nil)))))))
  .nil))))) .nil)
  (.cons (.ret (.bin .add (.var 7) (.var 11)))
  .nil))))))))))) }
/-- _law_loose(_law_hand_here, _law_names, _law_deep_here); 0:_law_hand_here 1:_law_names 2:_law_deep_here 3:_law_kind_here -/
def m__law_loose : Fn := { ps := 3, ns := 4, raw := false, body :=
  (.cons (.asg (.var 3) (.ite (.cmp .gt (.var 2) (.lit (.int 0))) (.draw (.var 0) (.lit (.int 4))) (.lit (.int 0))))
  (.cons (.ite (.cmp .eq (.var 3) (.lit (.int 0))) (.cons (.ret (.tup (.cons (.call F__law_some (.cons (.var 0) (.cons (.var 1) .nil))) .nil)))
  .nil) .nil)
  (.cons (.ite (.cmp .lt (.var 3) (.lit (.int 3))) (.cons (.ret (.bin .add (.bin .add (.tup (.cons (.lit (.str [64])) .nil)) (.call F__law_loose (.cons (.var 0) (.cons (.var 1) (.cons (.bin .sub (.var 2) (.lit (.int 1))) .nil))))) (.call F__law_loose (.cons (.var 0) (.cons (.var 1) (.cons (.bin .sub (.var 2) (.lit (.int 1))) .nil))))))
  .nil) .nil)
  (.cons (.ret (.bin .add (.tup (.cons (.tup (.cons (.call F__law_some (.cons (.var 0) (.cons (.var 1) .nil))) (.cons (.call F__law_kind (.cons (.var 0) (.cons (.lit (.int 1)) .nil))) .nil))) .nil)) (.call F__law_loose (.cons (.var 0) (.cons (.var 1) (.cons (.bin .sub (.var 2) (.lit (.int 1))) .nil))))))
  .nil)))) }
/-- _law_kind_text(_law_kind_here); 0:_law_kind_here 1:_law_left -/
def m__law_kind_text : Fn := { ps := 1, ns := 2, raw := false, body :=
  (.cons (.ite (.not (.isi (.var 0) [.tuple])) (.cons (.ret (.idx (.lit (.str [97, 98, 99, 100, 101, 102, 103, 104, 105, 106, 107, 108, 109, 110, 111, 112, 113, 114, 115, 116, 117, 118, 119, 120, 121, 122])) (.var 0)))
  .nil) .nil)
  (.cons (.asg (.var 1) (.call F__law_kind_text (.cons (.idx (.var 0) (.lit (.int 0))) .nil)))
  (.cons (.ite (.isi (.idx (.var 0) (.lit (.int 0))) [.tuple]) (.cons (.asg (.var 1) (.bin .add (.bin .add (.lit (.str [40])) (.var 1)) (.lit (.str [41]))))
  .nil) .nil)
  (.cons (.ret (.bin .add (.bin .add (.var 1) (.lit (.str [32, 62, 32]))) (.call F__law_kind_text (.cons (.idx (.var 0) (.lit (.int 1))) .nil))))
  .nil)))) }
/-- _law_text(_law_words); 0:_law_words 1:_law_spans_here 2:_law_texts 3:_law_place 4:_law_word -/
def w__law_text_0 : St := .for_ (.var 3) (.rng3 (.bin .sub (.bi .len (.cons (.var 0) .nil)) (.lit (.int 1))) (.neg (.lit (.int 1))) (.neg (.lit (.int 1)))) (.cons (.asg (.var 4) (.idx (.var 0) (.var 3)))
  (.cons (.ite (.isi (.var 4) [.tuple]) (.cons (.asgS (.var 2) (.var 3) (.bin .add (.bin .add (.bin .add (.bin .add (.bin .add (.lit (.str [91])) (.idx (.var 4) (.lit (.int 0)))) (.lit (.str [58]))) (.call F__law_kind_text (.cons (.idx (.var 4) (.lit (.int 1))) .nil))) (.lit (.str [93, 32]))) (.idx (.var 2) (.bin .add (.var 3) (.lit (.int 1))))))
  .nil) (.cons (.ite (.cmp .eq (.var 4) (.lit (.str [64]))) (.cons (.asgS (.var 2) (.var 3) (.bin .add (.bin .add (.bin .add (.bin .add (.lit (.str [40])) (.idx (.var 2) (.bin .add (.var 3) (.lit (.int 1))))) (.lit (.str [32]))) (.idx (.var 2) (.idx (.var 1) (.bin .add (.var 3) (.lit (.int 1)))))) (.lit (.str [41]))))
  .nil) (.cons (.asgS (.var 2) (.var 3) (.var 4))
  .nil))
  .nil))
  .nil))
def m__law_text : Fn := { ps := 1, ns := 5, raw := false, body :=
  (.cons (.asg (.var 1) (.call F__law_spans (.cons (.var 0) .nil)))
  (.cons (.asg (.var 2) (.bin .mul (.lst (.disp (.cons (.lit (.str [])) .nil))) (.bi .len (.cons (.var 0) .nil))))
  (.cons w__law_text_0
  (.cons (.ret (.idx (.var 2) (.lit (.int 0))))
  .nil)))) }
/-- _law_signs(_law_text_here, _law_at, _law_signs_here); 0:_law_text_here 1:_law_at 2:_law_signs_here 3:_law_sign -/
def w__law_signs_0 : St := .for_ (.var 3) (.ex (.var 2)) (.cons (.ite (.cmp .ne (.slc (.var 0) (.some (.var 1)) (.some (.bin .add (.var 1) (.lit (.int 1))))) (.var 3)) (.cons (.ret (.bin .sub (.bin .sub (.lit (.int 0)) (.var 1)) (.lit (.int 1))))
  .nil) .nil)
  (.cons (.asg (.var 1) (.bin .add (.var 1) (.lit (.int 1))))
  .nil))
def m__law_signs : Fn := { ps := 3, ns := 4, raw := false, body :=
  (.cons w__law_signs_0
  (.cons (.ret (.var 1))
  .nil)) }
/-- _law_read_atom(_law_text_here, _law_at); 0:_law_text_here 1:_law_at 2:_law_left 3:_law_behind 4:_law_right -/
def m__law_read_atom : Fn := { ps := 2, ns := 5, raw := false, body :=
  (.cons (.ite (.cmp .ne (.slc (.var 0) (.some (.var 1)) (.some (.bin .add (.var 1) (.lit (.int 1))))) (.lit (.str [40]))) (.cons (.ite (.cmp .in_ (.slc (.var 0) (.some (.var 1)) (.some (.bin .add (.var 1) (.lit (.int 1))))) (.bi .list (.cons (.lit (.str [97, 98, 99, 100, 101, 102, 103, 104, 105, 106, 107, 108, 109, 110, 111, 112, 113, 114, 115, 116, 117, 118, 119, 120, 121, 122])) .nil))) (.cons (.ret (.tup (.cons (.bm .index (.lit (.str [97, 98, 99, 100, 101, 102, 103, 104, 105, 106, 107, 108, 109, 110, 111, 112, 113, 114, 115, 116, 117, 118, 119, 120, 121, 122])) (.cons (.idx (.var 0) (.var 1)) .nil)) (.cons (.bin .add (.var 1) (.lit (.int 1))) .nil))))
  .nil) .nil)
  (.cons (.ret (.tup (.cons (.lit .non) (.cons (.bin .sub (.bin .sub (.lit (.int 0)) (.var 1)) (.lit (.int 1))) .nil))))
  .nil)) .nil)
  (.cons (.asg (.tup (.cons (.var 2) (.cons (.var 3) .nil))) (.call F__law_read_atom (.cons (.var 0) (.cons (.bin .add (.var 1) (.lit (.int 1))) .nil))))
  (.cons (.ite (.cmp .is_ (.var 2) (.lit .non)) (.cons (.ret (.tup (.cons (.lit .non) (.cons (.var 3) .nil))))
  .nil) .nil)
  (.cons (.asg (.var 3) (.call F__law_signs (.cons (.var 0) (.cons (.var 3) (.cons (.lit (.str [32, 62, 32])) .nil)))))
  (.cons (.ite (.cmp .lt (.var 3) (.lit (.int 0))) (.cons (.ret (.tup (.cons (.lit .non) (.cons (.var 3) .nil))))
  .nil) .nil)
  (.cons (.asg (.tup (.cons (.var 4) (.cons (.var 3) .nil))) (.call F__law_read_kind (.cons (.var 0) (.cons (.var 3) .nil))))
  (.cons (.ite (.cmp .is_ (.var 4) (.lit .non)) (.cons (.ret (.tup (.cons (.lit .non) (.cons (.var 3) .nil))))
  .nil) .nil)
  (.cons (.asg (.var 3) (.call F__law_signs (.cons (.var 0) (.cons (.var 3) (.cons (.lit (.str [41])) .nil)))))
  (.cons (.ret (.ite (.cmp .lt (.var 3) (.lit (.int 0))) (.tup (.cons (.lit .non) (.cons (.var 3) .nil))) (.tup (.cons (.tup (.cons (.var 2) (.cons (.var 4) .nil))) (.cons (.var 3) .nil)))))
  .nil))))))))) }
/-- _law_read_kind(_law_text_here, _law_at); 0:_law_text_here 1:_law_at 2:_law_first 3:_law_left 4:_law_behind 5:_law_right -/
def m__law_read_kind : Fn := { ps := 2, ns := 6, raw := false, body :=
  (.cons (.asg (.var 2) (.slc (.var 0) (.some (.var 1)) (.some (.bin .add (.var 1) (.lit (.int 1))))))
  (.cons (.asg (.tup (.cons (.var 3) (.cons (.var 4) .nil))) (.call F__law_read_atom (.cons (.var 0) (.cons (.var 1) .nil))))
  (.cons (.ite (.cmp .is_ (.var 3) (.lit .non)) (.cons (.ret (.tup (.cons (.lit .non) (.cons (.var 4) .nil))))
  .nil) .nil)
  (.cons (.ite (.and (.cmp .ne (.slc (.var 0) (.some (.var 4)) (.some (.bin .add (.var 4) (.lit (.int 1))))) (.lit (.str [32]))) (.cmp .ne (.var 2) (.lit (.str [40])))) (.cons (.ret (.tup (.cons (.var 3) (.cons (.var 4) .nil))))
  .nil) .nil)
  (.cons (.asg (.var 4) (.call F__law_signs (.cons (.var 0) (.cons (.var 4) (.cons (.lit (.str [32, 62, 32])) .nil)))))
  (.cons (.ite (.cmp .lt (.var 4) (.lit (.int 0))) (.cons (.ret (.tup (.cons (.lit .non) (.cons (.var 4) .nil))))
  .nil) .nil)
  (.cons (.asg (.tup (.cons (.var 5) (.cons (.var 4) .nil))) (.call F__law_read_kind (.cons (.var 0) (.cons (.var 4) .nil))))
  (.cons (.ret (.ite (.cmp .is_ (.var 5) (.lit .non)) (.tup (.cons (.lit .non) (.cons (.var 4) .nil))) (.tup (.cons (.tup (.cons (.var 3) (.cons (.var 5) .nil))) (.cons (.var 4) .nil)))))
  .nil)))))))) }
/-- _law_read_name(_law_text_here, _law_at); 0:_law_text_here 1:_law_at 2:_law_behind -/
def w__law_read_name_0 : St := .whl (.and (.cmp .lt (.var 2) (.bin .add (.var 1) (.lit (.int 8)))) (.cmp .in_ (.slc (.var 0) (.some (.var 2)) (.some (.bin .add (.var 2) (.lit (.int 1))))) (.bi .list (.cons (.lit (.str [97, 98, 99, 100, 101, 102, 103, 104, 105, 106, 107, 108, 109, 110, 111, 112, 113, 114, 115, 116, 117, 118, 119, 120, 121, 122])) .nil)))) (.cons (.asg (.var 2) (.bin .add (.var 2) (.lit (.int 1))))
  .nil)
def m__law_read_name : Fn := { ps := 2, ns := 3, raw := false, body :=
  (.cons (.asg (.var 2) (.var 1))
  (.cons w__law_read_name_0
  (.cons (.ret (.ite (.cmp .gt (.var 2) (.var 1)) (.tup (.cons (.slc (.var 0) (.some (.var 1)) (.some (.var 2))) (.cons (.var 2) .nil))) (.tup (.cons (.lit .non) (.cons (.bin .sub (.bin .sub (.lit (.int 0)) (.var 1)) (.lit (.int 1))) .nil)))))
  .nil))) }
/-- _law_read_take(_law_text_here, _law_at); 0:_law_text_here 1:_law_at 2:_law_name 3:_law_behind 4:_law_kind_here -/
def m__law_read_take : Fn := { ps := 2, ns := 5, raw := false, body :=
  (.cons (.asg (.tup (.cons (.var 2) (.cons (.var 3) .nil))) (.call F__law_read_name (.cons (.var 0) (.cons (.var 1) .nil))))
  (.cons (.ite (.cmp .is_ (.var 2) (.lit .non)) (.cons (.ret (.tup (.cons (.lit .non) (.cons (.var 3) .nil))))
  .nil) .nil)
  (.cons (.asg (.var 3) (.call F__law_signs (.cons (.var 0) (.cons (.var 3) (.cons (.lit (.str [58])) .nil)))))
  (.cons (.ite (.cmp .lt (.var 3) (.lit (.int 0))) (.cons (.ret (.tup (.cons (.lit .non) (.cons (.var 3) .nil))))
  .nil) .nil)
  (.cons (.asg (.tup (.cons (.var 4) (.cons (.var 3) .nil))) (.call F__law_read_kind (.cons (.var 0) (.cons (.var 3) .nil))))
  (.cons (.ite (.cmp .is_ (.var 4) (.lit .non)) (.cons (.ret (.tup (.cons (.lit .non) (.cons (.var 3) .nil))))
  .nil) .nil)
  (.cons (.asg (.var 3) (.call F__law_signs (.cons (.var 0) (.cons (.var 3) (.cons (.lit (.str [93, 32])) .nil)))))
  (.cons (.ret (.ite (.cmp .lt (.var 3) (.lit (.int 0))) (.tup (.cons (.lit .non) (.cons (.var 3) .nil))) (.tup (.cons (.tup (.cons (.var 2) (.cons (.var 4) .nil))) (.cons (.var 3) .nil)))))
  .nil)))))))) }
/-- _law_read_words(_law_text_here, _law_at); 0:_law_text_here 1:_law_at 2:_law_one 3:_law_behind 4:_law_other 5:_law_take 6:_law_body 7:_law_name -/
def m__law_read_words : Fn := { ps := 2, ns := 8, raw := false, body :=
  (.cons (.ite (.cmp .eq (.slc (.var 0) (.some (.var 1)) (.some (.bin .add (.var 1) (.lit (.int 1))))) (.lit (.str [91]))) (.cons (.asg (.tup (.cons (.var 5) (.cons (.var 3) .nil))) (.call F__law_read_take (.cons (.var 0) (.cons (.bin .add (.var 1) (.lit (.int 1))) .nil))))
  (.cons (.ite (.cmp .is_ (.var 5) (.lit .non)) (.cons (.ret (.tup (.cons (.lit .non) (.cons (.var 3) .nil))))
  .nil) .nil)
  (.cons (.asg (.tup (.cons (.var 6) (.cons (.var 3) .nil))) (.call F__law_read_words (.cons (.var 0) (.cons (.var 3) .nil))))
  (.cons (.ret (.ite (.cmp .is_ (.var 6) (.lit .non)) (.tup (.cons (.lit .non) (.cons (.var 3) .nil))) (.tup (.cons (.bin .add (.tup (.cons (.var 5) .nil)) (.var 6)) (.cons (.var 3) .nil)))))
  .nil)))) .nil)
  (.cons (.ite (.cmp .ne (.slc (.var 0) (.some (.var 1)) (.some (.bin .add (.var 1) (.lit (.int 1))))) (.lit (.str [40]))) (.cons (.asg (.tup (.cons (.var 7) (.cons (.var 3) .nil))) (.call F__law_read_name (.cons (.var 0) (.cons (.var 1) .nil))))
  (.cons (.ret (.ite (.cmp .is_ (.var 7) (.lit .non)) (.tup (.cons (.lit .non) (.cons (.var 3) .nil))) (.tup (.cons (.tup (.cons (.var 7) .nil)) (.cons (.var 3) .nil)))))
  .nil)) .nil)
  (.cons (.asg (.tup (.cons (.var 2) (.cons (.var 3) .nil))) (.call F__law_read_words (.cons (.var 0) (.cons (.bin .add (.var 1) (.lit (.int 1))) .nil))))
  (.cons (.ite (.cmp .is_ (.var 2) (.lit .non)) (.cons (.ret (.tup (.cons (.lit .non) (.cons (.var 3) .nil))))
  .nil) .nil)
  (.cons (.asg (.var 3) (.call F__law_signs (.cons (.var 0) (.cons (.var 3) (.cons (.lit (.str [32])) .nil)))))
  (.cons (.ite (.cmp .lt (.var 3) (.lit (.int 0))) (.cons (.ret (.tup (.cons (.lit .non) (.cons (.var 3) .nil))))
  .nil) .nil)
  (.cons (.asg (.tup (.cons (.var 4) (.cons (.var 3) .nil))) (.call F__law_read_words (.cons (.var 0) (.cons (.var 3) .nil))))
  (.cons (.ite (.cmp .is_ (.var 4) (.lit .non)) (.cons (.ret (.tup (.cons (.lit .non) (.cons (.var 3) .nil))))
  .nil) .nil)
  (.cons (.asg (.var 3) (.call F__law_signs (.cons (.var 0) (.cons (.var 3) (.cons (.lit (.str [41])) .nil)))))
  (.cons (.ret (.ite (.cmp .lt (.var 3) (.lit (.int 0))) (.tup (.cons (.lit .non) (.cons (.var 3) .nil))) (.tup (.cons (.bin .add (.bin .add (.tup (.cons (.lit (.str [64])) .nil)) (.var 2)) (.var 4)) (.cons (.var 3) .nil)))))
  .nil)))))))))) }
/-- _law_due(_law_text_here, _law_is_kind); 0:_law_text_here 1:_law_is_kind 2:_law_found 3:_law_behind -/
def m__law_due : Fn := { ps := 2, ns := 4, raw := false, body :=
  (.cons (.ite (.not (.isi (.var 0) [.str])) (.cons (.ret (.tup (.cons (.lit (.str [116, 101, 120, 116])) (.cons (.neg (.lit (.int 1))) .nil))))
  .nil) .nil)
  (.cons (.asg (.tup (.cons (.var 2) (.cons (.var 3) .nil))) (.ite (.var 1) (.call F__law_read_kind (.cons (.var 0) (.cons (.lit (.int 0)) .nil))) (.call F__law_read_words (.cons (.var 0) (.cons (.lit (.int 0)) .nil)))))
  (.cons (.ite (.cmp .is_ (.var 2) (.lit .non)) (.cons (.ret (.tup (.cons (.lit (.str [116, 101, 120, 116])) (.cons (.bin .sub (.bin .sub (.lit (.int 0)) (.var 3)) (.lit (.int 1))) .nil))))
  .nil) .nil)
  (.cons (.ret (.ite (.cmp .eq (.var 3) (.bi .len (.cons (.var 0) .nil))) (.tup (.cons (.lit (.str [116, 111, 108, 100])) (.cons (.var 2) .nil))) (.tup (.cons (.lit (.str [116, 101, 120, 116])) (.cons (.var 3) .nil)))))
  .nil)))) }
/-- _law_told(_law_text_here, _law_is_kind); 0:_law_text_here 1:_law_is_kind 2:_law_found 3:e -/
def m__law_told : Fn := { ps := 2, ns := 4, raw := false, dyn := true, body :=
  (.cons (.asg (.var 2) (.tup (.cons (.lit (.str [111, 116, 104, 101, 114])) (.cons (.lit .non) .nil))))
  (.cons (.tryT 2 [116, 111, 108, 100] (.var 1) F_read_kind (.cons (.var 0) .nil) F_read_program (.cons (.var 0) .nil) 3 1 2 [116, 101, 120, 116])
  (.cons (.ret (.var 2))
  .nil))) }
/-- _law_bent(_law_hand_here, _law_text_here); 0:_law_hand_here 1:_law_text_here 2:_law_at 3:_law_sign 4:_law_things -/
def m__law_bent : Fn := { ps := 2, ns := 5, raw := false, body :=
  (.cons (.asg (.var 2) (.draw (.var 0) (.bin .add (.bi .len (.cons (.var 1) .nil)) (.lit (.int 1)))))
  (.cons (.asg (.var 3) (.call F__law_some (.cons (.var 0) (.cons (.bin .add (.bi .list (.cons (.lit (.str [97, 98, 122, 62, 40, 41, 32, 91, 58, 93, 65, 48, 10, 64])) .nil)) (.lst (.disp (.cons (.lit (.str [32, 62, 32])) (.cons (.lit (.str [40])) (.cons (.lit (.str [32])) .nil)))))) .nil))))
  (.cons (.asg (.var 4) (.bin .mul (.lst (.disp (.cons (.bin .add (.bin .add (.slc (.var 1) .no (.some (.var 2))) (.var 3)) (.slc (.var 1) (.some (.var 2)) .no)) (.cons (.bin .add (.bin .add (.slc (.var 1) .no (.some (.var 2))) (.var 3)) (.slc (.var 1) (.some (.bin .add (.var 2) (.lit (.int 1)))) .no)) (.cons (.bin .add (.slc (.var 1) .no (.some (.var 2))) (.slc (.var 1) (.some (.bin .add (.var 2) (.lit (.int 1)))) .no)) .nil))))) (.lit (.int 3))))
  (.cons (.ret (.call F__law_some (.cons (.var 0) (.cons (.bin .add (.var 4) (.lst (.disp (.cons (.slc (.var 1) .no (.some (.var 2))) (.cons (.bin .add (.var 1) (.var 3)) (.cons (.slc (.var 1) (.some (.var 2)) .no) (.cons (.bin .add (.var 1) (.var 1)) (.cons (.bin .add (.var 1) (.lit (.str [32, 62, 32, 97]))) (.cons (.bin .add (.lit (.str [97, 98, 99, 100, 101, 102, 103, 104, 105])) (.var 1)) .nil))))))))) .nil))))
  .nil)))) }
/-- law(_law_script); 0:_law_script 1:_law_hand_here 2:_law_turn 3:_law_words 4:_law_is_kind 5:_law_odd 6:_law_text_here 7:_law_change -/
def w_law_0 : St := .for_ (.var 7) (.rng1 (.bin .add (.lit (.int 1)) (.draw (.var 1) (.lit (.int 2))))) (.cons (.asg (.var 6) (.call F__law_bent (.cons (.var 1) (.cons (.var 6) .nil))))
  .nil)
def w_law_1 : St := .for_ (.var 4) (.le (.disp (.cons (.lit (.bool true)) (.cons (.lit (.bool false)) .nil)))) (.cons (.asg (.var 6) (.ite (.var 4) (.call F__law_kind_text (.cons (.call F__law_kind (.cons (.var 1) (.cons (.lit (.int 4)) .nil))) .nil)) (.call F__law_text (.cons (.var 3) .nil))))
  (.cons w_law_0
  (.cons (.ite (.not (.call F__law_is (.cons (.call F__law_told (.cons (.var 6) (.cons (.var 4) .nil))) (.cons (.call F__law_due (.cons (.var 6) (.cons (.var 4) .nil))) .nil)))) (.cons (.ret (.lit (.bool false)))
  .nil) .nil)
  .nil)))
def w_law_2 : St := .for_ (.var 2) (.rng1 (.lit (.int 4))) (.cons (.asg (.var 3) (.call F__law_some_program (.cons (.var 1) (.cons (.call F__law_known (.cons (.var 1) (.cons (.lit (.int 3)) .nil))) (.cons (.lit (.int 2)) .nil)))))
  (.cons w_law_1
  (.cons (.asg (.var 5) (.call F__law_some (.cons (.var 1) (.cons (.lst (.disp (.cons (.lit .non) (.cons (.lit (.int 0)) (.cons (.lit (.bool true)) (.cons (.lst (.disp (.cons (.lit (.str [97])) .nil))) (.cons (.tup (.cons (.lit (.str [97])) .nil)) (.cons .dnew (.cons (.tup .nil) (.cons (.call F__law_deep (.cons (.lit (.int 0)) .nil)) (.cons (.bin .pow (.lit (.int 10)) (.lit (.int 29))) .nil))))))))))) .nil))))
  (.cons (.ite (.or (.cmp .ne (.call F__law_told (.cons (.var 5) (.cons (.lit (.bool true)) .nil))) (.tup (.cons (.lit (.str [116, 101, 120, 116])) (.cons (.neg (.lit (.int 1))) .nil)))) (.cmp .ne (.call F__law_told (.cons (.var 5) (.cons (.lit (.bool false)) .nil))) (.tup (.cons (.lit (.str [116, 101, 120, 116])) (.cons (.neg (.lit (.int 1))) .nil))))) (.cons (.ret (.lit (.bool false)))
  .nil) .nil)
  .nil))))
def m_law : Fn := { ps := 1, ns := 8, raw := false, body :=
  (.cons (.asg (.var 1) (.hand (.var 0)))
  (.cons w_law_2
  (.cons (.ret (.lit (.bool true)))
  .nil))) }
def prog : Prog := { fns := [m_is_integer, m_is_within, m_is_pair, m_is_name, m_is_kind_there, m_is_kind_of_any_size, m_is_take, m_is_word, m_is_whole, m_is_program_there, m_Reader___init__, m_Reader_sign, m_Reader_is_small, m_Reader_need, m_Reader_name, m_Reader_letter, m_Reader_finish, m_joined_kind, m_kind_in, m_whole_kind, m_read_kind, m_whole_program, m_read_program, m__law_some, m__law_shuffled, m__law_is, m__law_deep, m__law_kind, m__law_ends, m__law_known, m__law_some_program, m__law_spans, m__law_heads, m__law_fit, m__law_loose, m__law_kind_text, m__law_text, m__law_signs, m__law_read_atom, m__law_read_kind, m__law_read_name, m__law_read_take, m__law_read_words, m__law_due, m__law_told, m__law_bent, m_law], cls := [0, 0, 0, 0, 10] }
end U
namespace U
open PySem PySem.Spec PyProof.Rows L2
abbrev PB : List Stmt := PySem.Challenge.pw_usecounts_k11_whole_first_wrong_signs.main.body
def top (i : Nat) : Stmt := PB.getD i (.Pass ⟨0, 0, 0, 0⟩)
def N_is_integer : List PySem.Str := ["thing"]
def N_is_within : List PySem.Str := ["thing", "least", "most"]
def N_is_pair : List PySem.Str := ["thing"]
def N_is_name : List PySem.Str := ["thing", "sign"]
def N_is_kind_there : List PySem.Str := ["thing", "waiting", "letters", "here", "deep"]
def N_is_kind_of_any_size : List PySem.Str := ["thing", "waiting", "here"]
def N_is_take : List PySem.Str := ["word"]
def N_is_word : List PySem.Str := ["thing"]
def N_is_whole : List PySem.Str := ["words", "many", "word"]
def N_is_program_there : List PySem.Str := ["thing", "word"]
def N_Reader___init__ : List PySem.Str := ["self", "text"]
def N_Reader_sign : List PySem.Str := ["self"]
def N_Reader_is_small : List PySem.Str := ["self"]
def N_Reader_need : List PySem.Str := ["self", "signs", "sign"]
def N_Reader_name : List PySem.Str := ["self", "begin"]
def N_Reader_letter : List PySem.Str := ["self"]
def N_Reader_finish : List PySem.Str := ["self"]
def N_joined_kind : List PySem.Str := ["rows", "found", "left"]
def N_kind_in : List PySem.Str := ["reader", "rows", "inner"]
def N_whole_kind : List PySem.Str := ["text", "reader", "found"]
def N_read_kind : List PySem.Str := ["text", "found"]
def N_whole_program : List PySem.Str := ["text", "reader", "found", "waiting", "is_open", "name"]
def N_read_program : List PySem.Str := ["text", "found"]
def N__law_some : List PySem.Str := ["_law_hand_here", "_law_things"]
def N__law_shuffled : List PySem.Str := ["_law_hand_here", "_law_things", "_law_pool", "_law_found"]
def N__law_is : List PySem.Str := ["_law_told_here", "_law_due_here", "_law_k", "_law_key"]
def N__law_deep : List PySem.Str := ["_law_kind_here", "_law_found", "_law_turn"]
def N__law_kind : List PySem.Str := ["_law_hand_here", "_law_deep_here"]
def N__law_ends : List PySem.Str := ["_law_kind_here", "_law_found"]
def N__law_known : List PySem.Str := ["_law_hand_here", "_law_many", "_law_names", "_law_name"]
def N__law_some_program : List PySem.Str := ["_law_hand_here", "_law_known_here", "_law_deep_here", "_law_turn", "_law_found", "_law_name", "_law_kind_here"]
def N__law_spans : List PySem.Str := ["_law_words", "_law_found", "_law_waiting", "_law_place", "_law_last"]
def N__law_heads : List PySem.Str := ["_law_inner", "_law_end", "_law_deep_here", "_law_found", "_law_name"]
def N__law_fit : List PySem.Str := ["_law_hand_here", "_law_known_here", "_law_kind_here", "_law_deep_here", "_law_lefts", "_law_end", "_law_inner", "_law_taken", "_law_left", "_law_some_here", "_law_name", "_law_found", "_law_wider", "_law_body"]
def N__law_loose : List PySem.Str := ["_law_hand_here", "_law_names", "_law_deep_here", "_law_kind_here"]
def N__law_kind_text : List PySem.Str := ["_law_kind_here", "_law_left"]
def N__law_text : List PySem.Str := ["_law_words", "_law_spans_here", "_law_texts", "_law_place", "_law_word"]
def N__law_signs : List PySem.Str := ["_law_text_here", "_law_at", "_law_signs_here", "_law_sign"]
def N__law_read_atom : List PySem.Str := ["_law_text_here", "_law_at", "_law_left", "_law_behind", "_law_right"]
def N__law_read_kind : List PySem.Str := ["_law_text_here", "_law_at", "_law_first", "_law_left", "_law_behind", "_law_right"]
def N__law_read_name : List PySem.Str := ["_law_text_here", "_law_at", "_law_behind"]
def N__law_read_take : List PySem.Str := ["_law_text_here", "_law_at", "_law_name", "_law_behind", "_law_kind_here"]
def N__law_read_words : List PySem.Str := ["_law_text_here", "_law_at", "_law_one", "_law_behind", "_law_other", "_law_take", "_law_body", "_law_name"]
def N__law_due : List PySem.Str := ["_law_text_here", "_law_is_kind", "_law_found", "_law_behind"]
def N__law_told : List PySem.Str := ["_law_text_here", "_law_is_kind", "_law_found", "e"]
def N__law_bent : List PySem.Str := ["_law_hand_here", "_law_text_here", "_law_at", "_law_sign", "_law_things"]
def N_law : List PySem.Str := ["_law_script", "_law_hand_here", "_law_turn", "_law_words", "_law_is_kind", "_law_odd", "_law_text_here", "_law_change"]
def N_hand : List PySem.Str := ["_law_script", "_law_cells", "_law_cell"]
def N_draw : List PySem.Str := ["_law_hand_here", "_law_many", "_law_number", "_law_cell", "_law_digit"]
def de_is_integer : DE := ⟨"is_integer", ("is_integer", none), "is_integer", top 8, N_is_integer, 1⟩
theorem bd_is_integer : de_is_integer.Bd := fun _ _ _ _ _ _ us hl => match us, (show us.length = 1 from hl) with | [_], _ => rfl
def de_is_within : DE := ⟨"is_within", ("is_within", none), "is_within", top 9, N_is_within, 3⟩
theorem bd_is_within : de_is_within.Bd := fun _ _ _ _ _ _ us hl => match us, (show us.length = 3 from hl) with | [_, _, _], _ => rfl
def de_is_pair : DE := ⟨"is_pair", ("is_pair", none), "is_pair", top 10, N_is_pair, 1⟩
theorem bd_is_pair : de_is_pair.Bd := fun _ _ _ _ _ _ us hl => match us, (show us.length = 1 from hl) with | [_], _ => rfl
def de_is_name : DE := ⟨"is_name", ("is_name", none), "is_name", top 11, N_is_name, 1⟩
theorem bd_is_name : de_is_name.Bd := fun _ _ _ _ _ _ us hl => match us, (show us.length = 1 from hl) with | [_], _ => rfl
def de_is_kind_there : DE := ⟨"is_kind_there", ("is_kind_there", none), "is_kind_there", top 16, N_is_kind_there, 1⟩
theorem bd_is_kind_there : de_is_kind_there.Bd := fun _ _ _ _ _ _ us hl => match us, (show us.length = 1 from hl) with | [_], _ => rfl
def de_is_kind_of_any_size : DE := ⟨"is_kind_of_any_size", ("is_kind_of_any_size", none), "is_kind_of_any_size", top 17, N_is_kind_of_any_size, 1⟩
theorem bd_is_kind_of_any_size : de_is_kind_of_any_size.Bd := fun _ _ _ _ _ _ us hl => match us, (show us.length = 1 from hl) with | [_], _ => rfl
def de_is_take : DE := ⟨"is_take", ("is_take", none), "is_take", top 21, N_is_take, 1⟩
theorem bd_is_take : de_is_take.Bd := fun _ _ _ _ _ _ us hl => match us, (show us.length = 1 from hl) with | [_], _ => rfl
def de_is_word : DE := ⟨"is_word", ("is_word", none), "is_word", top 22, N_is_word, 1⟩
theorem bd_is_word : de_is_word.Bd := fun _ _ _ _ _ _ us hl => match us, (show us.length = 1 from hl) with | [_], _ => rfl
def de_is_whole : DE := ⟨"is_whole", ("is_whole", none), "is_whole", top 23, N_is_whole, 1⟩
theorem bd_is_whole : de_is_whole.Bd := fun _ _ _ _ _ _ us hl => match us, (show us.length = 1 from hl) with | [_], _ => rfl
def de_is_program_there : DE := ⟨"is_program_there", ("is_program_there", none), "is_program_there", top 24, N_is_program_there, 1⟩
theorem bd_is_program_there : de_is_program_there.Bd := fun _ _ _ _ _ _ us hl => match us, (show us.length = 1 from hl) with | [_], _ => rfl
def de_Reader___init__ : DE := ⟨"__init__", ("Reader", some ("__init__" : Str)), "Reader.__init__", inClass (top 26) 0, N_Reader___init__, 2⟩
theorem bd_Reader___init__ : de_Reader___init__.Bd := fun _ _ _ _ _ _ us hl => match us, (show us.length = 2 from hl) with | [_, _], _ => rfl
def de_Reader_sign : DE := ⟨"sign", ("Reader", some ("sign" : Str)), "Reader.sign", inClass (top 26) 1, N_Reader_sign, 1⟩
theorem bd_Reader_sign : de_Reader_sign.Bd := fun _ _ _ _ _ _ us hl => match us, (show us.length = 1 from hl) with | [_], _ => rfl
def de_Reader_is_small : DE := ⟨"is_small", ("Reader", some ("is_small" : Str)), "Reader.is_small", inClass (top 26) 2, N_Reader_is_small, 1⟩
theorem bd_Reader_is_small : de_Reader_is_small.Bd := fun _ _ _ _ _ _ us hl => match us, (show us.length = 1 from hl) with | [_], _ => rfl
def de_Reader_need : DE := ⟨"need", ("Reader", some ("need" : Str)), "Reader.need", inClass (top 26) 3, N_Reader_need, 2⟩
theorem bd_Reader_need : de_Reader_need.Bd := fun _ _ _ _ _ _ us hl => match us, (show us.length = 2 from hl) with | [_, _], _ => rfl
def de_Reader_name : DE := ⟨"name", ("Reader", some ("name" : Str)), "Reader.name", inClass (top 26) 4, N_Reader_name, 1⟩
theorem bd_Reader_name : de_Reader_name.Bd := fun _ _ _ _ _ _ us hl => match us, (show us.length = 1 from hl) with | [_], _ => rfl
def de_Reader_letter : DE := ⟨"letter", ("Reader", some ("letter" : Str)), "Reader.letter", inClass (top 26) 5, N_Reader_letter, 1⟩
theorem bd_Reader_letter : de_Reader_letter.Bd := fun _ _ _ _ _ _ us hl => match us, (show us.length = 1 from hl) with | [_], _ => rfl
def de_Reader_finish : DE := ⟨"finish", ("Reader", some ("finish" : Str)), "Reader.finish", inClass (top 26) 6, N_Reader_finish, 1⟩
theorem bd_Reader_finish : de_Reader_finish.Bd := fun _ _ _ _ _ _ us hl => match us, (show us.length = 1 from hl) with | [_], _ => rfl
def de_joined_kind : DE := ⟨"joined_kind", ("joined_kind", none), "joined_kind", top 27, N_joined_kind, 1⟩
theorem bd_joined_kind : de_joined_kind.Bd := fun _ _ _ _ _ _ us hl => match us, (show us.length = 1 from hl) with | [_], _ => rfl
def de_kind_in : DE := ⟨"kind_in", ("kind_in", none), "kind_in", top 28, N_kind_in, 1⟩
theorem bd_kind_in : de_kind_in.Bd := fun _ _ _ _ _ _ us hl => match us, (show us.length = 1 from hl) with | [_], _ => rfl
def de_whole_kind : DE := ⟨"whole_kind", ("whole_kind", none), "whole_kind", top 29, N_whole_kind, 1⟩
theorem bd_whole_kind : de_whole_kind.Bd := fun _ _ _ _ _ _ us hl => match us, (show us.length = 1 from hl) with | [_], _ => rfl
def de_read_kind : DE := ⟨"read_kind", ("read_kind", none), "read_kind", top 30, N_read_kind, 1⟩
theorem bd_read_kind : de_read_kind.Bd := fun _ _ _ _ _ _ us hl => match us, (show us.length = 1 from hl) with | [_], _ => rfl
def de_whole_program : DE := ⟨"whole_program", ("whole_program", none), "whole_program", top 31, N_whole_program, 1⟩
theorem bd_whole_program : de_whole_program.Bd := fun _ _ _ _ _ _ us hl => match us, (show us.length = 1 from hl) with | [_], _ => rfl
def de_read_program : DE := ⟨"read_program", ("read_program", none), "read_program", top 32, N_read_program, 1⟩
theorem bd_read_program : de_read_program.Bd := fun _ _ _ _ _ _ us hl => match us, (show us.length = 1 from hl) with | [_], _ => rfl
def de__law_some : DE := ⟨"_law_some", ("_law_some", none), "_law_some", top 36, N__law_some, 2⟩
theorem bd__law_some : de__law_some.Bd := fun _ _ _ _ _ _ us hl => match us, (show us.length = 2 from hl) with | [_, _], _ => rfl
def de__law_shuffled : DE := ⟨"_law_shuffled", ("_law_shuffled", none), "_law_shuffled", top 37, N__law_shuffled, 2⟩
theorem bd__law_shuffled : de__law_shuffled.Bd := fun _ _ _ _ _ _ us hl => match us, (show us.length = 2 from hl) with | [_, _], _ => rfl
def de__law_is : DE := ⟨"_law_is", ("_law_is", none), "_law_is", top 38, N__law_is, 2⟩
theorem bd__law_is : de__law_is.Bd := fun _ _ _ _ _ _ us hl => match us, (show us.length = 2 from hl) with | [_, _], _ => rfl
def de__law_deep : DE := ⟨"_law_deep", ("_law_deep", none), "_law_deep", top 39, N__law_deep, 1⟩
theorem bd__law_deep : de__law_deep.Bd := fun _ _ _ _ _ _ us hl => match us, (show us.length = 1 from hl) with | [_], _ => rfl
def de__law_kind : DE := ⟨"_law_kind", ("_law_kind", none), "_law_kind", top 40, N__law_kind, 2⟩
theorem bd__law_kind : de__law_kind.Bd := fun _ _ _ _ _ _ us hl => match us, (show us.length = 2 from hl) with | [_, _], _ => rfl
def de__law_ends : DE := ⟨"_law_ends", ("_law_ends", none), "_law_ends", top 41, N__law_ends, 1⟩
theorem bd__law_ends : de__law_ends.Bd := fun _ _ _ _ _ _ us hl => match us, (show us.length = 1 from hl) with | [_], _ => rfl
def de__law_known : DE := ⟨"_law_known", ("_law_known", none), "_law_known", top 42, N__law_known, 2⟩
theorem bd__law_known : de__law_known.Bd := fun _ _ _ _ _ _ us hl => match us, (show us.length = 2 from hl) with | [_, _], _ => rfl
def de__law_some_program : DE := ⟨"_law_some_program", ("_law_some_program", none), "_law_some_program", top 43, N__law_some_program, 3⟩
theorem bd__law_some_program : de__law_some_program.Bd := fun _ _ _ _ _ _ us hl => match us, (show us.length = 3 from hl) with | [_, _, _], _ => rfl
def de__law_spans : DE := ⟨"_law_spans", ("_law_spans", none), "_law_spans", top 44, N__law_spans, 1⟩
theorem bd__law_spans : de__law_spans.Bd := fun _ _ _ _ _ _ us hl => match us, (show us.length = 1 from hl) with | [_], _ => rfl
def de__law_heads : DE := ⟨"_law_heads", ("_law_heads", none), "_law_heads", top 45, N__law_heads, 3⟩
theorem bd__law_heads : de__law_heads.Bd := fun _ _ _ _ _ _ us hl => match us, (show us.length = 3 from hl) with | [_, _, _], _ => rfl
def de__law_fit : DE := ⟨"_law_fit", ("_law_fit", none), "_law_fit", top 46, N__law_fit, 4⟩
theorem bd__law_fit : de__law_fit.Bd := fun _ _ _ _ _ _ us hl => match us, (show us.length = 4 from hl) with | [_, _, _, _], _ => rfl
def de__law_loose : DE := ⟨"_law_loose", ("_law_loose", none), "_law_loose", top 47, N__law_loose, 3⟩
theorem bd__law_loose : de__law_loose.Bd := fun _ _ _ _ _ _ us hl => match us, (show us.length = 3 from hl) with | [_, _, _], _ => rfl
def de__law_kind_text : DE := ⟨"_law_kind_text", ("_law_kind_text", none), "_law_kind_text", top 48, N__law_kind_text, 1⟩
theorem bd__law_kind_text : de__law_kind_text.Bd := fun _ _ _ _ _ _ us hl => match us, (show us.length = 1 from hl) with | [_], _ => rfl
def de__law_text : DE := ⟨"_law_text", ("_law_text", none), "_law_text", top 49, N__law_text, 1⟩
theorem bd__law_text : de__law_text.Bd := fun _ _ _ _ _ _ us hl => match us, (show us.length = 1 from hl) with | [_], _ => rfl
def de__law_signs : DE := ⟨"_law_signs", ("_law_signs", none), "_law_signs", top 50, N__law_signs, 3⟩
theorem bd__law_signs : de__law_signs.Bd := fun _ _ _ _ _ _ us hl => match us, (show us.length = 3 from hl) with | [_, _, _], _ => rfl
def de__law_read_atom : DE := ⟨"_law_read_atom", ("_law_read_atom", none), "_law_read_atom", top 51, N__law_read_atom, 2⟩
theorem bd__law_read_atom : de__law_read_atom.Bd := fun _ _ _ _ _ _ us hl => match us, (show us.length = 2 from hl) with | [_, _], _ => rfl
def de__law_read_kind : DE := ⟨"_law_read_kind", ("_law_read_kind", none), "_law_read_kind", top 52, N__law_read_kind, 2⟩
theorem bd__law_read_kind : de__law_read_kind.Bd := fun _ _ _ _ _ _ us hl => match us, (show us.length = 2 from hl) with | [_, _], _ => rfl
def de__law_read_name : DE := ⟨"_law_read_name", ("_law_read_name", none), "_law_read_name", top 53, N__law_read_name, 2⟩
theorem bd__law_read_name : de__law_read_name.Bd := fun _ _ _ _ _ _ us hl => match us, (show us.length = 2 from hl) with | [_, _], _ => rfl
def de__law_read_take : DE := ⟨"_law_read_take", ("_law_read_take", none), "_law_read_take", top 54, N__law_read_take, 2⟩
theorem bd__law_read_take : de__law_read_take.Bd := fun _ _ _ _ _ _ us hl => match us, (show us.length = 2 from hl) with | [_, _], _ => rfl
def de__law_read_words : DE := ⟨"_law_read_words", ("_law_read_words", none), "_law_read_words", top 55, N__law_read_words, 2⟩
theorem bd__law_read_words : de__law_read_words.Bd := fun _ _ _ _ _ _ us hl => match us, (show us.length = 2 from hl) with | [_, _], _ => rfl
def de__law_due : DE := ⟨"_law_due", ("_law_due", none), "_law_due", top 56, N__law_due, 2⟩
theorem bd__law_due : de__law_due.Bd := fun _ _ _ _ _ _ us hl => match us, (show us.length = 2 from hl) with | [_, _], _ => rfl
def de__law_told : DE := ⟨"_law_told", ("_law_told", none), "_law_told", top 57, N__law_told, 2⟩
theorem bd__law_told : de__law_told.Bd := fun _ _ _ _ _ _ us hl => match us, (show us.length = 2 from hl) with | [_, _], _ => rfl
def de__law_bent : DE := ⟨"_law_bent", ("_law_bent", none), "_law_bent", top 58, N__law_bent, 2⟩
theorem bd__law_bent : de__law_bent.Bd := fun _ _ _ _ _ _ us hl => match us, (show us.length = 2 from hl) with | [_, _], _ => rfl
def de_law : DE := ⟨"law", ("law", none), "law", top 59, N_law, 1⟩
theorem bd_law : de_law.Bd := fun _ _ _ _ _ _ us hl => match us, (show us.length = 1 from hl) with | [_], _ => rfl
def de_hand : DE := ⟨"_law_hand", ("_law_hand", none), "_law_hand", top 34, N_hand, 1⟩
theorem bd_hand : de_hand.Bd := fun _ _ _ _ _ _ us hl => match us, (show us.length = 1 from hl) with | [_], _ => rfl
def de_draw : DE := ⟨"_law_draw", ("_law_draw", none), "_law_draw", top 35, N_draw, 2⟩
theorem bd_draw : de_draw.Bd := fun _ _ _ _ _ _ us hl => match us, (show us.length = 2 from hl) with | [_, _], _ => rfl
def tab : Tab := ⟨[tp "SMALL" (.str [97, 98, 99, 100, 101, 102, 103, 104, 105, 106, 107, 108, 109, 110, 111, 112, 113, 114, 115, 116, 117, 118, 119, 120, 121, 122]), tp "MOST_SIGNS" (.int 8), tp "MOST_LETTERS" (.int 60), tp "MOST_DEEP" (.int 30), tp "LAST_LETTER" (.int 25), tp "USE" (.str [64]), tp "MOST_WORDS" (.int 400)],
  [tp "is_integer" 0, tp "is_within" 1, tp "is_pair" 2, tp "is_name" 3, tp "is_kind_there" 4, tp "is_kind_of_any_size" 5, tp "is_take" 6, tp "is_word" 7, tp "is_whole" 8, tp "is_program_there" 9, tp "joined_kind" 17, tp "kind_in" 18, tp "whole_kind" 19, tp "read_kind" 20, tp "whole_program" 21, tp "read_program" 22, tp "_law_some" 23, tp "_law_shuffled" 24, tp "_law_is" 25, tp "_law_deep" 26, tp "_law_kind" 27, tp "_law_ends" 28, tp "_law_known" 29, tp "_law_some_program" 30, tp "_law_spans" 31, tp "_law_heads" 32, tp "_law_fit" 33, tp "_law_loose" 34, tp "_law_kind_text" 35, tp "_law_text" 36, tp "_law_signs" 37, tp "_law_read_atom" 38, tp "_law_read_kind" 39, tp "_law_read_name" 40, tp "_law_read_take" 41, tp "_law_read_words" 42, tp "_law_due" 43, tp "_law_told" 44, tp "_law_bent" 45, tp "law" 46],
  [tp "Reader" 4],
  [tp "sign" (4, 11), tp "is_small" (4, 12), tp "need" (4, 13), tp "name" (4, 14), tp "letter" (4, 15), tp "finish" (4, 16)],
  [tp "kept_at" 0, tp "kept_text" 1, tp "index" 2],
  [tp "BadText" (1, 2)],
  [tp "CountsError" 0],
  "_law_hand", "_law_draw"⟩
def des : List DE := [de_is_integer, de_is_within, de_is_pair, de_is_name, de_is_kind_there, de_is_kind_of_any_size, de_is_take, de_is_word, de_is_whole, de_is_program_there, de_Reader___init__, de_Reader_sign, de_Reader_is_small, de_Reader_need, de_Reader_name, de_Reader_letter, de_Reader_finish, de_joined_kind, de_kind_in, de_whole_kind, de_read_kind, de_whole_program, de_read_program, de__law_some, de__law_shuffled, de__law_is, de__law_deep, de__law_kind, de__law_ends, de__law_known, de__law_some_program, de__law_spans, de__law_heads, de__law_fit, de__law_loose, de__law_kind_text, de__law_text, de__law_signs, de__law_read_atom, de__law_read_kind, de__law_read_name, de__law_read_take, de__law_read_words, de__law_due, de__law_told, de__law_bent, de_law]
def xes : List XE := [⟨"BadText", "index", "index"⟩]
theorem xb_0 : (xes.getD 0 ⟨"", "", ""⟩).Bd := fun _ _ _ _ _ _ _ _ _ _ _ _ _ _ _ => rfl
theorem xbs : ∀ q ∈ xes, q.Bd := List.forall_mem_cons.mpr ⟨xb_0, fun _ h => (nomatch h)⟩
def lawD : LawD := ⟨prog, tab, des, de_hand, de_draw, xes⟩
theorem bds : ∀ q ∈ des ++ [de_hand, de_draw], q.Bd := List.forall_mem_cons.mpr ⟨bd_is_integer, List.forall_mem_cons.mpr ⟨bd_is_within, List.forall_mem_cons.mpr ⟨bd_is_pair, List.forall_mem_cons.mpr ⟨bd_is_name, List.forall_mem_cons.mpr ⟨bd_is_kind_there, List.forall_mem_cons.mpr ⟨bd_is_kind_of_any_size, List.forall_mem_cons.mpr ⟨bd_is_take, List.forall_mem_cons.mpr ⟨bd_is_word, List.forall_mem_cons.mpr ⟨bd_is_whole, List.forall_mem_cons.mpr ⟨bd_is_program_there, List.forall_mem_cons.mpr ⟨bd_Reader___init__, List.forall_mem_cons.mpr ⟨bd_Reader_sign, List.forall_mem_cons.mpr ⟨bd_Reader_is_small, List.forall_mem_cons.mpr ⟨bd_Reader_need, List.forall_mem_cons.mpr ⟨bd_Reader_name, List.forall_mem_cons.mpr ⟨bd_Reader_letter, List.forall_mem_cons.mpr ⟨bd_Reader_finish, List.forall_mem_cons.mpr ⟨bd_joined_kind, List.forall_mem_cons.mpr ⟨bd_kind_in, List.forall_mem_cons.mpr ⟨bd_whole_kind, List.forall_mem_cons.mpr ⟨bd_read_kind, List.forall_mem_cons.mpr ⟨bd_whole_program, List.forall_mem_cons.mpr ⟨bd_read_program, List.forall_mem_cons.mpr ⟨bd__law_some, List.forall_mem_cons.mpr ⟨bd__law_shuffled, List.forall_mem_cons.mpr ⟨bd__law_is, List.forall_mem_cons.mpr ⟨bd__law_deep, List.forall_mem_cons.mpr ⟨bd__law_kind, List.forall_mem_cons.mpr ⟨bd__law_ends, List.forall_mem_cons.mpr ⟨bd__law_known, List.forall_mem_cons.mpr ⟨bd__law_some_program, List.forall_mem_cons.mpr ⟨bd__law_spans, List.forall_mem_cons.mpr ⟨bd__law_heads, List.forall_mem_cons.mpr ⟨bd__law_fit, List.forall_mem_cons.mpr ⟨bd__law_loose, List.forall_mem_cons.mpr ⟨bd__law_kind_text, List.forall_mem_cons.mpr ⟨bd__law_text, List.forall_mem_cons.mpr ⟨bd__law_signs, List.forall_mem_cons.mpr ⟨bd__law_read_atom, List.forall_mem_cons.mpr ⟨bd__law_read_kind, List.forall_mem_cons.mpr ⟨bd__law_read_name, List.forall_mem_cons.mpr ⟨bd__law_read_take, List.forall_mem_cons.mpr ⟨bd__law_read_words, List.forall_mem_cons.mpr ⟨bd__law_due, List.forall_mem_cons.mpr ⟨bd__law_told, List.forall_mem_cons.mpr ⟨bd__law_bent, List.forall_mem_cons.mpr ⟨bd_law, List.forall_mem_cons.mpr ⟨bd_hand, List.forall_mem_cons.mpr ⟨bd_draw, fun _ h => (nomatch h)⟩⟩⟩⟩⟩⟩⟩⟩⟩⟩⟩⟩⟩⟩⟩⟩⟩⟩⟩⟩⟩⟩⟩⟩⟩⟩⟩⟩⟩⟩⟩⟩⟩⟩⟩⟩⟩⟩⟩⟩⟩⟩⟩⟩⟩⟩⟩⟩⟩
theorem lawD_ok : lawD.ok = true := by decide +kernel
abbrev hRow : PySem.W.OpenRow := PySem.W.OpenLaw.row PySem.Challenge.rw_usecounts_k11_whole_first_wrong_signs
def loose : List PySem.Str := (["CountsError", "BadText", "NoKind", "NoProgram", "SMALL", "MOST_SIGNS", "is_integer", "is_within", "is_pair", "is_name", "MOST_LETTERS", "MOST_DEEP", "LAST_LETTER", "is_kind_there", "is_kind_of_any_size", "USE", "MOST_WORDS", "is_take", "is_word", "is_whole", "is_program_there", "Reader", "joined_kind", "kind_in", "whole_kind", "read_kind", "whole_program", "read_program", "_law_hand", "_law_draw"] : List PySem.Str) ++ (["_law_some", "_law_shuffled", "_law_is", "_law_deep", "_law_kind", "_law_ends", "_law_known", "_law_some_program", "_law_spans", "_law_heads", "_law_fit", "_law_loose", "_law_kind_text", "_law_text", "_law_signs", "_law_read_atom", "_law_read_kind", "_law_read_name", "_law_read_take", "_law_read_words", "_law_due", "_law_told", "_law_bent"] : List PySem.Str)
abbrev hk : PySem.W.Hook := hookC 6 lawD.fa lawD.fn (lawD.ex hRow.prog)
def ob (s : PySem.W.SharedT) : He.AlD × Bool := obsC 6 lawD.fa lawD.fn (lawD.ex hRow.prog) (HandSHeadRun.getT s)
theorem ob_eq (s : PySem.W.SharedT) : ob s = hk.obs s.abs := obsC_eq (HandSHeadRun.getT_eq s)
theorem head_run (w : World) : HandSHeadRun.RunEq hRow (PySem.W.view hRow.prog [59]) hk ob 6000 loose w := by
  intro os
  kernel_rfl
end U
/-! Pl0: laws of the interpreter for plain proofs. -/
namespace U
/-! ### while -/
theorem wlm_mono {c : Env → S → R Bool} {b : Env → S → X} : ∀ (n m : Nat) (env : Env) (s : S) (x : X), wl c b n env s = some x → n ≤ m → wl c b m env s = some x
  | 0, _, env, s, x, h, _ => by simp [wl] at h
  | n + 1, 0, env, s, x, h, l => by omega
  | n + 1, m + 1, env, s, x, h, l => by
    have ih := fun e s' h' => wlm_mono (c := c) (b := b) n m e s' x h' (by omega)
    unfold wl at h ⊢
    revert h
    cases c env s with
    | bot => exact id
    | exc e s => exact id
    | ok k s1 =>
      cases k
      · exact id
      · dsimp only
        cases b env s1 with
        | next e2 s2 => exact ih e2 s2
        | cnt e2 s2 => exact ih e2 s2
        | _ => exact id
theorem loop_some {c : Env → S → R Bool} {b : Env → S → X} {n : Nat} {env : Env} {s : S} {x : X} (h : wl c b n env s = some x) : loop c b env s = x := by
  have hx : ∃ n x, wl c b n env s = some x := ⟨n, x, h⟩
  unfold loop
  rw [dif_pos hx]
  have h2 := hx.choose_spec.choose_spec
  have h3 := wlm_mono _ _ _ _ _ h (Nat.le_max_left n hx.choose)
  have h4 := wlm_mono _ _ _ _ _ h2 (Nat.le_max_right n hx.choose)
  rw [h3] at h4
  exact (Option.some.inj h4).symm
theorem loop_none {c : Env → S → R Bool} {b : Env → S → X} {env : Env} {s : S} (h : ∀ n, wl c b n env s = none) : loop c b env s = .bot := by
  unfold loop
  rw [dif_neg]
  rintro ⟨n, x, hx⟩
  rw [h n] at hx
  cases hx
theorem loop_again {c : Env → S → R Bool} {b : Env → S → X} {env e2 : Env} {s s2 : S} (h : ∀ n, wl c b (n + 1) env s = wl c b n e2 s2) : loop c b env s = loop c b e2 s2 := by
  by_cases hx : ∃ n x, wl c b n e2 s2 = some x
  · obtain ⟨n, x, hx⟩ := hx
    rw [loop_some hx, loop_some ((h n).trans hx)]
  · have hn : ∀ n, wl c b n e2 s2 = none := fun n => by
      cases q : wl c b n e2 s2 with
      | none => rfl
      | some x => exact absurd ⟨n, x, q⟩ hx
    rw [loop_none hn, loop_none fun n => ?_]
    cases n with
    | zero => rfl
    | succ n => rw [h n, hn n]
theorem loop_unfold (c : Env → S → R Bool) (b : Env → S → X) (env : Env) (s : S) : loop c b env s = match c env s with
    | .bot => .bot
    | .exc e s => .exc e s
    | .ok false s => .next env s
    | .ok true s => match b env s with
      | .next env s => loop c b env s
      | .cnt env s => loop c b env s
      | .brk env s => .next env s
      | x => x := by
  have u := fun n => (show wl c b (n + 1) env s = match c env s with
    | .bot => some .bot
    | .exc e s => some (.exc e s)
    | .ok false s => some (.next env s)
    | .ok true s => match b env s with
      | .next env s => wl c b n env s
      | .cnt env s => wl c b n env s
      | .brk env s => some (.next env s)
      | x => some x from rfl)
  cases hc : c env s with
  | bot => simp only [hc] at u; exact loop_some (u 0)
  | exc e s => simp only [hc] at u; exact loop_some (u 0)
  | ok k s1 =>
    cases k
    · simp only [hc] at u; exact loop_some (u 0)
    · simp only [hc] at u
      dsimp only
      cases hb : b env s1 with
      | next e2 s2 => simp only [hb] at u; exact loop_again u
      | cnt e2 s2 => simp only [hb] at u; exact loop_again u
      | bot => simp only [hb] at u; exact loop_some (u 0)
      | ret v s => simp only [hb] at u; exact loop_some (u 0)
      | exc e s => simp only [hb] at u; exact loop_some (u 0)
      | brk e s => simp only [hb] at u; exact loop_some (u 0)
theorem loop_done {c : Env → S → R Bool} {b : Env → S → X} {env : Env} {s s1 : S} (h : c env s = .ok false s1) : loop c b env s = .next env s1 := by
  rw [loop_unfold, h]
theorem loop_next {c : Env → S → R Bool} {b : Env → S → X} {env e2 : Env} {s s1 s2 : S} (h : c env s = .ok true s1) (h' : b env s1 = .next e2 s2) : loop c b env s = loop c b e2 s2 := by
  rw [loop_unfold, h]; dsimp only; rw [h']
theorem loop_cnt {c : Env → S → R Bool} {b : Env → S → X} {env e2 : Env} {s s1 s2 : S} (h : c env s = .ok true s1) (h' : b env s1 = .cnt e2 s2) : loop c b env s = loop c b e2 s2 := by
  rw [loop_unfold, h]; dsimp only; rw [h']
theorem loop_ret {c : Env → S → R Bool} {b : Env → S → X} {env : Env} {s s1 s2 : S} {v : Val} (h : c env s = .ok true s1) (h' : b env s1 = .ret v s2) : loop c b env s = .ret v s2 := by
  rw [loop_unfold, h]; dsimp only; rw [h']
/-! ### calls -/
noncomputable abbrev FN (P : Prog) (n : Nat) : Nat → List Val → S → R Val := fnOf P (runG loop P n)
noncomputable abbrev CN (P : Prog) (n : Nat) : Calls := ⟨fnOf P (runG loop P (n + 1)), iniOf P (runG loop P n), loop⟩
theorem runG_eq (P : Prog) (n f : Nat) (as : List Val) (s : S) : runG loop P (n + 2) f as s = body P (CN P n) f as s := rfl
/-- what a body's end is -/
def fin : X → R Val
  | .next _ s => .ok (.p .non) s
  | .ret v s => .ok v s
  | .exc e s => .exc e s
  | _ => .bot
@[simp] theorem fin_next (e : Env) (s : S) : fin (.next e s) = .ok (.p .non) s := rfl
@[simp] theorem fin_ret (v : Val) (s : S) : fin (.ret v s) = .ok v s := rfl
theorem body_eq {P : Prog} {C : Calls} {f : Nat} {F : Fn} (hf : P.fns[f]? = some F) {as : List Val} (hl : as.length = F.ps) (s : S) : body P C f as s = fin (exs C F.body (as.map some ++ List.replicate (F.ns - F.ps) none) s) := by
  unfold body
  rw [hf]
  simp only [hl, if_true]
  cases exs C F.body (List.map some as ++ List.replicate (F.ns - F.ps) none) s <;> rfl
theorem renum_nil : ∀ {as : List Val} (k : Nat), refs as = [] → renum k as = as
  | [], _, _ => rfl
  | .r a :: l, k, h => by simp [refs] at h
  | .p v :: l, k, h => by simp only [renum]; rw [renum_nil k (by simpa [refs] using h)]
  | .t v :: l, k, h => by simp only [renum]; rw [renum_nil k (by simpa [refs] using h)]
  | .hd :: l, k, h => by simp only [renum]; rw [renum_nil k (by simpa [refs] using h)]
  | .sc :: l, k, h => by simp only [renum]; rw [renum_nil k (by simpa [refs] using h)]
/-- where a value of a def without objects lands -/
def land0 (small : List Obj) (s : S) (d : Option Hand) (v : Val) : R Val := match landV 0 [] small s.h v with
  | some (v, h) => .ok v ⟨h, d, s.sc⟩
  | none => .bot
@[simp] theorem land0_p (small : List Obj) (s : S) (d : Option Hand) (v : PV) : land0 small s d (.p v) = .ok (.p v) ⟨s.h, d, s.sc⟩ := rfl
theorem call0 {P : Prog} {n f : Nat} {F : Fn} {as : List Val} {s : S} {v : Val} {h : List Obj} {d : Option Hand} {sc : List Int} (hf : P.fns[f]? = some F) (hraw : F.raw = false) (hr : refs as = []) (ha : as.all flatA = true) (hl : as.length = F.ps)
    (hb : fin (exs (CN P n) F.body (as.map some ++ List.replicate (F.ns - F.ps) none) ⟨[], s.d, s.sc⟩) = .ok v ⟨h, d, sc⟩) : FN P (n + 2) f as s = land0 h s d v := by
  unfold FN fnOf
  rw [hf]
  have hB : footB as s = true := by simp only [footB, hr, gather, ha, List.all_nil, Bool.and_self]
  simp only [hraw, hB, Bool.not_true, Bool.and_false, Bool.or_self, Bool.false_eq_true, if_false]
  unfold foot
  simp only [hr, gather, nodup, ha, List.all_nil, Bool.and_self, if_true, renum_nil 0 hr, runG_eq, body_eq hf hl, hb, List.length_nil, List.take_zero, Nat.zero_le, decide_true, Bool.and_true, scatter]
  unfold land0
  all_goals (split <;> simp_all)
theorem renum_len : ∀ (k : Nat) (as : List Val), (renum k as).length = as.length
  | _, [] => rfl
  | k, .r a :: l => by simp [renum, renum_len (k + 1) l]
  | k, .p a :: l => by simp [renum, renum_len k l]
  | k, .t a :: l => by simp [renum, renum_len k l]
  | k, .hd :: l => by simp [renum, renum_len k l]
  | k, .sc :: l => by simp [renum, renum_len k l]
/-- where a value of a def with one object lands -/
def land1 (small : List Obj) (a : Nat) (s : S) (d : Option Hand) (v : Val) : R Val := match small with
  | [] => .bot
  | o :: _ => match landV 1 [a] small (s.h.set a o) v with
    | some (v, h) => .ok v ⟨h, d, s.sc⟩
    | none => .bot
@[simp] theorem land1_p (o : Obj) (small : List Obj) (a : Nat) (s : S) (d : Option Hand) (v : PV) : land1 (o :: small) a s d (.p v) = .ok (.p v) ⟨s.h.set a o, d, s.sc⟩ := rfl
theorem call1 {P : Prog} {n f : Nat} {F : Fn} {as : List Val} {s : S} {a : Nat} {o : Obj} {v : Val} {o' : Obj} {h : List Obj} {d : Option Hand} {sc : List Int} (hf : P.fns[f]? = some F) (hraw : F.raw = false) (hr : refs as = [a]) (ha : as.all flatA = true) (hl : as.length = F.ps) (ho : s.h[a]? = some o) (hp : o.pure = true)
    (hb : fin (exs (CN P n) F.body ((renum 0 as).map some ++ List.replicate (F.ns - F.ps) none) ⟨[o], s.d, s.sc⟩) = .ok v ⟨o' :: h, d, sc⟩) (hp' : o'.pure = true) : FN P (n + 2) f as s = land1 (o' :: h) a s d v := by
  have hl' : (renum 0 as).length = F.ps := by
    rw [← hl]
    exact renum_len 0 as
  unfold FN fnOf
  rw [hf]
  have hB : footB as s = true := by simp only [footB, hr, gather, ho, Option.bind_some, Option.map_some, ha, hp, List.all_cons, List.all_nil, Bool.and_self]
  simp only [hraw, hB, Bool.not_true, Bool.and_false, Bool.or_self, Bool.false_eq_true, if_false]
  unfold foot
  simp only [hr, gather, ho, Option.bind_some, Option.map_some, nodup, ha, List.contains_nil, Bool.not_false, List.all_cons, hp, List.all_nil, Bool.and_self, if_true, runG_eq, body_eq hf hl', hb, List.length_cons, List.length_nil, List.take_succ_cons, List.take_zero, hp', scatter]
  simp only [Nat.zero_add, Nat.le_add_left, decide_true, Bool.and_self, if_true]
  unfold land1
  simp only
  all_goals (split <;> simp_all)
theorem callP {P : Prog} {n f : Nat} {F : Fn} {as : List Val} {s : S} {v : PV} {h : List Obj} {d : Option Hand} {sc : List Int} (hn : 2 ≤ n) (hf : P.fns[f]? = some F) (hraw : F.raw = false) (hr : refs as = []) (ha : as.all flatA = true) (hl : as.length = F.ps)
    (hb : fin (exs (CN P (n - 2)) F.body (as.map some ++ List.replicate (F.ns - F.ps) none) ⟨[], s.d, s.sc⟩) = .ok (.p v) ⟨h, d, sc⟩) : FN P n f as s = .ok (.p v) ⟨s.h, d, s.sc⟩ := by
  obtain ⟨m, rfl⟩ : ∃ m, n = m + 2 := ⟨n - 2, by omega⟩
  exact call0 hf hraw hr ha hl hb
theorem callQ {P : Prog} {n f : Nat} {F : Fn} {as : List Val} {s : S} {v : PV} {h : List Obj} {sc : List Int} (hn : 2 ≤ n) (hf : P.fns[f]? = some F) (hraw : F.raw = false) (hr : refs as = []) (ha : as.all flatA = true) (hl : as.length = F.ps)
    (hb : fin (exs (CN P (n - 2)) F.body (as.map some ++ List.replicate (F.ns - F.ps) none) ⟨[], s.d, s.sc⟩) = .ok (.p v) ⟨h, s.d, sc⟩) : FN P n f as s = .ok (.p v) s := callP hn hf hraw hr ha hl hb
/-! ### small things -/
theorem turns_nil {g : S → Bool} {put : Val → Option Env} {c : Env → S → R Bool} {e : Env → S → R Val} {s : S} (h : g s = true) : turns g put c e [] s = .ok [] s := by simp [turns, h]
@[simp] theorem still_nil (s : S) : still s [] = true := rfl
end U
/-! Pl0s: the interpreter's steps as simp rules. -/
namespace U
/-- it keeps the rules out of what comes later -/
class Frz {α : Type} (f : α) : Type where
instance instFrz {α : Type} (f : α) : Frz f := ⟨⟩
def R.bd {α β : Type} (x : R α) (f : α → S → R β) [Frz f] : R β := x.bind f
@[simp] theorem R.bd_ok {α β : Type} (a : α) (s : S) (f : α → S → R β) [Frz f] : (R.ok a s).bd f = f a s := rfl
@[simp] theorem R.bd_exc {α β : Type} (e : Exc) (s : S) (f : α → S → R β) [Frz f] : (R.exc e s).bd f = .exc e s := rfl
@[simp] theorem R.bd_bot {α β : Type} (f : α → S → R β) [Frz f] : (R.bot : R α).bd f = .bot := rfl
def R.th {α : Type} (x : R α) (f : α → S → X) [Frz f] : X := x.then f
@[simp] theorem R.th_ok {α : Type} (a : α) (s : S) (f : α → S → X) [Frz f] : (R.ok a s).th f = f a s := rfl
@[simp] theorem R.th_exc {α : Type} (e : Exc) (s : S) (f : α → S → X) [Frz f] : (R.exc e s : R α).th f = .exc e s := rfl
@[simp] theorem R.th_bot {α : Type} (f : α → S → X) [Frz f] : (R.bot : R α).th f = .bot := rfl
def X.seq (x : X) (f : Env → S → X) [Frz f] : X := match x with
  | .next e s => f e s
  | x => x
@[simp] theorem seq_next (e : Env) (s : S) (f : Env → S → X) [Frz f] : (X.next e s).seq f = f e s := rfl
@[simp] theorem seq_ret (v : Val) (s : S) (f : Env → S → X) [Frz f] : (X.ret v s).seq f = .ret v s := rfl
@[simp] theorem seq_brk (e : Env) (s : S) (f : Env → S → X) [Frz f] : (X.brk e s).seq f = .brk e s := rfl
@[simp] theorem seq_cnt (e : Env) (s : S) (f : Env → S → X) [Frz f] : (X.cnt e s).seq f = .cnt e s := rfl
/-- a branch -/
def br {α : Type} (k : Bool) (a b : Unit → α) [Frz a] [Frz b] : α := if k then a () else b ()
@[simp] theorem br_t {α : Type} (a b : Unit → α) [Frz a] [Frz b] : br true a b = a () := rfl
@[simp] theorem br_f {α : Type} (a b : Unit → α) [Frz a] [Frz b] : br false a b = b () := rfl
/-- a partial step -/
def optB {α β : Type} (x : Option α) (f : α → R β) [Frz f] : R β := match x with
  | some a => f a
  | none => .bot
@[simp] theorem optB_some {α β : Type} (a : α) (f : α → R β) [Frz f] : optB (some a) f = f a := rfl
def optX {α : Type} (x : Option α) (f : α → X) [Frz f] : X := match x with
  | some a => f a
  | none => .bot
@[simp] theorem optX_some {α : Type} (a : α) (f : α → X) [Frz f] : optX (some a) f = f a := rfl
/-- a Bool's value, a number's -/
def asB {β : Type} (v : Val) (f : Bool → R β) [Frz f] : R β := match v with
  | .p (.bool k) => f k
  | _ => .bot
@[simp] theorem asB_b {β : Type} (k : Bool) (f : Bool → R β) [Frz f] : asB (.p (.bool k)) f = f k := rfl
def asI {β : Type} (v : Val) (f : Int → R β) [Frz f] : R β := match v with
  | .p (.int k) => f k
  | _ => .bot
@[simp] theorem asI_i {β : Type} (k : Int) (f : Int → R β) [Frz f] : asI (.p (.int k)) f = f k := rfl
section
variable (C : Calls) (env : Env) (s : S)
@[simp] theorem ev_lit (v : PV) : ev C (.lit v) env s = .ok (.p v) s := by simp only [ev, R.bd, R.th]
@[simp] theorem ev_var (i : Nat) : ev C (.var i) env s = optB (env[i]?) fun o => optB o fun v => .ok v s := by
  simp only [ev, R.bd, R.th]; rcases env[i]? with _ | _ | _ <;> rfl
@[simp] theorem ev_tup (as : Exs) : ev C (.tup as) env s = (evs C as env s).bd fun vs s => if vs.length ≤ LIM then .ok (mkTup vs) s else .bot := by simp only [ev, R.bd, R.th]
@[simp] theorem ev_bin (o : BOp) (a b : Ex) : ev C (.bin o a b) env s = (ev C a env s).bd fun x s => (ev C b env s).bd fun y s => binop o x y s := by simp only [ev, R.bd, R.th]
@[simp] theorem ev_neg (a : Ex) : ev C (.neg a) env s = (ev C a env s).bd fun x s => asI x fun i => .ok (.p (.int (-i))) s := by
  simp only [ev, R.bd, R.th]; congr 1
@[simp] theorem evq_cmp (o : COp) (a b : Ex) : ev C (.cmp o a b) env s = (ev C a env s).bd fun x s => (ev C b env s).bd fun y s => optB (cmpV o x y s) fun k => .ok (.p (.bool k)) s := by
  simp only [ev, R.bd, R.th]; congr 1; funext x s; congr 1; funext y s; cases cmpV o x y s <;> rfl
-- evq_chain
@[simp] theorem evq_chain (o o' : COp) (a b c : Ex) : ev C (.chain o o' a b c) env s = (ev C a env s).bd fun x s => (ev C b env s).bd fun y s => optB (cmpV o x y s) fun k => br k (fun _ => (ev C c env s).bd fun z s => optB (cmpV o' y z s) fun k => .ok (.p (.bool k)) s) fun _ => .ok (.p (.bool false)) s := by
  simp only [ev, R.bd, R.th]; congr 1; funext x s; congr 1; funext y s; rcases cmpV o x y s with _ | _ | _
  · rfl
  · rfl
  · show _ = (ev C c env s).bind _; dsimp only; congr 1; funext z s; cases cmpV o' y z s <;> rfl
@[simp] theorem ev_and (a b : Ex) : ev C (.and a b) env s = (ev C a env s).bd fun x s => asB x fun k => br k (fun _ => ev C b env s) fun _ => .ok (.p (.bool false)) s := by
  simp only [ev, R.bd, R.th]; congr 1
@[simp] theorem ev_or (a b : Ex) : ev C (.or a b) env s = (ev C a env s).bd fun x s => asB x fun k => br k (fun _ => .ok (.p (.bool true)) s) fun _ => ev C b env s := by
  simp only [ev, R.bd, R.th]; congr 1
@[simp] theorem ev_not (a : Ex) : ev C (.not a) env s = (ev C a env s).bd fun x s => asB x fun k => .ok (.p (.bool (!k))) s := by
  simp only [ev, R.bd, R.th]; congr 1
@[simp] theorem ev_ite (c a b : Ex) : ev C (.ite c a b) env s = (evT C c env s).bd fun k s => br k (fun _ => ev C a env s) fun _ => ev C b env s := by simp only [ev, R.bd, R.th]; rfl
@[simp] theorem ev_idx (a i : Ex) : ev C (.idx a i) env s = (ev C a env s).bd fun x s => (ev C i env s).bd fun y s => optB (idxV x y s) fun v => .ok v s := by
  simp only [ev, R.bd, R.th]; congr 1
@[simp] theorem ev_slc (a : Ex) (lo hi : Ox) : ev C (.slc a lo hi) env s = (ev C a env s).bd fun x s => (evO C lo env s).bd fun l s => (evO C hi env s).bd fun u s => slcV x l u s := by simp only [ev, R.bd, R.th]
@[simp] theorem ev_rev (a : Ex) : ev C (.rev a) env s = (ev C a env s).bd fun x s => revV x s := by simp only [ev, R.bd, R.th]
@[simp] theorem ev_call (f : Nat) (as : Exs) : ev C (.call f as) env s = (evs C as env s).bd fun vs s => C.fn f vs s := by simp only [ev, R.bd, R.th]
@[simp] theorem ev_mk (f : Nat) (as : Exs) : ev C (.mk f as) env s = (evs C as env s).bd fun vs s => C.ini f vs s := by simp only [ev, R.bd, R.th]
@[simp] theorem ev_meth (c f : Nat) (o : Ex) (as : Exs) : ev C (.meth c f o as) env s = (ev C o env s).bd fun x s => br (isOf c x s) (fun _ => (evs C as env s).bd fun vs s => C.fn f (x :: vs) s) fun _ => .bot := by
  simp only [ev, R.bd, R.th]; rfl
@[simp] theorem ev_fld (o : Ex) (f : Nat) : ev C (.fld o f) env s = (ev C o env s).bd fun x s => optB (fldV x f s) fun v => .ok v s := by
  simp only [ev, R.bd, R.th]; congr 1
@[simp] theorem ev_bi (b : Bi) (as : Exs) : ev C (.bi b as) env s = (evs C as env s).bd fun vs s => biV b vs s := by simp only [ev, R.bd, R.th]
@[simp] theorem ev_isi (e : Ex) (t : List Ty) : ev C (.isi e t) env s = (ev C e env s).bd fun x s => optB (isiAny x s t) fun k => .ok (.p (.bool k)) s := by
  simp only [ev, R.bd, R.th]; congr 1; funext x s; cases isiAny x s t <;> rfl
@[simp] theorem ev_bm (b : Bm) (o : Ex) (as : Exs) : ev C (.bm b o as) env s = (ev C o env s).bd fun x s => br (decide (tag x s = bmTag b)) (fun _ => (evs C as env s).bd fun vs s => bmV b x vs s) fun _ => .bot := by
  simp only [ev, R.bd, R.th]; congr 1; funext x s; unfold br; simp
@[simp] theorem ev_lst (l : Le) : ev C (.lst l) env s = (evL C l env s).bd fun vs s => new (.list vs) s := by simp only [ev, R.bd, R.th]
@[simp] theorem ev_lb (b : Lb) (l : Le) : ev C (.lb b l) env s = (evL C l env s).bd fun vs s => lbV b vs s := by simp only [ev, R.bd, R.th]
@[simp] theorem ev_joinL (o : Ex) (l : Le) : ev C (.joinL o l) env s = (ev C o env s).bd fun x s => br (decide (tag x s = .str)) (fun _ => (evL C l env s).bd fun vs s => joinV x vs s) fun _ => .bot := by
  simp only [ev, R.bd, R.th]; congr 1; funext x s; unfold br; simp
@[simp] theorem ev_dnew : ev C .dnew env s = new (.dict []) s := by simp only [ev, R.bd, R.th]
@[simp] theorem ev_hand (a : Ex) : ev C (.hand a) env s = (ev C a env s).bd fun x s => handV x s := by simp only [ev, R.bd, R.th]
@[simp] theorem ev_draw (h m : Ex) : ev C (.draw h m) env s = (ev C h env s).bd fun x s => (ev C m env s).bd fun y s => drawV x y s := by simp only [ev, R.bd, R.th]
@[simp] theorem evO_no : evO C .no env s = .ok none s := by simp only [evO, R.bd, R.th]
@[simp] theorem evO_some (e : Ex) : evO C (.some e) env s = (ev C e env s).bd fun x s => asI x fun i => .ok (some i) s := by
  simp only [evO, R.bd, R.th]; congr 1
@[simp] theorem evs_nil : evs C .nil env s = .ok [] s := by simp only [evs, R.bd, R.th]
@[simp] theorem evs_cons (e : Ex) (r : Exs) : evs C (.cons e r) env s = (ev C e env s).bd fun v s => (evs C r env s).bd fun vs s => .ok (v :: vs) s := by simp only [evs, R.bd, R.th]
@[simp] theorem evC_no : evC C .no env s = .ok true s := by simp only [evC, R.bd, R.th]
@[simp] theorem evC_some (e : Ex) : evC C (.some e) env s = evT C e env s := by simp only [evC, R.bd, R.th]
@[simp] theorem evT_and (a b : Ex) : evT C (.and a b) env s = (evT C a env s).bd fun k s => br k (fun _ => evT C b env s) fun _ => .ok false s := by simp only [evT, R.bd, R.th]; rfl
@[simp] theorem evT_or (a b : Ex) : evT C (.or a b) env s = (evT C a env s).bd fun k s => br k (fun _ => .ok true s) fun _ => evT C b env s := by simp only [evT, R.bd, R.th]; rfl
@[simp] theorem evT_not (a : Ex) : evT C (.not a) env s = (evT C a env s).bd fun k s => .ok (!k) s := by simp only [evT, R.bd, R.th]
@[simp] theorem evT_cmp (o : COp) (a b : Ex) : evT C (.cmp o a b) env s = (ev C a env s).bd fun x s => (ev C b env s).bd fun y s => optB (cmpV o x y s) fun k => .ok k s := by simp only [evT, R.bd, R.th]; congr 1
@[simp] theorem evT_chain (o o' : COp) (a b c : Ex) : evT C (.chain o o' a b c) env s = (ev C a env s).bd fun x s => (ev C b env s).bd fun y s => optB (cmpV o x y s) fun k => br k (fun _ => (ev C c env s).bd fun z s => optB (cmpV o' y z s) fun k => .ok k s) fun _ => .ok false s := by
  simp only [evT, R.bd, R.th]; congr 1; funext x s; congr 1; funext y s; rcases cmpV o x y s with _ | _ | _ <;> rfl
@[simp] theorem evT_lit (v : PV) : evT C (.lit v) env s = .ok v.truth s := by simp only [evT, R.bd, R.th]
@[simp] theorem evT_var (i : Nat) : evT C (.var i) env s = optB (env[i]?) fun o => optB o fun v => optB (truth v s) fun k => .ok k s := by
  simp only [evT, R.bd, R.th]; rcases env[i]? with _ | _ | _ <;> rfl
@[simp] theorem evT_call (f : Nat) (as : Exs) : evT C (.call f as) env s = (evs C as env s).bd fun vs s => (C.fn f vs s).bd fun v s => optB (truth v s) fun k => .ok k s := by simp only [evT, R.bd, R.th]; congr 1
@[simp] theorem evT_meth (c f : Nat) (o : Ex) (as : Exs) : evT C (.meth c f o as) env s = (ev C o env s).bd fun x s => br (isOf c x s) (fun _ => (evs C as env s).bd fun vs s => (C.fn f (x :: vs) s).bd fun v s => optB (truth v s) fun k => .ok k s) fun _ => .bot := by
  simp only [evT, R.bd, R.th]; rfl
@[simp] theorem evT_isi (e : Ex) (t : List Ty) : evT C (.isi e t) env s = (ev C e env s).bd fun x s => optB (isiAny x s t) fun k => .ok k s := by simp only [evT, R.bd, R.th]; congr 1
@[simp] theorem evL_disp (as : Exs) : evL C (.disp as) env s = (evs C as env s).bd fun vs s => if vs.length ≤ LIM then .ok vs s else .bot := by simp only [evL, R.bd, R.th]
@[simp] theorem exs_nil : exs C .nil env s = .next env s := by simp only [exs, R.bd, R.th]
@[simp] theorem exs_cons (t : St) (r : Bk) : exs C (.cons t r) env s = (ex C t env s).seq fun e s => exs C r e s := by simp only [exs, R.bd, R.th]; rfl
@[simp] theorem x_ex (e : Ex) : ex C (.ex e) env s = (ev C e env s).th fun _ s => .next env s := by simp only [ex, R.bd, R.th]
@[simp] theorem x_asg (t : Tg) (e : Ex) : ex C (.asg t e) env s = (ev C e env s).th fun v s => optX (t.bind v env) fun env => .next env s := by
  simp only [ex, R.bd, R.th]; congr 1; funext v s; cases t.bind v env <;> rfl
@[simp] theorem x_asgS (o i e : Ex) : ex C (.asgS o i e) env s = (ev C e env s).th fun v s => (ev C o env s).th fun x s => (ev C i env s).th fun y s => optX (setV x y v s) fun s => .next env s := by
  simp only [ex, R.bd, R.th]; congr 1; funext v s; congr 1; funext x s; congr 1; funext y s; cases setV x y v s <;> rfl
@[simp] theorem x_asgF (o : Ex) (f : Nat) (e : Ex) : ex C (.asgF o f e) env s = (ev C e env s).th fun v s => (ev C o env s).th fun x s => optX (fsetV x f v s) fun s => .next env s := by
  simp only [ex, R.bd, R.th]; congr 1; funext v s; congr 1; funext x s; cases fsetV x f v s <;> rfl
@[simp] theorem x_par (i j : Nat) (a b : Ex) : ex C (.par i j a b) env s = (ev C a env s).th fun x s => (ev C b env s).th fun y s => if i < env.length ∧ j < env.length then .next ((env.set i (some x)).set j (some y)) s else .bot := by simp only [ex, R.bd, R.th]
@[simp] theorem x_aug (i : Nat) (o : BOp) (e : Ex) : ex C (.aug i o e) env s = optX (env[i]?) fun q => optX q fun x => (ev C e env s).th fun y s => (augop o x y s).th fun z s => .next (env.set i (some z)) s := by
  simp only [ex, R.bd, R.th]; rcases env[i]? with _ | _ | _ <;> rfl
@[simp] theorem x_augF (o : Ex) (f : Nat) (p : BOp) (e : Ex) : ex C (.augF o f p e) env s = (ev C o env s).th fun x s0 => optX (fldV x f s0) fun y => (ev C e env s0).th fun z s => (augop p y z s).th fun v s => br (decide (clsOf x s0 = clsOf x s)) (fun _ => optX (fsetV x f v s) fun s' => .next env s') fun _ => .bot := by
  simp only [ex, R.bd, R.th]; congr 1; funext x s0; cases fldV x f s0 with
  | none => rfl
  | some y => 
    simp only [opt, R.then_ok, optX]; congr 1; funext z s; congr 1; funext v s; unfold br; simp
    split
    · cases fsetV x f v s <;> rfl
    · rfl
@[simp] theorem x_ret (e : Ex) : ex C (.ret e) env s = (ev C e env s).th fun v s => .ret v s := by simp only [ex, R.bd, R.th]
@[simp] theorem x_retN : ex C .retN env s = .ret (.p .non) s := by simp only [ex, R.bd, R.th]
@[simp] theorem x_ite (c : Ex) (a b : Bk) : ex C (.ite c a b) env s = (evT C c env s).th fun k s => br k (fun _ => exs C a env s) fun _ => exs C b env s := by simp only [ex, R.bd, R.th]; rfl
theorem x_whl (c : Ex) (b : Bk) : ex C (.whl c b) env s = C.lp (fun env s => evT C c env s) (fun env s => exs C b env s) env s := by simp only [ex]
theorem x_for (t : Tg) (i : It) (b : Bk) : ex C (.for_ t i b) env s = (evI C i env s).then fun q s => forL (fun s => still s q.2) (fun v env => t.bind v env) (fun env s => exs C b env s) q.1 env s := by simp only [ex]
@[simp] theorem x_brk : ex C .brk env s = .brk env s := by simp only [ex, R.bd, R.th]
@[simp] theorem x_cnt : ex C .cnt env s = .cnt env s := by simp only [ex, R.bd, R.th]
@[simp] theorem x_pass : ex C .pass env s = .next env s := by simp only [ex, R.bd, R.th]
end
@[simp] theorem LIM_is : LIM = 16777216 := rfl
/-! ### values -/
@[simp] theorem mk2 (a b : PV) : mkTup [.p a, .p b] = .p (.tup [a, b]) := rfl
@[simp] theorem mk1 (a : PV) : mkTup [.p a] = .p (.tup [a]) := rfl
@[simp] theorem bind1 (i : Nat) (v : Val) (env : Env) : (Tg.var i).bind v env = some (env.set i (some v)) := rfl
@[simp] theorem bindT (ts : Tgs) (xs : List PV) (env : Env) : (Tg.tup ts).bind (.p (.tup xs)) env = ts.bind (xs.map Val.p) env := rfl
@[simp] theorem bindTn (env : Env) : Tgs.nil.bind [] env = some env := rfl
@[simp] theorem bindTc (t : Tg) (r : Tgs) (v : Val) (vs : List Val) (env : Env) : (Tgs.cons t r).bind (v :: vs) env = (t.bind v env).bind fun e => r.bind vs e := rfl
@[simp] theorem tag_str (l : List Nat) (s : S) : tag (.p (.str l)) s = .str := rfl
@[simp] theorem tag_r (a : Nat) (s : S) : tag (.r a) s = match s.h[a]? with
    | some (.list _) => .list
    | some (.dict _) => .dict
    | _ => .other := rfl
section
variable (C : Calls) (env : Env) (s : S)
@[simp] theorem evI_ex (e : Ex) : evI C (.ex e) env s = (ev C e env s).bd fun x s => optB (itemsOf x s) fun xs => optB (guardOf x s) fun g => .ok (xs, g) s := by
  simp only [evI, R.bd, R.th]; congr 1; funext x s; cases itemsOf x s <;> cases guardOf x s <;> rfl
@[simp] theorem evI_le (l : Le) : evI C (.le l) env s = (evL C l env s).bd fun vs s => .ok (vs, []) s := by simp only [evI, R.bd, R.th]
theorem evI_r1 (a : Ex) : evI C (.rng1 a) env s = (ev C a env s).bd fun x s => optB (range1 x) fun xs => .ok (xs, []) s := by
  simp only [evI, R.bd, R.th]; congr 1; funext x s; cases range1 x <;> rfl
theorem evI_r3 (a b c : Ex) : evI C (.rng3 a b c) env s = (ev C a env s).bd fun x s => (ev C b env s).bd fun y s => (ev C c env s).bd fun z s => optB (range3 x y z) fun xs => .ok (xs, []) s := by
  simp only [evI, R.bd, R.th]; congr 1; funext x s; congr 1; funext y s; congr 1; funext z s; cases range3 x y z <;> rfl
theorem evL_comp (t : Tg) (src : It) (c : Ox) (e : Ex) : evL C (.comp t src c e) env s = (evI C src env s).bind fun q s => if q.1.length ≤ LIM then
    turns (fun s => still s q.2) (fun v => t.bind v (wipeE env t.slots)) (fun env s => evC C c env s) (fun env s => ev C e env s) q.1 s else .bot := by simp only [evL]
end
/-- a comprehension that changes nothing -/
theorem turns_map {g : S → Bool} {put : Val → Option Env} {c : Env → S → R Bool} {e : Env → S → R Val} {s : S} (f : Val → Val) (p : Val → Bool) (hg : g s = true) : ∀ {xs : List Val}, (∀ x ∈ xs, ∃ env, put x = some env ∧ c env s = .ok (p x) s ∧ (p x = true → e env s = .ok (f x) s)) → turns g put c e xs s = .ok ((xs.filter p).map f) s
  | [], _ => by simp [turns, hg]
  | x :: xs, h => by
    have ih := turns_map f p hg (xs := xs) fun y hy => h y (List.mem_cons_of_mem _ hy)
    obtain ⟨env, h1, h2, h3⟩ := h x (List.mem_cons_self ..)
    unfold turns
    simp only [hg, if_true, h1, h2, R.quiet_ok, R.bind_ok]
    cases hp : p x with
    | true => simp [h3 hp, ih, List.filter_cons, hp]
    | false => simp [ih, List.filter_cons, hp]
/-- the same, all taken -/
theorem turns_all {g : S → Bool} {put : Val → Option Env} {c : Env → S → R Bool} {e : Env → S → R Val} {s : S} (f : Val → Val) (hg : g s = true) {xs : List Val} (h : ∀ x ∈ xs, ∃ env, put x = some env ∧ c env s = .ok true s ∧ e env s = .ok (f x) s) : turns g put c e xs s = .ok (xs.map f) s := by
  have := turns_map (g := g) (put := put) (c := c) (e := e) (s := s) f (fun _ => true) hg (xs := xs) fun x hx => let ⟨env, h1, h2, h3⟩ := h x hx; ⟨env, h1, h2, fun _ => h3⟩
  rw [this, List.filter_eq_self.mpr fun _ _ => rfl]
theorem callP1 {P : Prog} {n f : Nat} {F : Fn} {as : List Val} {s : S} {a : Nat} {o : Obj} {v : PV} {o' : Obj} {h : List Obj} {d : Option Hand} {sc : List Int} (hn : 2 ≤ n) (ho : s.h[a]? = some o) (hf : P.fns[f]? = some F) (hraw : F.raw = false) (hr : refs as = [a]) (ha : as.all flatA = true) (hl : as.length = F.ps) (hp : o.pure = true) (hp' : o'.pure = true)
    (hb : fin (exs (CN P (n - 2)) F.body ((renum 0 as).map some ++ List.replicate (F.ns - F.ps) none) ⟨[o], s.d, s.sc⟩) = .ok (.p v) ⟨o' :: h, d, sc⟩) : FN P n f as s = .ok (.p v) ⟨s.h.set a o', d, s.sc⟩ := by
  obtain ⟨m, rfl⟩ : ∃ m, n = m + 2 := ⟨n - 2, by omega⟩
  exact call1 hf hraw hr ha hl ho hp hb hp'
theorem set_same {α : Type} {l : List α} {a : Nat} {o : α} (h : l[a]? = some o) : l.set a o = l := by
  apply List.ext_getElem?
  intro i
  rw [List.getElem?_set]
  split
  · rename_i e; subst e
    split
    · exact h.symm
    · rename_i hlt; rw [List.getElem?_eq_none (by omega)] at h; cases h
  · rfl
theorem callQ1 {P : Prog} {n f : Nat} {F : Fn} {as : List Val} {s : S} {a : Nat} {o : Obj} {v : PV} {h : List Obj} {sc : List Int} (hn : 2 ≤ n) (ho : s.h[a]? = some o) (hf : P.fns[f]? = some F) (hraw : F.raw = false) (hr : refs as = [a]) (ha : as.all flatA = true) (hl : as.length = F.ps) (hp : o.pure = true)
    (hb : fin (exs (CN P (n - 2)) F.body ((renum 0 as).map some ++ List.replicate (F.ns - F.ps) none) ⟨[o], s.d, s.sc⟩) = .ok (.p v) ⟨o :: h, s.d, sc⟩) : FN P n f as s = .ok (.p v) s := by
  have := callP1 hn ho hf hraw hr ha hl hp hp hb
  rw [this, set_same ho]
mutual
theorem PV.beqR : ∀ v : PV, v.beq v = true
  | .non => rfl
  | .bool b => by simp [PV.beq]
  | .int i => by simp [PV.beq]
  | .str s => by simp [PV.beq]
  | .tup xs => by simp [PV.beq, PV.beqsR xs]
theorem PV.beqsR : ∀ v : List PV, PV.beqs v v = true
  | [] => rfl
  | x :: xs => by simp [PV.beqs, PV.beqR x, PV.beqsR xs]
end
mutual
theorem Val.beqR : ∀ v : Val, v.beq v = true
  | .p v => by simp [Val.beq, PV.beqR v]
  | .r a => by simp [Val.beq]
  | .t xs => by simp [Val.beq, Val.beqsR xs]
  | .hd => rfl
  | .sc => rfl
theorem Val.beqsR : ∀ v : List Val, Val.beqs v v = true
  | [] => rfl
  | x :: xs => by simp [Val.beqs, Val.beqR x, Val.beqsR xs]
end
theorem still_at {s : S} {a : Nat} {xs : List Val} (h : s.h[a]? = some (.list xs)) : still s [(a, xs)] = true := by
  simp [still, h, Val.beqsR]
theorem bnd {m : Nat} (h : m ≤ 1000000) : m < 16777216 ∧ m + 1 < 16777216 ∧ m + 1 + 1 < 16777216 ∧ m + 2 < 16777216 ∧ m + 3 < 16777216 ∧ m + 4 < 16777216 ∧ m < 16777215 ∧ m < 16777214 ∧ m < 16777213 ∧ m ≤ 16777216 ∧ m ≤ 16777215 ∧ m ≤ 16777214 ∧ m ≤ 16777213 ∧ m ≤ 16777212 ∧ m ≤ 16777211 ∧ m ≤ 16777210 ∧ m + 1 ≤ 16777216 ∧ m + 2 ≤ 16777216 := by omega
/-! ### loops, without a look into their bodies -/
def forS (C : Calls) (g : List (Nat × List Val)) (t : Tg) (b : Bk) (xs : List Val) (env : Env) (s : S) : X := forL (fun s => still s g) (fun v env => t.bind v env) (fun env s => exs C b env s) xs env s
def forT : St → Tg
  | .for_ t _ _ => t
  | _ => .var 0
def forI : St → It
  | .for_ _ i _ => i
  | _ => .ex (.lit .non)
def forB : St → Bk
  | .for_ _ _ b => b
  | _ => .nil
def whlC : St → Ex
  | .whl c _ => c
  | _ => .lit .non
def whlB : St → Bk
  | .whl _ b => b
  | _ => .nil
theorem for_start {C : Calls} {W : St} {env : Env} {s s1 : S} {xs : List Val} {g : List (Nat × List Val)} {x : X} (hw : W = .for_ (forT W) (forI W) (forB W)) (h : evI C (forI W) env s = .ok (xs, g) s1) (h2 : forS C g (forT W) (forB W) xs env s1 = x) : ex C W env s = x := by
  rw [hw, x_for, h]
  exact h2
theorem for_nil {C : Calls} {g : List (Nat × List Val)} {t : Tg} {b : Bk} {env : Env} {s : S} (h : still s g = true) : forS C g t b [] env s = .next env s := by
  unfold forS forL; rw [if_pos h]
theorem for_cons {C : Calls} {g : List (Nat × List Val)} {t : Tg} {b : Bk} {v : Val} {xs : List Val} {env e1 e2 : Env} {s s2 : S} (h : still s g = true) (h1 : t.bind v env = some e1) (h2 : exs C b e1 s = .next e2 s2) : forS C g t b (v :: xs) env s = forS C g t b xs e2 s2 := by
  unfold forS
  rw [forL, if_pos h, h1]
  dsimp only
  rw [h2]
theorem for_cnt {C : Calls} {g : List (Nat × List Val)} {t : Tg} {b : Bk} {v : Val} {xs : List Val} {env e1 e2 : Env} {s s2 : S} (h : still s g = true) (h1 : t.bind v env = some e1) (h2 : exs C b e1 s = .cnt e2 s2) : forS C g t b (v :: xs) env s = forS C g t b xs e2 s2 := by
  unfold forS
  rw [forL, if_pos h, h1]
  dsimp only
  rw [h2]
theorem for_ret {C : Calls} {g : List (Nat × List Val)} {t : Tg} {b : Bk} {v w : Val} {xs : List Val} {env e1 : Env} {s s2 : S} (h : still s g = true) (h1 : t.bind v env = some e1) (h2 : exs C b e1 s = .ret w s2) : forS C g t b (v :: xs) env s = .ret w s2 := by
  unfold forS
  rw [forL, if_pos h, h1]
  dsimp only
  rw [h2]
theorem whl_done {P : Prog} {n : Nat} {W : St} {env : Env} {s s1 : S} (hw : W = .whl (whlC W) (whlB W)) (h : evT (CN P n) (whlC W) env s = .ok false s1) : ex (CN P n) W env s = .next env s1 := by
  rw [hw, x_whl]; exact loop_done h
theorem whl_next {P : Prog} {n : Nat} {W : St} {env e2 : Env} {s s1 s2 : S} (hw : W = .whl (whlC W) (whlB W)) (h : evT (CN P n) (whlC W) env s = .ok true s1) (h2 : exs (CN P n) (whlB W) env s1 = .next e2 s2) : ex (CN P n) W env s = ex (CN P n) W e2 s2 := by
  rw [hw, x_whl, x_whl]; exact loop_next h h2
theorem whl_ret {P : Prog} {n : Nat} {W : St} {env : Env} {s s1 s2 : S} {v : Val} (hw : W = .whl (whlC W) (whlB W)) (h : evT (CN P n) (whlC W) env s = .ok true s1) (h2 : exs (CN P n) (whlB W) env s1 = .ret v s2) : ex (CN P n) W env s = .ret v s2 := by
  rw [hw, x_whl]; exact loop_ret h h2
section
variable (C : Calls) (env : Env) (s : S)
@[simp] theorem evT_lb (b : Lb) (l : Le) : evT C (.lb b l) env s = (evL C l env s).bd fun vs s => (lbV b vs s).bd fun v s => optB (truth v s) fun k => .ok k s := by simp only [evT, R.bd, R.th]; congr 1
@[simp] theorem evT_bi (b : Bi) (as : Exs) : evT C (.bi b as) env s = (evs C as env s).bd fun vs s => (biV b vs s).bd fun v s => optB (truth v s) fun k => .ok k s := by simp only [evT, R.bd, R.th]; congr 1
end
def cT : Le → Tg
  | .comp t _ _ _ => t
  | _ => .var 0
def cI : Le → It
  | .comp _ i _ _ => i
  | _ => .ex (.lit .non)
def cC : Le → Ox
  | .comp _ _ c _ => c
  | _ => .no
def cE : Le → Ex
  | .comp _ _ _ e => e
  | _ => .lit .non
theorem comp_start {C : Calls} {L : Le} {env : Env} {s s1 : S} {xs : List Val} {g : List (Nat × List Val)} (f : Val → Val) (p : Val → Bool) (hw : L = .comp (cT L) (cI L) (cC L) (cE L)) (h : evI C (cI L) env s = .ok (xs, g) s1) (hl : xs.length ≤ 16777216) (hg : still s1 g = true)
    (ht : ∀ x ∈ xs, ∃ e2, (cT L).bind x (wipeE env (cT L).slots) = some e2 ∧ evC C (cC L) e2 s1 = .ok (p x) s1 ∧ (p x = true → ev C (cE L) e2 s1 = .ok (f x) s1)) : evL C L env s = .ok ((xs.filter p).map f) s1 := by
  rw [hw, evL_comp, h]
  show (if xs.length ≤ LIM then _ else _) = _
  rw [if_pos hl]
  exact turns_map f p hg ht
theorem comp_all {C : Calls} {L : Le} {env : Env} {s s1 : S} {xs : List Val} {g : List (Nat × List Val)} (f : Val → Val) (hw : L = .comp (cT L) (cI L) (cC L) (cE L)) (h : evI C (cI L) env s = .ok (xs, g) s1) (hl : xs.length ≤ 16777216) (hg : still s1 g = true)
    (ht : ∀ x ∈ xs, ∃ e2, (cT L).bind x (wipeE env (cT L).slots) = some e2 ∧ evC C (cC L) e2 s1 = .ok true s1 ∧ ev C (cE L) e2 s1 = .ok (f x) s1) : evL C L env s = .ok (xs.map f) s1 := by
  have := comp_start f (fun _ => true) hw h hl hg fun x hx => let ⟨e, h1, h2, h3⟩ := ht x hx; ⟨e, h1, h2, fun _ => h3⟩
  rw [this, List.filter_eq_self.mpr fun _ _ => rfl]
theorem allB_const {α : Type} (b : Bool) : ∀ xs : List α, allB (xs.map fun _ => Val.p (.bool b)) = some (xs.map fun _ => b)
  | [] => rfl
  | x :: xs => by simp only [List.map_cons, allB, allB_const b xs]; rfl
theorem all_const {α : Type} : ∀ xs : List α, (xs.map fun _ => true).all id = true
  | [] => rfl
  | x :: xs => by simp
theorem lb_all {α : Type} (xs : List α) (s : S) : lbV .all (xs.map fun _ => Val.p (.bool true)) s = .ok (.p (.bool true)) s := by
  unfold lbV; rw [allB_const]; simp
/-! ### ranges (R62 is never to be computed with) -/
theorem r62_nat {m : Nat} (h : m ≤ 1000000) : R62 (m : Int) = true := by unfold R62; simp; omega
theorem r62_neg : R62 (-1) = true := by decide
theorem r62_pred {m : Nat} (h : m ≤ 1000000) : R62 ((m : Int) - 1) = true := by unfold R62; simp; omega
theorem range1_nat {m : Nat} (h : m ≤ 1000000) : range1 (.p (.int (m : Int))) = some (rangeL 0 1 m) := by
  show (if R62 (m : Int) = true then some (rangeL 0 1 (m : Int).toNat) else none) = some (rangeL 0 1 m)
  rw [if_pos (r62_nat h), Int.toNat_natCast]
theorem evI_rng1 {C : Calls} {a : Ex} {env : Env} {s s1 : S} {m : Nat} (h : ev C a env s = .ok (.p (.int (m : Int))) s1) (hm : m ≤ 1000000) : evI C (.rng1 a) env s = .ok (rangeL 0 1 m, []) s1 := by
  rw [evI_r1, h, R.bd_ok, range1_nat hm, optB_some]
/-- the places below m, from above -/
def dsc (o m : Nat) : List Val := ((List.range' o m).map fun i : Nat => Val.p (.int i)).reverse
theorem dsc_succ (o m : Nat) : dsc o (m + 1) = .p (.int ((o + m : Nat) : Int)) :: dsc o m := by
  unfold dsc
  rw [List.range'_1_concat]
  simp
theorem rangeL_dsc : ∀ m : Nat, rangeL ((m : Int) - 1) (-1) m = dsc 0 m
  | 0 => rfl
  | m + 1 => by
    rw [dsc_succ, ← rangeL_dsc m]
    show Val.p (.int (((m + 1 : Nat) : Int) - 1)) :: rangeL (((m + 1 : Nat) : Int) - 1 + -1) (-1) m = _
    rw [show ((m + 1 : Nat) : Int) - 1 = ((0 + m : Nat) : Int) by omega, show ((0 + m : Nat) : Int) + -1 = (m : Int) - 1 by omega]
theorem range3_nat {m : Nat} (h : m ≤ 1000000) : range3 (.p (.int ((m : Int) - 1))) (.p (.int (-1))) (.p (.int (-1))) = some (dsc 0 m) := by
  show (if (R62 ((m : Int) - 1) && R62 (-1)) = true then (if (-1 : Int) = -1 then some (rangeL ((m : Int) - 1) (-1) ((m : Int) - 1 - -1).toNat) else none) else none) = some (dsc 0 m)
  rw [if_pos (by rw [r62_pred h, r62_neg]; rfl), if_pos rfl, show ((m : Int) - 1 - -1).toNat = m by omega, rangeL_dsc]
theorem evI_rng3 {C : Calls} {a b c : Ex} {env : Env} {s s1 : S} {m : Nat} (h : ev C a env s = .ok (.p (.int ((m : Int) - 1))) s1) (hb : ev C b env s1 = .ok (.p (.int (-1))) s1) (hc : ev C c env s1 = .ok (.p (.int (-1))) s1) (hm : m ≤ 1000000) : evI C (.rng3 a b c) env s = .ok (dsc 0 m, []) s1 := by
  rw [evI_r3, h, R.bd_ok, hb, R.bd_ok, hc, R.bd_ok, range3_nat hm, optB_some]
theorem dsc_app (o m k : Nat) : dsc o (m + k) = dsc (o + m) k ++ dsc o m := by
  unfold dsc
  rw [← List.range'_append_1, List.map_append, List.reverse_append]
theorem atI_mid {α : Type} (A B : List α) (x : α) : atI (A ++ x :: B) (A.length : Int) = some x := by
  have h1 : (A.length : Int) < ((A ++ x :: B).length : Int) := by simp; omega
  unfold atI ixN
  rw [if_pos (by omega), if_pos h1]
  simp
theorem atI_nth {α : Type} {xs : List α} {k : Nat} {x : α} (h : xs[k]? = some x) : atI xs (k : Int) = some x := by
  have h0 := (List.getElem?_eq_some_iff.mp h).1
  have h1 : (k : Int) < (xs.length : Int) := by omega
  unfold atI ixN
  rw [if_pos (by omega), if_pos h1]
  simpa using h
theorem ixN_nat {n k : Nat} (h : k < n) : ixN n (k : Int) = some k := by
  have h1 : (k : Int) < (n : Int) := by omega
  unfold ixN
  rw [if_pos (by omega), if_pos h1, Int.toNat_natCast]
theorem set_mid {α : Type} (A B : List α) (x y : α) : (A ++ x :: B).set A.length y = A ++ y :: B := by
  rw [List.set_append]; simp
end U
/-! Pl1: kinds. -/
namespace U
inductive Kd where
  | c (n : Fin 26) | f (a b : Kd)
  deriving DecidableEq
def Kd.v : Kd → PV
  | .c n => .int n.val
  | .f a b => .tup [a.v, b.v]
def Kd.sz : Kd → Nat
  | .c _ => 1
  | .f a b => a.sz + b.sz + 1
def Kd.lets : Kd → Nat
  | .c _ => 1
  | .f a b => a.lets + b.lets
def Kd.dep : Kd → Nat
  | .c _ => 0
  | .f a b => max a.dep b.dep + 1
def Kd.isF : Kd → Bool
  | .c _ => false
  | .f _ _ => true
theorem s_is_integer {n : Nat} {s : S} {v : PV} (hn : 2 ≤ n) : FN prog n F_is_integer [.p v] s = .ok (.p (.bool (match v with | .int _ => true | _ => false))) s := by
  refine callQ (h := []) (sc := s.sc) hn rfl rfl rfl rfl rfl ?_
  cases v <;> simp -dsimp [m_is_integer, isiAny, isiV, tyP]
theorem s_is_within {n : Nat} {s : S} {v : PV} {a b : Int} (hn : 3 ≤ n) : FN prog n F_is_within [.p v, .p (.int a), .p (.int b)] s = .ok (.p (.bool (match v with | .int i => decide (a ≤ i) && decide (i ≤ b) | _ => false))) s := by
  refine callQ (h := []) (sc := s.sc) (by omega) rfl rfl rfl rfl rfl ?_
  have h0 := fun s => s_is_integer (n := n - 2 + 1) (s := s) (v := v) (by omega)
  cases v with
  | int i => by_cases h : a ≤ i <;> simp -dsimp [m_is_within, cmpV, cmpP, h0, h]
  | _ => simp -dsimp [m_is_within, cmpV, cmpP, h0]
theorem s_is_pair {n : Nat} {s : S} {v : PV} (hn : 2 ≤ n) : FN prog n F_is_pair [.p v] s = .ok (.p (.bool (match v with | .tup [_, _] => true | _ => false))) s := by
  refine callQ (h := []) (sc := s.sc) (by omega) rfl rfl rfl rfl rfl ?_
  cases v with
  | tup xs => 
    rcases xs with _ | ⟨x, _ | ⟨y, _ | ⟨z, r⟩⟩⟩ <;> simp -dsimp [m_is_pair, isiAny, isiV, tyP, biV, lenV, cmpV, cmpP, PV.dep, PV.eq]
    omega
  | _ => simp -dsimp [m_is_pair, isiAny, isiV, tyP]
def stk (ks : List Kd) : List Val := (ks.map fun k => Val.p k.v).reverse
@[simp] theorem stk_nil : stk [] = [] := rfl
@[simp] theorem stk_cons (k : Kd) (ks : List Kd) : stk (k :: ks) = stk ks ++ [.p k.v] := by simp -dsimp [stk]
theorem l_anysize {n : Nat} (hn : 3 ≤ n) {v : Option Val} {d : Option Hand} {sc : List Int} : ∀ (m : Nat) (ks : List Kd) (x0 : Option Val), (ks.map Kd.sz).sum ≤ m → (stk ks).length + m ≤ 1000000 →
    ∃ x1, ex (CN prog n) w_is_kind_of_any_size_0 [v, some (.r 0), x0] ⟨[.list (stk ks)], d, sc⟩ = .next [v, some (.r 0), x1] ⟨[.list []], d, sc⟩
  | m, [], x0, _, _ => by
    refine ⟨x0, ?_⟩
    simp only [w_is_kind_of_any_size_0, x_whl]
    exact loop_done (by simp -dsimp [biV, lenV, cmpV, cmpP])
  | 0, k :: ks, x0, h, _ => by simp at h; cases k <;> simp -dsimp [Kd.sz] at h
  | m + 1, .c a :: ks, x0, h, hl => by
    obtain ⟨x1, ih⟩ := l_anysize hn (v := v) (d := d) (sc := sc) m ks (some (.p (.int a.val))) (by simp -dsimp [Kd.sz] at h; omega) (by simp at hl; omega)
    refine ⟨x1, Eq.trans ?_ ih⟩
    simp only [w_is_kind_of_any_size_0, x_whl]
    have h1 := fun s => s_is_pair (n := n + 1) (s := s) (v := .int a.val) (by omega)
    have h2 := fun s => s_is_within (n := n + 1) (s := s) (v := .int a.val) (a := 0) (b := 25) (by omega)
    have : (a.val : Int) ≤ 25 := by omega
    exact loop_next (s1 := ⟨[.list (stk (.c a :: ks))], d, sc⟩) (by simp -dsimp [biV, lenV, cmpV, cmpP]) (by simp -dsimp [bmTag, bmV, setO, h1, h2, truth, PV.truth, Kd.v, this])
  | m + 1, .f a b :: ks, x0, h, hl => by
    obtain ⟨x1, ih⟩ := l_anysize hn (v := v) (d := d) (sc := sc) m (b :: a :: ks) (some (.p (.tup [a.v, b.v]))) (by simp -dsimp [Kd.sz] at h ⊢; omega) (by simp at hl ⊢; omega)
    refine ⟨x1, Eq.trans ?_ ih⟩
    simp only [w_is_kind_of_any_size_0, x_whl]
    have h1 := fun s => s_is_pair (n := n + 1) (s := s) (v := .tup [a.v, b.v]) (by omega)
    have : (stk ks).length ≤ 16777214 := by simp at hl; omega
    exact loop_next (s1 := ⟨[.list (stk (.f a b :: ks))], d, sc⟩) (by simp -dsimp [biV, lenV, cmpV, cmpP]) (by simp -dsimp [bmTag, bmV, setO, h1, truth, PV.truth, Kd.v, this])
theorem s_anysize {n : Nat} {s : S} {k : Kd} (hn : 5 ≤ n) (hk : k.sz ≤ 900000) : FN prog n F_is_kind_of_any_size [.p k.v] s = .ok (.p (.bool true)) s := by
  obtain ⟨x1, h⟩ := l_anysize (n := n - 2) (by omega) (v := some (.p k.v)) (d := s.d) (sc := s.sc) k.sz [k] none (by simp) (by simp; omega)
  refine callQ (h := [.list []]) (sc := s.sc) (by omega) rfl rfl rfl rfl rfl ?_
  simp at h
  simp -dsimp [m_is_kind_of_any_size, new, h]
end U
/-! Pl2: kinds written. -/
namespace U
/-! ### is_kind_there -/
def stk2 (ks : List (Kd × Nat)) : List Val := (ks.map fun k => Val.p (.tup [k.1.v, .int k.2])).reverse
@[simp] theorem stk2_nil : stk2 [] = [] := rfl
@[simp] theorem stk2_cons (k : Kd × Nat) (ks : List (Kd × Nat)) : stk2 (k :: ks) = stk2 ks ++ [.p (.tup [k.1.v, .int k.2])] := by simp -dsimp [stk2]
theorem l_there {n : Nat} (hn : 3 ≤ n) {v : Option Val} {d : Option Hand} {sc : List Int} : ∀ (m : Nat) (ks : List (Kd × Nat)) (l : Nat) (x0 y0 : Option Val), (ks.map fun k => k.1.sz).sum ≤ m → (stk2 ks).length + m ≤ 1000000 → (∀ k ∈ ks, k.1.dep + k.2 ≤ 30) → (ks.map fun k => k.1.lets).sum + l ≤ 60 →
    ∃ x1 y1 l', ex (CN prog n) w_is_kind_there_0 [v, some (.r 0), some (.p (.int l)), x0, y0] ⟨[.list (stk2 ks)], d, sc⟩ = .next [v, some (.r 0), some (.p (.int l')), x1, y1] ⟨[.list []], d, sc⟩
  | m, [], l, x0, y0, _, _, _, _ => by
    refine ⟨x0, y0, l, ?_⟩
    simp only [w_is_kind_there_0, x_whl]
    exact loop_done (by simp -dsimp [biV, lenV, cmpV, cmpP])
  | 0, (k, _) :: ks, l, x0, y0, h, _, _, _ => by simp at h; cases k <;> simp -dsimp [Kd.sz] at h
  | m + 1, (.c a, e) :: ks, l, x0, y0, h, hl, hd, ht => by
    obtain ⟨x1, y1, l', ih⟩ := l_there hn (v := v) (d := d) (sc := sc) m ks (l + 1) (some (.p (.int a.val))) (some (.p (.int e))) (by simp -dsimp [Kd.sz] at h; omega) (by simp at hl; omega) (fun k hk => hd k (List.mem_cons_of_mem _ hk)) (by simp -dsimp [Kd.lets] at ht; omega)
    refine ⟨x1, y1, l', Eq.trans ?_ ih⟩
    simp only [w_is_kind_there_0, x_whl]
    have h1 := fun s => s_is_pair (n := n + 1) (s := s) (v := .int a.val) (by omega)
    have h2 := fun s => s_is_within (n := n + 1) (s := s) (v := .int a.val) (a := 0) (b := 25) (by omega)
    have h3 : (a.val : Int) ≤ 25 := by omega
    have h4 : (l : Int) < 60 := by simp -dsimp [Kd.lets] at ht; omega
    exact loop_next (s1 := ⟨[.list (stk2 ((.c a, e) :: ks))], d, sc⟩) (by simp -dsimp [biV, lenV, cmpV, cmpP]) (by simp -dsimp [bmTag, bmV, setO, h1, h2, truth, PV.truth, Kd.v, h3, h4, cmpV, cmpP, augop])
  | m + 1, (.f a b, e) :: ks, l, x0, y0, h, hl, hd, ht => by
    have hd0 := hd _ (List.mem_cons_self ..)
    simp only [Kd.dep] at hd0
    obtain ⟨x1, y1, l', ih⟩ := l_there hn (v := v) (d := d) (sc := sc) m ((a, e + 1) :: (b, e + 1) :: ks) l (some (.p (.tup [a.v, b.v]))) (some (.p (.int e))) (by simp -dsimp [Kd.sz] at h ⊢; omega) (by simp at hl ⊢; omega)
      (fun k hk => by
        simp only [List.mem_cons] at hk
        rcases hk with rfl | rfl | hk
        · show a.dep + (e + 1) ≤ 30; omega
        · show b.dep + (e + 1) ≤ 30; omega
        · exact hd k (List.mem_cons_of_mem _ hk)) (by simp -dsimp [Kd.lets] at ht ⊢; omega)
    refine ⟨x1, y1, l', Eq.trans ?_ ih⟩
    simp only [w_is_kind_there_0, x_whl]
    have h1 := fun s => s_is_pair (n := n + 1) (s := s) (v := .tup [a.v, b.v]) (by omega)
    have h3 : (e : Int) < 30 := by omega
    have h5 : (stk2 ks).length ≤ 1000000 := by simp at hl; omega
    exact loop_next (s1 := ⟨[.list (stk2 ((.f a b, e) :: ks))], d, sc⟩) (by simp -dsimp [biV, lenV, cmpV, cmpP]) (by simp -dsimp [bnd h5, bmTag, bmV, setO, h1, truth, PV.truth, Kd.v, h3, cmpV, cmpP, idxV, atI, ixN, binop, binP])
def Kd.th (k : Kd) : Prop := k.lets ≤ 60 ∧ k.dep ≤ 30
theorem Kd.sz_lets : ∀ k : Kd, k.sz + 1 = 2 * k.lets
  | .c _ => rfl
  | .f a b => by have := a.sz_lets; have := b.sz_lets; simp only [Kd.sz, Kd.lets]; omega
theorem Kd.th.sz {k : Kd} (h : k.th) : k.sz ≤ 900000 := by have := k.sz_lets; have := h.1; omega
theorem s_there {n : Nat} {s : S} {k : Kd} (hn : 5 ≤ n) (hk : k.th) : FN prog n F_is_kind_there [.p k.v] s = .ok (.p (.bool true)) s := by
  obtain ⟨x1, y1, l', h⟩ := l_there (n := n - 2) (by omega) (v := some (.p k.v)) (d := s.d) (sc := s.sc) k.sz [(k, 0)] 0 none none (by simp) (by have := hk.sz; simp; omega) (by simp; exact hk.2) (by simp; exact hk.1)
  refine callQ (h := [.list []]) (sc := s.sc) (by omega) rfl rfl rfl rfl rfl ?_
  simp at h
  simp -dsimp [m_is_kind_there, new, h]
/-! ### kind_text -/
def cS (n : Nat) : List Nat := [97 + n]
def Kd.kt : Kd → List Nat
  | .c n => [97 + n.val]
  | .f (.c n) b => (97 + n.val) :: 32 :: 62 :: 32 :: b.kt
  | .f (.f a b) e => 40 :: ((Kd.f a b).kt ++ 41 :: 32 :: 62 :: 32 :: e.kt)
inductive Wt where
  | kd (k : Kd) | sg (s : List Nat)
def Wt.v : Wt → Val
  | .kd a => .p a.v
  | .sg a => .p (.str a)
def Wt.tx : Wt → List Nat
  | .kd a => a.kt
  | .sg a => a
def Wt.sz : Wt → Nat
  | .kd a => 6 * a.sz
  | .sg _ => 1
def stkW (ks : List Wt) : List Val := (ks.map Wt.v).reverse
@[simp] theorem stkW_nil : stkW [] = [] := rfl
@[simp] theorem stkW_cons (k : Wt) (ks : List Wt) : stkW (k :: ks) = stkW ks ++ [k.v] := by simp -dsimp [stkW]
def sts (l : List (List Nat)) : List Val := l.map fun x => .p (.str x)
theorem allS_sts : ∀ l, allS (sts l) = some l
  | [] => rfl
  | x :: l => by simp only [sts, List.map_cons, allS]; rw [show (l.map fun x => Val.p (.str x)) = sts l from rfl, allS_sts l]; rfl
theorem joinS_nil : ∀ l : List (List Nat), joinS [] l = l.flatten
  | [] => rfl
  | [x] => by simp -dsimp [joinS]
  | x :: y :: r => by simp -dsimp [joinS, joinS_nil (y :: r)]
theorem idx_small (a : Fin 26) : idxV (.p (.str [97, 98, 99, 100, 101, 102, 103, 104, 105, 106, 107, 108, 109, 110, 111, 112, 113, 114, 115, 116, 117, 118, 119, 120, 121, 122])) (.p (.int a.val)) s = some (.p (.str [97 + a.val])) := by
  have h : ∀ a : Fin 26, atI [97, 98, 99, 100, 101, 102, 103, 104, 105, 106, 107, 108, 109, 110, 111, 112, 113, 114, 115, 116, 117, 118, 119, 120, 121, 122] (a.val : Int) = some (97 + a.val) := by decide
  simp only [idxV, h]; rfl
theorem Kd.kt_len : ∀ k : Kd, k.kt.length + 5 ≤ 6 * k.lets
  | .c _ => by simp -dsimp [Kd.kt, Kd.lets]
  | .f (.c n) b => by have := b.kt_len; simp -dsimp [Kd.kt, Kd.lets]; omega
  | .f (.f a b) e => by have h1 := (Kd.f a b).kt_len; have h2 := e.kt_len; simp only [Kd.kt, Kd.lets, List.length_cons, List.length_append] at *; omega
theorem joinLen0 : ∀ l : List (List Nat), joinLen 0 l = l.flatten.length
  | [] => rfl
  | x :: l => by have := joinLen0 l; simp -dsimp [joinLen] at *
end U
/-! Pl3: the reader. -/
namespace U
def rdo (t : List Nat) (i : Nat) : Obj := .inst 4 [(1, .p (.str t)), (0, .p (.int i))]
theorem rdo_pure (t : List Nat) (i : Nat) : (rdo t i).pure = true := rfl
theorem cut_some {α : Type} (t : List α) (i j : Nat) (h : i ≤ j) (hj : j ≤ t.length) : cut t (some (i : Int)) (some (j : Int)) = (t.drop i).take (j - i) := by
  unfold cut sIx
  have h1 : ¬ ((i : Int) < 0) := by omega
  have h2 : ¬ ((j : Int) < 0) := by omega
  simp only [h1, h2, if_false, Int.toNat_natCast]
  rw [Nat.min_eq_left (Nat.le_trans h hj), Nat.min_eq_left hj]
theorem cut_sign {α : Type} (t : List α) (i : Nat) (h : i ≤ t.length) : cut t (some (i : Int)) (some ((i : Int) + 1)) = (t.drop i).take 1 := by
  unfold cut sIx
  have h1 : ¬ ((i : Int) < 0) := by omega
  have h2 : ¬ ((i : Int) + 1 < 0) := by omega
  simp only [h1, h2, if_false, Int.toNat_natCast]
  rw [show ((i : Int) + 1).toNat = i + 1 by omega]
  by_cases e : i < t.length
  · rw [Nat.min_eq_left (by omega), Nat.min_eq_left (by omega)]; congr 1; omega
  · have : i = t.length := by omega
    subst this
    simp
theorem s_init {n : Nat} {s : S} {t : List Nat} (hn : 2 ≤ n) : iniOf prog (runG loop prog n) 4 [.p (.str t)] s = .ok (.r s.h.length) { s with h := s.h ++ [rdo t 0] } := by
  obtain ⟨m, rfl⟩ : ∃ m, n = m + 2 := ⟨n - 2, by omega⟩
  have h : FN prog (m + 2) F_Reader___init__ [.r s.h.length, .p (.str t)] { s with h := s.h ++ [Obj.inst 4 []] } = .ok (.p .non) ⟨(s.h ++ [Obj.inst 4 []]).set s.h.length (rdo t 0), s.d, s.sc⟩ := by
    refine callP1 (o := Obj.inst 4 []) (o' := rdo t 0) (h := []) (sc := s.sc) (by omega) (by simp) rfl rfl rfl rfl rfl rfl rfl ?_
    simp -dsimp [m_Reader___init__, refs, renum, isiAny, isiV, tyP, fsetV, setO, fput, rdo]
  have e : ∀ (as : List Val) (s : S), footB as s = true → fnOf prog (runG loop prog (m + 2)) F_Reader___init__ as s = foot (runG loop prog (m + 2) F_Reader___init__) as s := fun as s hB => by
    unfold fnOf
    rw [show prog.fns[F_Reader___init__]? = some m_Reader___init__ from rfl]
    simp [hB, m_Reader___init__]
  have h : foot (runG loop prog (m + 2) F_Reader___init__) [.r s.h.length, .p (.str t)] { s with h := s.h ++ [Obj.inst 4 []] } = .ok (.p .non) ⟨(s.h ++ [Obj.inst 4 []]).set s.h.length (rdo t 0), s.d, s.sc⟩ := (e _ _ (by simp [footB, refs, gather, flatA, Obj.pure])).symm.trans h
  unfold iniOf
  rw [show prog.cls[4]? = some F_Reader___init__ from rfl]
  simp only [List.all_cons, List.all_nil, Val.isP, Bool.and_self, if_true, h, R.bind_ok]
  simp
theorem s_sign {n : Nat} {s : S} {a : Nat} {t : List Nat} {i : Nat} (hn : 2 ≤ n) (ho : s.h[a]? = some (rdo t i)) (hi : i ≤ t.length) : FN prog n F_Reader_sign [.r a] s = .ok (.p (.str ((t.drop i).take 1))) s := by
  refine callQ1 (o := rdo t i) (h := []) (sc := s.sc) (by omega) ho rfl rfl rfl rfl rfl rfl ?_
  have := cut_sign t i hi
  simp -dsimp [m_Reader_sign, refs, renum, fldV, rdo, fget, binop, binP, slcV, this]
def isSm (c : Nat) : Bool := decide (97 ≤ c) && decide (c ≤ 122)
theorem isSm_eq (c : Nat) : decide (c ∈ [97, 98, 99, 100, 101, 102, 103, 104, 105, 106, 107, 108, 109, 110, 111, 112, 113, 114, 115, 116, 117, 118, 119, 120, 121, 122]) = isSm c := by
  unfold isSm
  by_cases h : 97 ≤ c ∧ c ≤ 122
  · have : ∀ a : Fin 26, (97 + a.val) ∈ [97, 98, 99, 100, 101, 102, 103, 104, 105, 106, 107, 108, 109, 110, 111, 112, 113, 114, 115, 116, 117, 118, 119, 120, 121, 122] := by decide
    have := this ⟨c - 97, by omega⟩
    simp only [show 97 + (c - 97) = c by omega] at this
    rw [decide_eq_true this]; simp -dsimp [h]
  · rw [decide_eq_false]
    · symm; simp only [Bool.and_eq_false_iff, decide_eq_false_iff_not]; omega
    · intro m; simp only [List.mem_cons, List.not_mem_nil, or_false] at m; omega
theorem in_small (c : Nat) (s : S) : cmpV .in_ (.p (.str [c])) (.p (.str [97, 98, 99, 100, 101, 102, 103, 104, 105, 106, 107, 108, 109, 110, 111, 112, 113, 114, 115, 116, 117, 118, 119, 120, 121, 122])) s = some (isSm c) := by
  rw [← isSm_eq]; rfl
def smH : List Nat → Bool
  | [] => false
  | c :: _ => isSm c
theorem s_is_small {n : Nat} {s : S} {a : Nat} {t : List Nat} {i : Nat} (hn : 3 ≤ n) (ho : s.h[a]? = some (rdo t i)) (hi : i ≤ t.length) : FN prog n F_Reader_is_small [.r a] s = .ok (.p (.bool (smH (t.drop i)))) s := by
  refine callQ1 (o := rdo t i) (h := []) (sc := s.sc) (by omega) ho rfl rfl rfl rfl rfl rfl ?_
  have h1 := fun d sc => s_sign (n := n - 2 + 1) (s := ⟨[rdo t i], d, sc⟩) (a := 0) (t := t) (i := i) (by omega) rfl hi
  cases e : t.drop i with
  | nil => simp only [rdo, e] at h1; simp -dsimp [m_Reader_is_small, refs, renum, isOf, rdo, smH, h1, cmpV, cmpP, PV.dep, PV.eq]
  | cons c r => simp only [rdo, e, List.take_succ_cons, List.take_zero] at h1; simp -dsimp [m_Reader_is_small, refs, renum, isOf, rdo, smH, h1, cmpV, cmpP, PV.dep, PV.eq]; rw [← isSm_eq c]; simp
theorem drop_tail {α : Type} {t : List α} {i : Nat} {c : α} {r : List α} (h : t.drop i = c :: r) : t.drop (i + 1) = r ∧ i < t.length := by
  constructor
  · rw [← List.drop_drop, h]; rfl
  · have := congrArg List.length h; simp at this; omega
theorem l_need {n : Nat} (hn : 2 ≤ n) {v : Option Val} {d : Option Hand} {sc : List Int} {t : List Nat} : ∀ (cs r : List Nat) (i : Nat) (x0 : Option Val), t.drop i = cs ++ r → i ≤ t.length →
    ∃ x1, forS (CN prog n) [] (forT w_Reader_need_0) (forB w_Reader_need_0) (cs.map fun c => .p (.str [c])) [some (.r 0), v, x0] ⟨[rdo t i], d, sc⟩ = .next [some (.r 0), v, x1] ⟨[rdo t (i + cs.length)], d, sc⟩
  | [], r, i, x0, h, _ => ⟨x0, for_nil rfl⟩
  | c :: cs, r, i, x0, h, hi => by
    obtain ⟨h2, h3⟩ := drop_tail h
    obtain ⟨x1, ih⟩ := l_need hn (v := v) (d := d) (sc := sc) (t := t) cs r (i + 1) (some (.p (.str [c]))) h2 (by omega)
    refine ⟨x1, ?_⟩
    have h1 := fun d sc => s_sign (n := n + 1) (s := ⟨[rdo t i], d, sc⟩) (a := 0) (t := t) (i := i) (by omega) rfl hi
    simp only [rdo, h] at h1
    rw [show i + (c :: cs).length = i + 1 + cs.length by simp; omega]
    refine (for_cons rfl rfl ?_).trans ih
    simp -dsimp [forB, w_Reader_need_0, isOf, rdo, h1, cmpV, cmpP, PV.dep, PV.eq, fldV, fget, augop, clsOf, fsetV, fput, setO]
theorem s_need {n : Nat} {s : S} {a : Nat} {t : List Nat} {i : Nat} {cs r : List Nat} (hn : 4 ≤ n) (ho : s.h[a]? = some (rdo t i)) (hi : i ≤ t.length) (hd : t.drop i = cs ++ r) : FN prog n F_Reader_need [.r a, .p (.str cs)] s = .ok (.p .non) ⟨s.h.set a (rdo t (i + cs.length)), s.d, s.sc⟩ := by
  obtain ⟨x1, h⟩ := l_need (n := n - 2) (by omega) (v := some (.p (.str cs))) (d := s.d) (sc := s.sc) cs r i none hd hi
  refine callP1 (o := rdo t i) (o' := rdo t (i + cs.length)) (h := []) (sc := s.sc) (by omega) ho rfl rfl rfl rfl rfl rfl rfl ?_
  have h := for_start (s := ⟨[rdo t i], s.d, s.sc⟩) (env := [some (.r 0), some (.p (.str cs)), none]) rfl (by simp -dsimp [forI, w_Reader_need_0, itemsOf, guardOf]) h
  simp -dsimp [m_Reader_need, refs, renum, h]
theorem l_name {n : Nat} (hn : 3 ≤ n) {d : Option Hand} {sc : List Int} {t : List Nat} {b : Nat} : ∀ (cs r : List Nat) (i : Nat), t.drop i = cs ++ r → i ≤ t.length → (∀ c ∈ cs, isSm c = true) → b ≤ i → i + cs.length ≤ b + 8 → (i + cs.length = b + 8 ∨ smH r = false) →
    ex (CN prog n) w_Reader_name_0 [some (.r 0), some (.p (.int b))] ⟨[rdo t i], d, sc⟩ = .next [some (.r 0), some (.p (.int b))] ⟨[rdo t (i + cs.length)], d, sc⟩
  | [], r, i, h, hi, _, _, _, hr => by
    have h1 := fun d sc => s_is_small (n := n + 1) (s := ⟨[rdo t i], d, sc⟩) (a := 0) (t := t) (i := i) (by omega) rfl hi
    refine whl_done rfl ?_
    simp at h
    simp only [rdo, h] at h1
    cases hs : smH r with
    | false => simp -dsimp [whlC, w_Reader_name_0, isOf, rdo, h1, hs, truth, PV.truth]
    | true =>
      simp -dsimp [hs] at hr
      have : ¬ ((i : Int) < (b : Int) + 8) := by omega
      simp -dsimp [whlC, w_Reader_name_0, isOf, rdo, h1, hs, truth, PV.truth, fldV, fget, binop, binP, cmpV, cmpP, this]
  | c :: cs, r, i, h, hi, hc, hb, hl, hr => by
    obtain ⟨h2, h3⟩ := drop_tail h
    have ih := l_name hn (d := d) (sc := sc) (t := t) (b := b) cs r (i + 1) h2 (by omega) (fun c m => hc c (List.mem_cons_of_mem _ m)) (by omega) (by simp at hl; omega) (by simp at hr; rcases hr with hr | hr; exact .inl (by omega); exact .inr hr)
    have h1 := fun d sc => s_is_small (n := n + 1) (s := ⟨[rdo t i], d, sc⟩) (a := 0) (t := t) (i := i) (by omega) rfl hi
    have h4 : isSm c = true := hc c (List.mem_cons_self ..)
    have h5 : (i : Int) < (b : Int) + 8 := by simp at hl; omega
    rw [show i + (c :: cs).length = i + 1 + cs.length by simp; omega]
    refine Eq.trans ?_ ih
    simp only [rdo, h, List.cons_append, smH, h4] at h1
    refine whl_next (s1 := ⟨[rdo t i], d, sc⟩) rfl ?_ ?_
    · simp -dsimp [whlC, w_Reader_name_0, isOf, rdo, h1, truth, PV.truth, fldV, fget, binop, binP, cmpV, cmpP, h5]
    · simp -dsimp [whlB, w_Reader_name_0, rdo, fldV, fget, augop, clsOf, fsetV, fput, setO]
theorem s_name {n : Nat} {s : S} {a : Nat} {t : List Nat} {i : Nat} {cs r : List Nat} (hn : 5 ≤ n) (ho : s.h[a]? = some (rdo t i)) (hi : i ≤ t.length) (hd : t.drop i = cs ++ r) (hc : ∀ c ∈ cs, isSm c = true) (h1 : 1 ≤ cs.length) (h8 : cs.length ≤ 8) (hr : cs.length = 8 ∨ smH r = false) :
    FN prog n F_Reader_name [.r a] s = .ok (.p (.str cs)) ⟨s.h.set a (rdo t (i + cs.length)), s.d, s.sc⟩ := by
  have h := l_name (n := n - 2) (by omega) (d := s.d) (sc := s.sc) (t := t) (b := i) cs r i hd hi hc (Nat.le_refl _) (by omega) (by rcases hr with hr | hr; exact .inl (by omega); exact .inr hr)
  refine callP1 (o := rdo t i) (o' := rdo t (i + cs.length)) (h := []) (sc := s.sc) (by omega) ho rfl rfl rfl rfl rfl rfl rfl ?_
  have hlen : i + cs.length ≤ t.length := by have := congrArg List.length hd; simp at this; omega
  have h4 := cut_some t i (i + cs.length) (by omega) hlen
  rw [hd] at h4
  simp at h4
  have h5 : ((i : Int) + (cs.length : Int) == (i : Int)) = false := by rw [beq_eq_false_iff_ne]; omega
  have h6 : cs ≠ [] := fun e => by simp -dsimp [e] at h1
  simp only [rdo] at h
  simp -dsimp [m_Reader_name, refs, renum, rdo, h, fldV, fget, cmpV, cmpP, PV.dep, PV.eq, slcV, h4, h5]
theorem find_small (a : Fin 26) : findC (97 + a.val) [97, 98, 99, 100, 101, 102, 103, 104, 105, 106, 107, 108, 109, 110, 111, 112, 113, 114, 115, 116, 117, 118, 119, 120, 121, 122] 0 = some a.val := by
  revert a; decide
theorem isSm_fin (a : Fin 26) : isSm (97 + a.val) = true := by revert a; decide
theorem s_letter {n : Nat} {s : S} {a : Nat} {t : List Nat} {i : Nat} {k : Fin 26} {r : List Nat} (hn : 4 ≤ n) (ho : s.h[a]? = some (rdo t i)) (hi : i ≤ t.length) (hd : t.drop i = (97 + k.val) :: r) :
    FN prog n F_Reader_letter [.r a] s = .ok (.p (.int k.val)) ⟨s.h.set a (rdo t (i + 1)), s.d, s.sc⟩ := by
  refine callP1 (o := rdo t i) (o' := rdo t (i + 1)) (h := []) (sc := s.sc) (by omega) ho rfl rfl rfl rfl rfl rfl rfl ?_
  have h1 := fun d sc => s_is_small (n := n - 2 + 1) (s := ⟨[rdo t i], d, sc⟩) (a := 0) (t := t) (i := i) (by omega) rfl hi
  rw [hd, smH, isSm_fin] at h1
  have h3 := (drop_tail hd).2
  have h4 : t[i]? = some (97 + k.val) := by
    have := congrArg (fun l => l[0]?) hd
    simpa using this
  have h5 : atI t (i : Int) = some (97 + k.val) := by
    have e : (i : Int) < (t.length : Int) := by omega
    simp -dsimp [atI, ixN, e, h4]
  have h6 := find_small k
  have e7 : (i : Int) + 1 - 1 = i := by omega
  simp only [rdo] at h1
  simp -dsimp [m_Reader_letter, refs, renum, isOf, rdo, h1, truth, PV.truth, fldV, fget, augop, clsOf, fsetV, fput, setO, bmTag, binop, binP, idxV, e7, h5, bmV, h6]
theorem s_finish {n : Nat} {s : S} {a : Nat} {t : List Nat} {i : Nat} (hn : 4 ≤ n) (ho : s.h[a]? = some (rdo t i)) (hi : i = t.length) : FN prog n F_Reader_finish [.r a] s = .ok (.p .non) s := by
  refine callQ1 (o := rdo t i) (h := []) (sc := s.sc) (by omega) ho rfl rfl rfl rfl rfl rfl ?_
  have h1 := fun d sc => s_sign (n := n - 2 + 1) (s := ⟨[rdo t i], d, sc⟩) (a := 0) (t := t) (i := i) (by omega) rfl (by omega)
  subst hi
  simp only [rdo, List.drop_length, List.take_nil] at h1
  simp -dsimp [m_Reader_finish, refs, renum, isOf, rdo, h1, cmpV, cmpP, PV.dep, PV.eq]
end U
/-! Pl4: kinds read. -/
namespace U
def joinK (ls : List Kd) (k : Kd) : Kd := ls.foldr Kd.f k
def kvs (ls : List Kd) : List Val := ls.map fun k => .p k.v
theorem kvs_pure (ls : List Kd) : (Obj.list (kvs ls)).pure = true := by
  simp -dsimp [Obj.pure, kvs, Val.isP]
theorem l_joined {n : Nat} {v : Option Val} {s : S} {g : List (Nat × List Val)} (hg : still s g = true) : ∀ (ls : List Kd) (k : Kd) (x0 : Option Val),
    ∃ x1, forS (CN prog n) g (forT w_joined_kind_0) (forB w_joined_kind_0) (kvs ls) [v, some (.p k.v), x0] s = .next [v, some (.p (ls.foldl (fun a b => Kd.f b a) k).v), x1] s
  | [], k, x0 => ⟨x0, for_nil hg⟩
  | l :: ls, k, x0 => by
    obtain ⟨x1, ih⟩ := l_joined (n := n) (v := v) hg ls (.f l k) (some (.p l.v))
    refine ⟨x1, (for_cons hg rfl ?_).trans ih⟩
    simp -dsimp [forB, forT, w_joined_kind_0, Kd.v]
theorem atI_last {α : Type} (xs : List α) (x : α) : atI (xs ++ [x]) (-1) = some x := by
  have h1 : ¬ ((0 : Int) ≤ -1) := by decide
  have h2 : -(((xs ++ [x]).length : Nat) : Int) ≤ -1 := by simp; omega
  have h3 : ((-1 : Int) + ((xs ++ [x]).length : Nat)).toNat = xs.length := by simp; omega
  unfold atI ixN
  rw [if_neg h1, if_pos h2, h3]
  simp
theorem cut_init {α : Type} (xs : List α) (x : α) : cut (xs ++ [x]) none (some (-1)) = xs := by
  have h1 : (max ((-1 : Int) + ((xs ++ [x]).length : Nat)) 0).toNat = xs.length := by simp; omega
  unfold cut sIx
  simp only [show ((-1 : Int) < 0) from by decide, if_true, h1]
  simp
theorem s_joined {n : Nat} {s : S} {a : Nat} {ls : List Kd} {k : Kd} (hn : 2 ≤ n) (ho : s.h[a]? = some (.list (kvs (ls ++ [k])))) : FN prog n F_joined_kind [.r a] s = .ok (.p (joinK ls k).v) s := by
  have e1 : kvs (ls ++ [k]) = kvs ls ++ [.p k.v] := by simp -dsimp [kvs]
  have e2 : (kvs ls).reverse = kvs ls.reverse := by simp -dsimp [kvs]
  have hp := kvs_pure (ls ++ [k])
  rw [e1] at ho hp
  obtain ⟨x1, h⟩ := l_joined (n := n - 2) (v := some (.r 0)) (s := ⟨[.list (kvs ls ++ [.p k.v]), .list (kvs ls), .list (kvs ls.reverse)], s.d, s.sc⟩) (g := [(2, kvs ls.reverse)]) (still_at rfl) ls.reverse k none
  rw [List.foldl_reverse] at h
  refine callQ1 (o := .list (kvs ls ++ [.p k.v])) (h := [.list (kvs ls), .list (kvs ls.reverse)]) (sc := s.sc) (by omega) ho rfl rfl rfl rfl rfl hp ?_
  have h := for_start (s := ⟨[.list (kvs ls ++ [.p k.v])], s.d, s.sc⟩) (env := [some (.r 0), some (.p k.v), none]) rfl (by simp -dsimp [forI, w_joined_kind_0, slcV, cut_init, revV, e2, itemsOf, guardOf]) h
  simp -dsimp [m_joined_kind, refs, renum, idxV, atI_last, h, joinK]
def RowsAt (h : List Obj) (rows : List (Nat × List Kd)) : Prop := (rows.map (·.1)).Nodup ∧ (∀ q ∈ rows, h[q.1]? = some (.list (kvs q.2)) ∧ q.1 ≠ 0 ∧ q.1 ≠ 2 ∧ q.1 < h.length) ∧ 3 ≤ h.length
structure KSt (t : List Nat) (i : Nat) (h : List Obj) (rows : List (Nat × List Kd)) : Prop where
  rd : h[0]? = some (rdo t i)
  ls : h[2]? = some (.list (rows.map fun q => .r q.1))
  nd : (rows.map (·.1)).Nodup
  at_ : ∀ q ∈ rows, h[q.1]? = some (.list (kvs q.2)) ∧ q.1 ≠ 0 ∧ q.1 ≠ 2
theorem get_set {α : Type} {l : List α} {a b : Nat} {o : α} : (l.set a o)[b]? = if a = b ∧ b < l.length then some o else l[b]? := by
  rw [List.getElem?_set]
  split
  · split
    · rename_i h1 h2; subst h1; rw [if_pos ⟨rfl, h2⟩]
    · rename_i h1 h2; subst h1; rw [if_neg (fun z => h2 z.2), List.getElem?_eq_none (by omega)]
  · rename_i h1; rw [if_neg fun z => h1 z.1]
theorem lt_of_get {α : Type} {l : List α} {a : Nat} {o : α} (h : l[a]? = some o) : a < l.length := (List.getElem?_eq_some_iff.mp h).1
theorem KSt.move {t : List Nat} {i j : Nat} {h : List Obj} {rows : List (Nat × List Kd)} (k : KSt t i h rows) : KSt t j (h.set 0 (rdo t j)) rows where
  rd := by rw [get_set, if_pos ⟨rfl, lt_of_get k.rd⟩]
  ls := by rw [get_set, if_neg (by omega)]; exact k.ls
  nd := k.nd
  at_ := fun q hq => by
    obtain ⟨h1, h2, h3⟩ := k.at_ q hq
    exact ⟨by rw [get_set, if_neg (by omega)]; exact h1, h2, h3⟩
theorem KSt.push {t : List Nat} {i : Nat} {h : List Obj} {rows : List (Nat × List Kd)} (k : KSt t i h rows) : KSt t i ((h ++ [Obj.list []]).set 2 (Obj.list ((rows ++ [(h.length, [])]).map fun q : Nat × List Kd => Val.r q.1))) (rows ++ [(h.length, [])]) where
  rd := by
    have := lt_of_get k.rd
    rw [get_set, if_neg (by omega), List.getElem?_append_left this]; exact k.rd
  ls := by
    have := lt_of_get k.ls
    rw [get_set, if_pos ⟨rfl, by simp; omega⟩]
  nd := by
    rw [List.map_append, List.nodup_append]
    refine ⟨k.nd, by simp, fun a ha b hb e => ?_⟩
    simp at hb; subst hb
    obtain ⟨q, hq, rfl⟩ := List.mem_map.mp ha
    have := lt_of_get (k.at_ q hq).1
    omega
  at_ := fun q hq => by
    rw [List.mem_append] at hq
    have h0 := lt_of_get k.ls
    rcases hq with hq | hq
    · obtain ⟨h1, h2, h3⟩ := k.at_ q hq
      exact ⟨by rw [get_set, if_neg (by omega), List.getElem?_append_left (lt_of_get h1)]; exact h1, h2, h3⟩
    · simp at hq; subst hq
      exact ⟨by rw [get_set, if_neg (by omega)]; simp -dsimp [kvs], by show h.length ≠ 0; omega, by show h.length ≠ 2; omega⟩
theorem KSt.add {t : List Nat} {i : Nat} {h : List Obj} {rows : List (Nat × List Kd)} {a : Nat} {r : List Kd} (k : KSt t i h (rows ++ [(a, r)])) (x : Kd) : KSt t i (h.set a (.list (kvs (r ++ [x])))) (rows ++ [(a, r ++ [x])]) := by
  obtain ⟨h1, h2, h3⟩ := k.at_ (a, r) (by simp)
  have hl := lt_of_get h1
  have nd := k.nd
  rw [List.map_append, List.nodup_append] at nd
  refine ⟨?_, ?_, ?_, fun q hq => ?_⟩
  · rw [get_set, if_neg (by simp at h2; omega)]; exact k.rd
  · rw [get_set, if_neg (by simp at h3; omega), k.ls]; simp
  · simpa using k.nd
  · rw [List.mem_append] at hq
    rcases hq with hq | hq
    · obtain ⟨g1, g2, g3⟩ := k.at_ q (List.mem_append_left _ hq)
      refine ⟨?_, g2, g3⟩
      rw [get_set, if_neg]
      · exact g1
      · rintro ⟨e, _⟩
        exact nd.2.2 q.1 (List.mem_map_of_mem hq) a (by simp) e.symm
    · simp at hq; subst hq
      exact ⟨by rw [get_set, if_pos ⟨rfl, hl⟩], h2, h3⟩
theorem KSt.drop {t : List Nat} {i : Nat} {h : List Obj} {rows : List (Nat × List Kd)} {q : Nat × List Kd} (k : KSt t i h (rows ++ [q])) : KSt t i (h.set 2 (.list (rows.map fun q => .r q.1))) rows where
  rd := by rw [get_set, if_neg (by omega)]; exact k.rd
  ls := by rw [get_set, if_pos ⟨rfl, lt_of_get k.ls⟩]
  nd := by
    have := k.nd
    rw [List.map_append, List.nodup_append] at this
    exact this.1
  at_ := fun q hq => by
    obtain ⟨h1, h2, h3⟩ := k.at_ q (List.mem_append_left _ hq)
    exact ⟨by rw [get_set, if_neg (by omega)]; exact h1, h2, h3⟩
theorem whl_same {P : Prog} {n : Nat} {W : St} {env : Env} {s s2 : S} (hw : W = .whl (whlC W) (whlB W)) (h : evT (CN P n) (whlC W) env s = .ok true s) (h2 : evT (CN P n) (whlC W) env s2 = .ok true s2) (hb : exs (CN P n) (whlB W) env s = exs (CN P n) (whlB W) env s2) : ex (CN P n) W env s = ex (CN P n) W env s2 := by
  rw [hw, x_whl, x_whl]
  show loop _ _ _ _ = loop _ _ _ _
  rw [loop_unfold, loop_unfold _ _ env s2, h, h2]
  dsimp only
  rw [hb]
theorem kvs_app (r : List Kd) (x : Kd) : kvs (r ++ [x]) = kvs r ++ [.p x.v] := by simp -dsimp [kvs]
abbrev rws (Rs : List (Nat × List Kd)) : List Val := Rs.map fun q => .r q.1
section
variable {n : Nat} {d : Option Hand} {sc : List Int} {t : List Nat}
theorem kin_more (hn : 4 ≤ n) {i : Nat} {h : List Obj} {Rs : List (Nat × List Kd)} {q : Nat × List Kd} (k : KSt t i h (Rs ++ [q])) (x : Option Val) : evT (CN prog n) (whlC w_kind_in_1) [some (.r 0), some (.r 2), x] ⟨h, d, sc⟩ = .ok true ⟨h, d, sc⟩ := by
  have := k.ls
  simp -dsimp [whlC, w_kind_in_1, biV, lenV, this, cmpV, cmpP]
theorem kin_in (hn : 4 ≤ n) {i : Nat} {h : List Obj} {Rs : List (Nat × List Kd)} (k : KSt t i h Rs) (hi : i ≤ t.length) {c : Nat} {r : List Nat} (e : t.drop i = c :: r) (hc : c ≠ 40) (x : Option Val) : ex (CN prog n) w_kind_in_0 [some (.r 0), some (.r 2), x] ⟨h, d, sc⟩ = .next [some (.r 0), some (.r 2), x] ⟨h, d, sc⟩ := by
  have h1 := s_sign (n := n + 1) (s := ⟨h, d, sc⟩) (a := 0) (t := t) (i := i) (by omega) k.rd hi
  have h2 := k.rd
  simp only [e, List.take_succ_cons, List.take_zero] at h1
  simp only [rdo] at h2
  refine whl_done rfl ?_
  simp -dsimp [whlC, w_kind_in_0, isOf, h2, h1, cmpV, cmpP, PV.dep, PV.eq, hc]
theorem kin_open (hn : 4 ≤ n) {i : Nat} {h : List Obj} {Rs : List (Nat × List Kd)} {q : Nat × List Kd} (k : KSt t i h (Rs ++ [q])) (hi : i ≤ t.length) {r : List Nat} (e : t.drop i = 40 :: r) (hR : Rs.length ≤ 1000000) (x : Option Val) :
    ∃ h2, ex (CN prog n) w_kind_in_1 [some (.r 0), some (.r 2), x] ⟨h, d, sc⟩ = ex (CN prog n) w_kind_in_1 [some (.r 0), some (.r 2), x] ⟨h2, d, sc⟩ ∧ KSt t (i + 1) h2 (Rs ++ [q] ++ [(h.length, [])]) := by
  have h1 := s_sign (n := n + 1) (s := ⟨h, d, sc⟩) (a := 0) (t := t) (i := i) (by omega) k.rd hi
  have h2 := k.rd
  have h3 := s_need (n := n + 1) (s := ⟨h, d, sc⟩) (a := 0) (t := t) (i := i) (cs := [40]) (r := r) (by omega) k.rd hi (by simpa using e)
  have k1 := k.move (j := i + 1)
  have k2 := k1.push
  have l1 := k1.ls
  have hl := lt_of_get l1
  obtain ⟨g, eg⟩ : ∃ g, g = h.set 0 (rdo t (i + 1)) := ⟨_, rfl⟩
  have ew : g.length = h.length := by rw [eg]; simp
  simp only [List.length_cons, List.length_nil, ← eg] at h3 k1 k2 l1 hl
  rw [ew] at k2
  refine ⟨_, ?_, k2⟩
  simp only [e, List.take_succ_cons, List.take_zero] at h1
  simp only [rdo] at h2
  refine whl_same rfl (kin_more hn k x) (kin_more hn k2 x) ?_
  have hin : ex (CN prog n) w_kind_in_0 [some (.r 0), some (.r 2), x] ⟨h, d, sc⟩ = ex (CN prog n) w_kind_in_0 [some (.r 0), some (.r 2), x] ⟨(g ++ [Obj.list []]).set 2 (Obj.list (rws (Rs ++ [q] ++ [(h.length, [])]))), d, sc⟩ := by
    refine whl_next rfl (s1 := ⟨h, d, sc⟩) ?_ ?_
    · simp -dsimp [whlC, w_kind_in_0, isOf, h2, h1, cmpV, cmpP, PV.dep, PV.eq]
    · have l2 := k1.ls
      have l3 : (g ++ [Obj.list []])[2]? = some (.list (rws (Rs ++ [q]))) := by rw [List.getElem?_append_left hl]; exact l1
      have b1 : (rws (Rs ++ [q])).length < 16777216 := by simp; omega
      have e3 : h3 = h3 := rfl
      simp -dsimp [rws] at b1 l1 l3
      simp -dsimp [whlB, w_kind_in_0, isOf, h2, h3, l1, bmTag, new, bmV, l3, b1, setO, ew, rws]
  show (exs _ (whlB w_kind_in_1) _ _ = exs _ (whlB w_kind_in_1) _ _)
  simp only [whlB, w_kind_in_1, exs_cons]
  rw [hin]
end
end U
/-! Pl5: a kind read. -/
namespace U
theorem drop_more {α : Type} {t : List α} {i : Nat} {a b : List α} (h : t.drop i = a ++ b) : t.drop (i + a.length) = b := by
  rw [← List.drop_drop, h]; simp
theorem drop_le {α : Type} {t : List α} {i : Nat} {a b : List α} (h : t.drop i = a ++ b) (ha : a ≠ []) : i + a.length ≤ t.length := by
  have := congrArg List.length h
  have h0 : 0 < a.length := List.length_pos_iff.mpr ha
  simp at this; omega
theorem take1_ne {r : List Nat} (h : r.head? ≠ some 32) : (r.take 1 == [32]) = false := by
  rw [beq_eq_false_iff_ne]
  cases r with
  | nil => simp
  | cons c r => simpa using h
section
variable {n : Nat} {d : Option Hand} {sc : List Int} {t : List Nat}
theorem kin_letter (hn : 4 ≤ n) {i : Nat} {h : List Obj} {Rs : List (Nat × List Kd)} {a : Nat} {r : List Kd} {m : Fin 26} {rest : List Nat} (k : KSt t i h (Rs ++ [(a, r)])) (e : t.drop i = (97 + m.val) :: rest) (hl : r.length ≤ 1000000) (x : Option Val) (bk : Bk) :
    ∃ h2, exs (CN prog n) (.cons w_kind_in_0 (.cons (.ex (.bm .append (.idx (.var 1) (.neg (.lit (.int 1)))) (.cons (.meth 4 F_Reader_letter (.var 0) .nil) .nil))) bk)) [some (.r 0), some (.r 2), x] ⟨h, d, sc⟩ = exs (CN prog n) bk [some (.r 0), some (.r 2), x] ⟨h2, d, sc⟩ ∧ KSt t (i + 1) h2 (Rs ++ [(a, r ++ [.c m])]) := by
  have hi : i ≤ t.length := by have := (drop_tail e).2; omega
  have hin := kin_in (n := n) (d := d) (sc := sc) hn k hi e (by omega) x
  have h3 := s_letter (n := n + 1) (s := ⟨h, d, sc⟩) (a := 0) (t := t) (i := i) (k := m) (r := rest) (by omega) k.rd hi e
  have k1 := k.move (j := i + 1)
  have k2 := k1.add (.c m)
  have h0 := k.rd
  simp only [rdo] at h0
  have l0 := k.ls
  obtain ⟨a0, _, _⟩ := k.at_ (a, r) (by simp)
  obtain ⟨a1, _, _⟩ := k1.at_ (a, r) (by simp)
  obtain ⟨g, eg⟩ : ∃ g, g = h.set 0 (rdo t (i + 1)) := ⟨_, rfl⟩
  simp only [← eg] at h3 k1 k2 a1
  refine ⟨_, ?_, k2⟩
  have hL := atI_last (rws Rs) (.r a)
  have hk : (kvs r).length < 16777216 := by simp -dsimp [kvs]; omega
  simp only [List.map_append, List.map_cons, List.map_nil] at l0
  simp only [rws] at hL
  simp -dsimp [hin, idxV, l0, hL, a0, bmTag, isOf, h0, h3, bmV, a1, hk, setO, kvs_app, Kd.v]
theorem kin_on (hn : 4 ≤ n) {i : Nat} {h : List Obj} {Rs : List (Nat × List Kd)} {a : Nat} {r : List Kd} {m : Fin 26} {rest : List Nat} (k : KSt t i h (Rs ++ [(a, r)])) (e : t.drop i = (97 + m.val) :: 32 :: 62 :: 32 :: rest) (hl : r.length ≤ 1000000) (x : Option Val) :
    ∃ h2, ex (CN prog n) w_kind_in_1 [some (.r 0), some (.r 2), x] ⟨h, d, sc⟩ = ex (CN prog n) w_kind_in_1 [some (.r 0), some (.r 2), x] ⟨h2, d, sc⟩ ∧ KSt t (i + 4) h2 (Rs ++ [(a, r ++ [.c m])]) := by
  have e1 := (drop_tail e).1
  have hi : i + 1 ≤ t.length := by have := (drop_tail e).2; omega
  obtain ⟨h2, q, k2⟩ := kin_letter (n := n) (d := d) (sc := sc) hn k e hl x (match whlB w_kind_in_1 with
    | .cons _ (.cons _ b) => b
    | _ => .nil)
  have s2 := s_sign (n := n + 1) (s := ⟨h2, d, sc⟩) (a := 0) (t := t) (i := i + 1) (by omega) k2.rd hi
  have n2 := s_need (n := n + 1) (s := ⟨h2, d, sc⟩) (a := 0) (t := t) (i := i + 1) (cs := [32, 62, 32]) (r := rest) (by omega) k2.rd hi e1
  have k3 := k2.move (j := i + 1 + 3)
  have r2 := k2.rd
  simp only [rdo] at r2
  simp only [e1, List.take_succ_cons, List.take_zero] at s2
  simp only [List.length_cons, List.length_nil] at n2
  refine ⟨_, whl_next rfl (kin_more hn k x) (Eq.trans q ?_), k3⟩
  simp -dsimp [whlB, w_kind_in_1, isOf, r2, s2, n2, cmpV, cmpP, PV.dep, PV.eq]
theorem kin_end (hn : 4 ≤ n) {i : Nat} {h : List Obj} {a : Nat} {r : List Kd} {m : Fin 26} {rest : List Nat} (k : KSt t i h [(a, r)]) (e : t.drop i = (97 + m.val) :: rest) (hr : rest.head? ≠ some 32) (hl : r.length ≤ 1000000) (x : Option Val) :
    ∃ h2, ex (CN prog n) w_kind_in_1 [some (.r 0), some (.r 2), x] ⟨h, d, sc⟩ = .ret (.p (joinK r (.c m)).v) ⟨h2, d, sc⟩ ∧ KSt t (i + 1) h2 [(a, r ++ [.c m])] := by
  have e1 := (drop_tail e).1
  have hi : i + 1 ≤ t.length := by have := (drop_tail e).2; omega
  obtain ⟨h2, q, k2⟩ := kin_letter (n := n) (d := d) (sc := sc) (Rs := []) hn k e hl x (match whlB w_kind_in_1 with
    | .cons _ (.cons _ b) => b
    | _ => .nil)
  have s2 := s_sign (n := n + 1) (s := ⟨h2, d, sc⟩) (a := 0) (t := t) (i := i + 1) (by omega) k2.rd hi
  obtain ⟨a2, _, _⟩ := k2.at_ (a, r ++ [.c m]) (by simp)
  have j2 := s_joined (n := n + 1) (s := ⟨h2, d, sc⟩) (a := a) (ls := r) (k := .c m) (by omega) a2
  have r2 := k2.rd
  have l2 := k2.ls
  simp only [rdo] at r2
  simp only [List.nil_append, List.map_cons, List.map_nil] at l2
  simp only [e1] at s2
  have h32 := take1_ne hr
  refine ⟨_, whl_ret rfl (kin_more (Rs := []) hn k x) (Eq.trans q ?_), k2⟩
  simp -dsimp [whlB, w_kind_in_1, isOf, r2, s2, l2, cmpV, cmpP, PV.dep, PV.eq, h32, biV, lenV, idxV, atI, ixN, j2]
theorem kin_pop (hn : 4 ≤ n) {i : Nat} {h : List Obj} {Rs : List (Nat × List Kd)} {a a' : Nat} {r r' : List Kd} {m : Fin 26} {rest : List Nat} (k : KSt t i h (Rs ++ [(a', r')] ++ [(a, r)])) (e : t.drop i = (97 + m.val) :: 41 :: 32 :: 62 :: 32 :: rest) (h0 : r ≠ []) (hl : r.length ≤ 1000000) (hl' : r'.length ≤ 1000000) (x : Option Val) :
    ∃ h2 x2, ex (CN prog n) w_kind_in_1 [some (.r 0), some (.r 2), x] ⟨h, d, sc⟩ = ex (CN prog n) w_kind_in_1 [some (.r 0), some (.r 2), x2] ⟨h2, d, sc⟩ ∧ KSt t (i + 5) h2 (Rs ++ [(a', r' ++ [joinK r (.c m)])]) := by
  have e1 := (drop_tail e).1
  have e2 := (drop_tail e1).1
  have hi : i + 1 ≤ t.length := by have := (drop_tail e).2; omega
  have hi2 : i + 1 + 1 ≤ t.length := by have := (drop_tail e1).2; omega
  obtain ⟨h2, q, k2⟩ := kin_letter (n := n) (d := d) (sc := sc) hn k e hl x (match whlB w_kind_in_1 with
    | .cons _ (.cons _ b) => b
    | _ => .nil)
  have s2 := s_sign (n := n + 1) (s := ⟨h2, d, sc⟩) (a := 0) (t := t) (i := i + 1) (by omega) k2.rd hi
  have n2 := s_need (n := n + 1) (s := ⟨h2, d, sc⟩) (a := 0) (t := t) (i := i + 1) (cs := [41]) (r := 32 :: 62 :: 32 :: rest) (by omega) k2.rd hi e1
  obtain ⟨a2, _, _⟩ := k2.at_ (a, r ++ [.c m]) (by simp)
  have r2 := k2.rd
  have l2 := k2.ls
  have k3 := k2.move (j := i + 1 + 1)
  obtain ⟨a3, _, ne3⟩ := k3.at_ (a, r ++ [.c m]) (by simp)
  have l3 := k3.ls
  have k4 := k3.drop
  obtain ⟨h3, eh3⟩ : ∃ g, g = h2.set 0 (rdo t (i + 1 + 1)) := ⟨_, rfl⟩
  simp only [List.length_cons, List.length_nil, ← eh3] at n2 k3 a3 l3 k4
  have a4 : (h3.set 2 (Obj.list (rws (Rs ++ [(a', r')]))))[a]? = some (.list (kvs (r ++ [.c m]))) := by rw [get_set, if_neg (by omega)]; exact a3
  have l4 := k4.ls
  obtain ⟨a4', _, _⟩ := k4.at_ (a', r') (by simp)
  have k5 := k4.add (joinK r (.c m))
  obtain ⟨h4, eh4⟩ : ∃ g, g = h3.set 2 (Obj.list (rws (Rs ++ [(a', r')]))) := ⟨_, rfl⟩
  simp only [← eh4] at a4 l4 k4 a4' k5
  have j4 := s_joined (n := n + 1) (s := ⟨h4, d, sc⟩) (a := a) (ls := r) (k := .c m) (by omega) a4
  obtain ⟨h5, eh5⟩ : ∃ g, g = h4.set a' (Obj.list (kvs (r' ++ [joinK r (.c m)]))) := ⟨_, rfl⟩
  simp only [← eh5] at k5
  have n5 := s_need (n := n + 1) (s := ⟨h5, d, sc⟩) (a := 0) (t := t) (i := i + 1 + 1) (cs := [32, 62, 32]) (r := rest) (by omega) k5.rd hi2 e2
  have k6 := k5.move (j := i + 1 + 1 + 3)
  have r5 := k5.rd
  simp only [rdo] at r2 r5
  simp only [e1, List.take_succ_cons, List.take_zero] at s2
  simp only [List.length_cons, List.length_nil] at n5
  have hL2 := atI_last (rws (Rs ++ [(a', r')])) (.r a)
  have hL4 := atI_last (rws Rs) (.r a')
  have hlen : (kvs (r ++ [.c m])).length = r.length + 1 := by simp -dsimp [kvs]
  have hpos : 0 < r.length := List.length_pos_iff.mpr h0
  have hk' : (kvs r').length < 16777216 := by simp -dsimp [kvs]; omega
  simp only [kvs_app] at eh5
  simp only [rws, List.map_append, List.map_cons, List.map_nil, List.append_assoc, List.cons_append, List.nil_append] at l2 l3 l4 hL2 hL4 eh4
  refine ⟨_, some (.p (joinK r (.c m)).v), whl_next rfl (kin_more hn k x) (Eq.trans q ?_), k6⟩
  have hd : (Rs.map (fun q => Val.r q.1) ++ [Val.r a', Val.r a]).dropLast = Rs.map (fun q => Val.r q.1) ++ [Val.r a'] := by
    rw [show Rs.map (fun q => Val.r q.1) ++ [Val.r a', Val.r a] = (Rs.map (fun q => Val.r q.1) ++ [Val.r a']) ++ [Val.r a] by simp]
    rw [List.dropLast_concat]
  have c1 : (1 : Int) < (Rs.length : Int) + 2 := by omega
  have c2 : (1 : Int) < (r.length : Int) + 1 := by omega
  simp -dsimp [whlB, w_kind_in_1, isOf, r2, s2, l2, cmpV, cmpP, PV.dep, PV.eq, biV, lenV, idxV, hL2, a2, hlen, c1, c2, n2, l3, bmTag, bmV, hd, setO, ← eh4, j4, l4, hL4, a4', hk', ← eh5, r5, n5]
theorem Kd.lets_pos (k : Kd) : 0 < k.lets := by
  have h1 := k.sz_lets
  omega
theorem joinK_app (r : List Kd) (x k : Kd) : joinK (r ++ [x]) k = joinK r (.f x k) := by simp -dsimp [joinK]
def KDone (n : Nat) (d : Option Hand) (sc : List Int) (t : List Nat) (Rs : List (Nat × List Kd)) (a : Nat) (r : List Kd) (k : Kd) (i : Nat) (rest : List Nat) (h : List Obj) (x : Option Val) : Prop :=
  (Rs = [] → rest.head? ≠ some 32 → ∃ h2 r2, ex (CN prog n) w_kind_in_1 [some (.r 0), some (.r 2), x] ⟨h, d, sc⟩ = .ret (.p (joinK r k).v) ⟨h2, d, sc⟩ ∧ KSt t (i + k.kt.length) h2 [(a, r2)]) ∧
  (∀ R' a' r' rest', Rs = R' ++ [(a', r')] → rest = 41 :: 32 :: 62 :: 32 :: rest' → r'.length ≤ 1000000 → (r ≠ [] ∨ k.isF = true) →
    ∃ h2 x2, ex (CN prog n) w_kind_in_1 [some (.r 0), some (.r 2), x] ⟨h, d, sc⟩ = ex (CN prog n) w_kind_in_1 [some (.r 0), some (.r 2), x2] ⟨h2, d, sc⟩ ∧ KSt t (i + k.kt.length + 4) h2 (R' ++ [(a', r' ++ [joinK r k])]))
theorem KDone.step {Rs : List (Nat × List Kd)} {a : Nat} {r r2 : List Kd} {k k2 : Kd} {i i2 : Nat} {rest : List Nat} {h h2 : List Obj} {x x2 : Option Val} (hd : KDone n d sc t Rs a r2 k2 i2 rest h2 x2) (he : ex (CN prog n) w_kind_in_1 [some (.r 0), some (.r 2), x] ⟨h, d, sc⟩ = ex (CN prog n) w_kind_in_1 [some (.r 0), some (.r 2), x2] ⟨h2, d, sc⟩)
    (hj : joinK r2 k2 = joinK r k) (hi : i2 + k2.kt.length = i + k.kt.length) (h0 : r2 ≠ []) : KDone n d sc t Rs a r k i rest h x := by
  obtain ⟨d1, d2⟩ := hd
  refine ⟨fun e hr => ?_, fun R' a' r' rest' e e2 hl _ => ?_⟩
  · obtain ⟨h3, r3, q, z⟩ := d1 e hr
    exact ⟨h3, r3, by rw [he, q, hj], by rw [← hi]; exact z⟩
  · obtain ⟨h3, x3, q, z⟩ := d2 R' a' r' rest' e e2 hl (.inl h0)
    exact ⟨h3, x3, by rw [he, q], by rw [← hi, ← hj]; exact z⟩
theorem kin_all (hn : 4 ≤ n) (k : Kd) : ∀ {i : Nat} {h : List Obj} {Rs : List (Nat × List Kd)} {a : Nat} {r : List Kd} {rest : List Nat} (x : Option Val), KSt t i h (Rs ++ [(a, r)]) → t.drop i = k.kt ++ rest → r.length + k.lets ≤ 1000000 → Rs.length + k.lets ≤ 1000000 → KDone n d sc t Rs a r k i rest h x := by
  intro i h Rs a r rest x ks e hl hR
  match k with
  | .c m =>
    have e : t.drop i = (97 + m.val) :: rest := e
    refine ⟨fun e1 hr => ?_, fun R' a' r' rest' e1 e2 hl' hF => ?_⟩
    · subst e1
      obtain ⟨h2, q, z⟩ := kin_end (n := n) (d := d) (sc := sc) hn ks e hr (by omega) x
      exact ⟨h2, _, q, z⟩
    · subst e1 e2
      exact kin_pop (n := n) (d := d) (sc := sc) hn ks e (by simpa [Kd.isF] using hF) (by omega) hl' x
  | .f (.c m) b =>
    simp only [Kd.lets] at hl hR
    have hb := b.lets_pos
    have e : t.drop i = (97 + m.val) :: 32 :: 62 :: 32 :: (b.kt ++ rest) := e
    obtain ⟨h2, q, z⟩ := kin_on (n := n) (d := d) (sc := sc) hn ks e (by omega) x
    have e2 : t.drop (i + 4) = b.kt ++ rest := drop_more (a := [97 + m.val, 32, 62, 32]) e
    have ih := kin_all hn b x z e2 (by simp; omega) (by omega)
    exact ih.step q (joinK_app _ _ _) (by simp -dsimp [Kd.kt]; omega) (by simp)
  | .f (.f u w) b =>
    simp only [Kd.lets] at hl hR
    have hb := b.lets_pos
    have hu := u.lets_pos
    have e : t.drop i = 40 :: ((Kd.f u w).kt ++ 41 :: 32 :: 62 :: 32 :: (b.kt ++ rest)) := by rw [e]; simp -dsimp [Kd.kt]
    obtain ⟨e1, hlt⟩ := drop_tail e
    obtain ⟨h2, q, z⟩ := kin_open (n := n) (d := d) (sc := sc) hn ks (by omega) e (by omega) x
    have ih1 := kin_all hn (.f u w) x z e1 (by simp -dsimp [Kd.lets]; omega) (by simp -dsimp [Kd.lets]; omega)
    obtain ⟨h3, x3, q3, z3⟩ := ih1.2 Rs a r (b.kt ++ rest) rfl rfl (by omega) (.inr rfl)
    have e3 : t.drop (i + 1 + (Kd.f u w).kt.length + 4) = b.kt ++ rest := by
      have := drop_more e1
      exact drop_more (a := [41, 32, 62, 32]) this
    have ih2 := kin_all hn b x3 z3 e3 (by simp; omega) (by omega)
    refine ih2.step (q.trans q3) (by rw [joinK_app]; rfl) (by simp -dsimp [Kd.kt]; omega) (by simp)
termination_by k.sz
decreasing_by all_goals simp -dsimp [Kd.sz] <;> omega
end
theorem s_kin {n : Nat} {s : S} {a : Nat} {t : List Nat} {i : Nat} {k : Kd} {rest : List Nat} (hn : 6 ≤ n) (ho : s.h[a]? = some (rdo t i)) (hi : i ≤ t.length) (hd : t.drop i = k.kt ++ rest) (hr : rest.head? ≠ some 32) (hk : k.lets ≤ 900000) :
    FN prog n F_kind_in [.r a] s = .ok (.p k.v) ⟨s.h.set a (rdo t (i + k.kt.length)), s.d, s.sc⟩ := by
  have k0 : KSt t i [rdo t i, .list [], .list [.r 1]] [(1, [])] := ⟨rfl, rfl, by simp, fun q hq => by simp at hq; subst hq; exact ⟨rfl, by decide, by decide⟩⟩
  obtain ⟨h2, r2, q, z⟩ := (kin_all (n := n - 2) (d := s.d) (sc := s.sc) (by omega) k (Rs := []) none k0 hd (by simp; omega) (by simp; omega)).1 rfl hr
  obtain ⟨hh, ht, rfl⟩ : ∃ o l, h2 = o :: l := by
    cases h2 with
    | nil => have := z.rd; simp at this
    | cons o l => exact ⟨_, _, rfl⟩
  have z0 := z.rd
  simp only [List.getElem?_cons_zero, Option.some.injEq] at z0
  subst z0
  refine callP1 (o := rdo t i) (o' := rdo t (i + k.kt.length)) (h := ht) (sc := s.sc) (by omega) ho rfl rfl rfl rfl rfl rfl rfl ?_
  simp -dsimp [m_kind_in, refs, renum, new, q, joinK]
theorem kt_pos (k : Kd) : k.kt ≠ [] := by
  match k with
  | .c _ => simp -dsimp [Kd.kt]
  | .f (.c _) _ => simp -dsimp [Kd.kt]
  | .f (.f _ _) _ => simp -dsimp [Kd.kt]
theorem s_whole_kind {n : Nat} {s : S} {k : Kd} (hn : 9 ≤ n) (hk : k.lets ≤ 900000) : FN prog n F_whole_kind [.p (.str k.kt)] s = .ok (.p k.v) s := by
  refine callQ (h := [rdo k.kt k.kt.length]) (sc := s.sc) (by omega) rfl rfl rfl rfl rfl ?_
  have h1 := fun s => s_init (n := n - 2) (s := s) (t := k.kt) (by omega)
  have h2 := s_kin (n := n - 2 + 1) (s := ⟨[rdo k.kt 0], s.d, s.sc⟩) (a := 0) (t := k.kt) (i := 0) (k := k) (rest := []) (by omega) rfl (by omega) (by simp) (by simp) hk
  have h3 := s_finish (n := n - 2 + 1) (s := ⟨[rdo k.kt k.kt.length], s.d, s.sc⟩) (a := 0) (by omega) rfl rfl
  simp only [Nat.zero_add, List.set_cons_zero] at h2
  simp -dsimp [m_whole_kind, h1, h2, isOf, show ∀ i, rdo k.kt i = .inst 4 [(1, .p (.str k.kt)), (0, .p (.int i))] from fun _ => rfl] at h1 h2 h3 ⊢
  simp -dsimp [h1, h2, h3, isOf]
theorem s_read_kind {n : Nat} {s : S} {k : Kd} (hn : 11 ≤ n) (hk : k.th) : FN prog n F_read_kind [.p (.str k.kt)] s = .ok (.p k.v) s := by
  have h0 := hk.1
  refine callQ (h := []) (sc := s.sc) (by omega) rfl rfl rfl rfl rfl ?_
  have h1 := fun s => s_whole_kind (n := n - 2 + 1) (s := s) (k := k) (by omega) (by omega)
  have h2 := fun s => s_there (n := n - 2 + 1) (s := s) (k := k) (by omega) hk
  simp -dsimp [m_read_kind, h1, h2, truth, PV.truth]
end U
/-! Pl6: programs looked at. -/
namespace U
structure Nm where
  s : List Nat
  h1 : 1 ≤ s.length
  h8 : s.length ≤ 8
  hs : ∀ c ∈ s, isSm c = true
inductive Wrd where
  | us | nm (x : Nm) | tk (x : Nm) (k : Kd)
def Wrd.v : Wrd → PV
  | .us => .str [64]
  | .nm x => .str x.s
  | .tk x k => .tup [.str x.s, k.v]
inductive Pg where
  | nm (x : Nm) | tk (x : Nm) (k : Kd) (b : Pg) | us (f a : Pg)
def Pg.ws : Pg → List Wrd
  | .nm x => [.nm x]
  | .tk x k b => .tk x k :: b.ws
  | .us f a => .us :: (f.ws ++ a.ws)
def Pg.th : Pg → Prop
  | .nm _ => True
  | .tk _ k b => k.th ∧ b.th
  | .us f a => f.th ∧ a.th
def Wrd.th : Wrd → Prop
  | .tk _ k => k.th
  | _ => True
theorem Pg.th_ws : ∀ p : Pg, p.th → ∀ w ∈ p.ws, w.th
  | .nm x, _, w, h => by simp -dsimp [Pg.ws] at h; subst h; trivial
  | .tk x k b, ⟨h1, h2⟩, w, h => by
    simp -dsimp [Pg.ws] at h
    rcases h with rfl | h
    · exact h1
    · exact b.th_ws h2 w h
  | .us f a, ⟨h1, h2⟩, w, h => by
    simp -dsimp [Pg.ws] at h
    rcases h with rfl | h | h
    · trivial
    · exact f.th_ws h1 w h
    · exact a.th_ws h2 w h
def wv (w : Wrd) : Val := .p w.v
theorem Kd.v_dep : ∀ k : Kd, k.v.dep = k.dep
  | .c _ => rfl
  | .f a b => by simp -dsimp [Kd.v, PV.dep, PV.deps, Kd.dep, a.v_dep, b.v_dep]
theorem Wrd.v_dep {w : Wrd} (h : w.th) : w.v.dep ≤ 31 := by
  cases w with
  | us => simp -dsimp [Wrd.v, PV.dep]
  | nm x => simp -dsimp [Wrd.v, PV.dep]
  | tk x k => have := h.2; have e := k.v_dep; simp -dsimp [Wrd.v, PV.dep, PV.deps, e]; omega
theorem nm_ne_us (x : Nm) : (x.s == [64]) = false := by
  rw [beq_eq_false_iff_ne]
  intro e
  have := x.hs 64 (by rw [e]; simp)
  simp -dsimp [isSm] at this
theorem s_is_name {n : Nat} {s : S} (x : Nm) (hn : 2 ≤ n) : FN prog n F_is_name [.p (.str x.s)] s = .ok (.p (.bool true)) s := by
  refine callQ (h := []) (sc := s.sc) (by omega) rfl rfl rfl rfl rfl ?_
  have h1 := x.h1
  have h8 := x.h8
  have c1 : (1 : Int) ≤ (x.s.length : Int) := by omega
  have c2 : (x.s.length : Int) ≤ 8 := by omega
  have hc := comp_all (C := CN prog (n - 2)) (L := c_is_name_0) (env := [some (.p (.str x.s)), none]) (s := ⟨[], s.d, s.sc⟩) (s1 := ⟨[], s.d, s.sc⟩) (xs := x.s.map fun c => .p (.str [c])) (g := []) (fun _ => .p (.bool true)) rfl (by simp -dsimp [cI, c_is_name_0, itemsOf, guardOf]) (by simp; omega) rfl (fun v hv => by
    obtain ⟨c, hc, rfl⟩ := List.mem_map.mp hv
    have h2 := in_small c
    refine ⟨_, rfl, by simp -dsimp [cC, c_is_name_0], ?_⟩
    simp only [cE, c_is_name_0, cT, Tg.slots, wipeE, evq_cmp, ev_var, ev_lit, R.bd_ok, List.set_cons_succ, List.set_cons_zero, List.getElem?_cons_succ, List.getElem?_cons_zero, optB_some, h2, x.hs c hc])
  simp only [List.map_map] at hc
  have hl := fun s => lb_all x.s s
  simp only [Function.comp_def] at hc
  simp -dsimp [m_is_name, isiAny, isiV, tyP, biV, lenV, cmpV, cmpP, c1, c2, hc, hl]
theorem s_is_take {n : Nat} {s : S} (w : Wrd) (hn : 2 ≤ n) : FN prog n F_is_take [wv w] s = .ok (.p (.bool (match w with | .tk _ _ => true | _ => false))) s := by
  refine callQ (h := []) (sc := s.sc) (by omega) rfl rfl (by cases w <;> rfl) rfl rfl ?_
  cases w <;> simp -dsimp [m_is_take, isiAny, isiV, tyP, wv, Wrd.v]
theorem s_is_word {n : Nat} {s : S} {w : Wrd} (hw : w.th) (hn : 7 ≤ n) : FN prog n F_is_word [wv w] s = .ok (.p (.bool true)) s := by
  refine callQ (h := []) (sc := s.sc) (by omega) rfl rfl (by cases w <;> rfl) rfl rfl ?_
  have h1 := fun s => s_is_pair (n := n - 2 + 1) (s := s) (v := w.v) (by omega)
  cases w with
  | us => 
    simp only [Wrd.v] at h1
    simp -dsimp [m_is_word, isiAny, isiV, tyP, wv, Wrd.v, h1, truth, PV.truth, cmpV, cmpP, PV.dep, PV.eq]
  | nm x =>
    simp only [Wrd.v] at h1
    have h2 := fun s => s_is_name (n := n - 2 + 1) (s := s) x (by omega)
    simp -dsimp [m_is_word, isiAny, isiV, tyP, wv, Wrd.v, h1, truth, PV.truth, cmpV, cmpP, PV.dep, PV.eq, nm_ne_us, h2]
  | tk x k =>
    simp only [Wrd.v] at h1
    have h2 := fun s => s_is_name (n := n - 2 + 1) (s := s) x (by omega)
    have h3 := fun s => s_anysize (n := n - 2 + 1) (s := s) (k := k) (by omega) hw.sz
    simp -dsimp [m_is_word, wv, Wrd.v, h1, truth, PV.truth, idxV, atI, ixN, h2, h3]
theorem l_whole {n : Nat} (hn : 2 ≤ n) {v : Option Val} {s : S} {g : List (Nat × List Val)} (hg : still s g = true) : ∀ (p : Pg), p.th → ∀ (rest : List Val) (m : Nat) (x0 : Option Val),
    ∃ x1, forS (CN prog n) g (forT w_is_whole_0) (forB w_is_whole_0) ((p.ws.map wv).reverse ++ rest) [v, some (.p (.int m)), x0] s = forS (CN prog n) g (forT w_is_whole_0) (forB w_is_whole_0) rest [v, some (.p (.int (m + 1 : Nat))), x1] s
  | .nm x, _, rest, m, x0 => by
    refine ⟨some (wv (.nm x)), for_cons hg rfl ?_⟩
    have h1 := fun s => s_is_take (n := n + 1) (s := s) (.nm x) (by omega)
    have c1 : ¬ ((m : Int) + 1 < 1) := by omega
    simp only [wv] at h1
    simp -dsimp [forB, forT, w_is_whole_0, wv, h1, truth, PV.truth]
    simp -dsimp [Wrd.v, cmpV, cmpP, PV.dep, PV.eq, nm_ne_us, augop, c1]
  | .tk x k b, ht, rest, m, x0 => by
    obtain ⟨x1, h⟩ := l_whole hn (v := v) hg b ht.2 (wv (.tk x k) :: rest) m x0
    refine ⟨some (wv (.tk x k)), ?_⟩
    have h1 := fun s => s_is_take (n := n + 1) (s := s) (.tk x k) (by omega)
    have c1 : ¬ ((m : Int) + 1 < 1) := by omega
    simp only [wv] at h1
    simp only [Pg.ws, List.map_cons, List.reverse_cons, List.append_assoc, List.cons_append, List.nil_append]
    refine h.trans (for_cons hg rfl ?_)
    simp -dsimp [forB, forT, w_is_whole_0, wv, h1, truth, PV.truth, cmpV, cmpP, c1]
  | .us f a, ht, rest, m, x0 => by
    obtain ⟨x1, h1⟩ := l_whole hn (v := v) hg a ht.2 ((f.ws.map wv).reverse ++ wv .us :: rest) m x0
    obtain ⟨x2, h2⟩ := l_whole hn (v := v) hg f ht.1 (wv .us :: rest) (m + 1) x1
    refine ⟨some (wv .us), ?_⟩
    have h3 := fun s => s_is_take (n := n + 1) (s := s) .us (by omega)
    have c1 : ¬ ((m : Int) + 1 < 1) := by omega
    have c2 : (m : Int) + 1 + 1 + -1 = (m : Int) + 1 := by omega
    simp only [wv] at h3
    simp only [Pg.ws, List.map_cons, List.map_append, List.reverse_cons, List.reverse_append, List.append_assoc, List.cons_append, List.nil_append]
    refine h1.trans (h2.trans (for_cons hg rfl ?_))
    simp -dsimp [forB, forT, w_is_whole_0, wv, h3, truth, PV.truth]
    simp -dsimp [Wrd.v, cmpV, cmpP, PV.dep, PV.eq, augop, c2, c1]
def Pg.v (p : Pg) : PV := .tup (p.ws.map Wrd.v)
theorem Pg.v_items (p : Pg) : (p.ws.map Wrd.v).map Val.p = p.ws.map wv := by simp -dsimp [wv]
theorem s_is_whole {n : Nat} {s : S} {p : Pg} (hp : p.th) (hn : 4 ≤ n) : FN prog n F_is_whole [.p p.v] s = .ok (.p (.bool true)) s := by
  refine callQ (h := []) (sc := s.sc) (by omega) rfl rfl rfl rfl rfl ?_
  obtain ⟨x1, h⟩ := l_whole (n := n - 2) (by omega) (v := some (.p p.v)) (s := ⟨[], s.d, s.sc⟩) (g := []) rfl p hp [] 0 none
  rw [List.append_nil, for_nil rfl] at h
  have h := for_start (s := ⟨[], s.d, s.sc⟩) (env := [some (.p p.v), some (.p (.int (0 : Nat))), none]) rfl (by simp -dsimp [forI, w_is_whole_0, Pg.v, revV, itemsOf, guardOf, wv]) h
  simp at h
  simp -dsimp [m_is_whole, h, cmpV, cmpP, PV.dep, PV.eq]
theorem Pg.ws_pos : ∀ p : Pg, 0 < p.ws.length
  | .nm _ => by simp -dsimp [Pg.ws]
  | .tk _ _ _ => by simp -dsimp [Pg.ws]
  | .us _ _ => by simp -dsimp [Pg.ws]
theorem l_words {n : Nat} (hn : 6 ≤ n) {L : Le} (hL : L = .comp (.var 1) (.ex (.var 0)) .no (.call F_is_word (.cons (.var 1) .nil))) {p : Pg} (hp : p.th) (hl : p.ws.length ≤ 400) {s : S} {x0 : Option Val} : evL (CN prog n) L [some (.p p.v), x0] s = .ok (p.ws.map fun _ => .p (.bool true)) s := by
  have hc := comp_all (C := CN prog n) (L := L) (env := [some (.p p.v), x0]) (s := s) (s1 := s) (xs := p.ws.map wv) (g := []) (fun _ => .p (.bool true)) (by rw [hL]; rfl) (by rw [hL]; simp -dsimp [cI, itemsOf, guardOf, Pg.v, wv]) (by simp; omega) rfl (fun v hv => by
    obtain ⟨w, hw, rfl⟩ := List.mem_map.mp hv
    have h2 := s_is_word (n := n + 1) (s := s) (p.th_ws hp w hw) (by omega)
    subst hL
    refine ⟨_, rfl, by simp -dsimp [cC], ?_⟩
    simp -dsimp [cE, cT, Tg.slots, wipeE, h2])
  rw [hc]; simp -dsimp [List.map_map, Function.comp_def]
theorem s_program_there {n : Nat} {s : S} {p : Pg} (hp : p.th) (hl : p.ws.length ≤ 400) (hn : 9 ≤ n) : FN prog n F_is_program_there [.p p.v] s = .ok (.p (.bool true)) s := by
  refine callQ (h := []) (sc := s.sc) (by omega) rfl rfl rfl rfl rfl ?_
  have h1 := fun s => l_words (n := n - 2) (by omega) (L := c_is_program_there_1) rfl hp hl (s := s) (x0 := none)
  have h2 := fun s => s_is_whole (n := n - 2 + 1) (s := s) hp (by omega)
  have h3 := fun s => lb_all p.ws s
  have h4 := p.ws_pos
  have c1 : (1 : Int) ≤ (p.ws.length : Int) := by omega
  have c2 : (p.ws.length : Int) ≤ 400 := by omega
  have hc := comp_start (C := CN prog (n - 2)) (L := c_is_program_there_0) (env := [some (.p p.v), none]) (s := ⟨[], s.d, s.sc⟩) (s1 := ⟨[], s.d, s.sc⟩) (xs := p.ws.map wv) (g := []) (fun _ => .p (.bool true)) (fun v => match v with | .p (.tup _) => true | _ => false) rfl (by simp -dsimp [cI, c_is_program_there_0, itemsOf, guardOf, Pg.v, wv]) (by simp; omega) rfl (fun v hv => by
    obtain ⟨w, hw, rfl⟩ := List.mem_map.mp hv
    have h2 := fun s => s_is_take (n := n - 2 + 1) (s := s) w (by omega)
    have h3 := p.th_ws hp w hw
    refine ⟨_, rfl, ?_, fun hq => ?_⟩
    · simp -dsimp [cC, cT, c_is_program_there_0, Tg.slots, wipeE, h2, truth, PV.truth]
      cases w <;> rfl
    · cases w with
      | tk x k =>
        have h4 := fun s => s_there (n := n - 2 + 1) (s := s) (k := k) (by omega) h3
        simp -dsimp [cE, cT, c_is_program_there_0, Tg.slots, wipeE, wv, Wrd.v, idxV, atI, ixN, h4]
      | us => simp -dsimp [wv, Wrd.v] at hq
      | nm x => simp -dsimp [wv, Wrd.v] at hq)
  have h6 := fun (xs : List Val) s => lb_all xs s
  simp only [Pg.v] at h1 h2 hc
  simp -dsimp [m_is_program_there, Pg.v, isiAny, isiV, tyP, biV, lenV, cmpV, cmpP, c1, c2, h1, h2, h3, truth, PV.truth]
  rw [hc]
  simp -dsimp [h6]
end U
/-! Pl7: programs written. -/
namespace U
def Pg.pt : Pg → List Nat
  | .nm x => x.s
  | .tk x k b => 91 :: (x.s ++ 58 :: (k.kt ++ 93 :: 32 :: b.pt))
  | .us f a => 40 :: (f.pt ++ 32 :: (a.pt ++ [41]))
theorem Pg.pt_len : ∀ p : Pg, p.th → p.pt.length ≤ 400 * p.ws.length
  | .nm x, _ => by have := x.h8; simp -dsimp [Pg.pt, Pg.ws]; omega
  | .tk x k b, ⟨h1, h2⟩ => by have := x.h8; have := k.kt_len; have := h1.1; have := b.pt_len h2; simp -dsimp [Pg.pt, Pg.ws]; omega
  | .us f a, ⟨h1, h2⟩ => by have := f.pt_len h1; have := a.pt_len h2; simp -dsimp [Pg.pt, Pg.ws]; omega
def stkB : List Bool → List Val
  | [] => []
  | b :: W => stkB W ++ [.p (.str [if b then 41 else 32])]
def clo : List Bool → List Nat × List Bool
  | [] => ([], [])
  | true :: W => (41 :: (clo W).1, (clo W).2)
  | false :: W => ([32], true :: W)
theorem stkB_len : ∀ W, (stkB W).length = W.length
  | [] => rfl
  | b :: W => by simp -dsimp [stkB, stkB_len W]
theorem sts_app (fs : List (List Nat)) (x : List Nat) : sts (fs ++ [x]) = sts fs ++ [.p (.str x)] := by simp -dsimp [sts]
theorem sts_len (fs : List (List Nat)) : (sts fs).length = fs.length := by simp -dsimp [sts]
theorem clo_split : ∀ W : List Bool, ∃ j Wr, W = List.replicate j true ++ Wr ∧ (Wr = [] ∨ ∃ W', Wr = false :: W')
  | [] => ⟨0, [], rfl, .inl rfl⟩
  | false :: W => ⟨0, false :: W, rfl, .inr ⟨W, rfl⟩⟩
  | true :: W => by
    obtain ⟨j, Wr, e, h⟩ := clo_split W
    exact ⟨j + 1, Wr, by rw [e]; rfl, h⟩
theorem clo_rep (Wr : List Bool) : ∀ j, clo (List.replicate j true ++ Wr) = (List.replicate j 41 ++ (clo Wr).1, (clo Wr).2)
  | 0 => rfl
  | j + 1 => by simp -dsimp [List.replicate_succ, clo, clo_rep Wr j]
section
variable {n : Nat} {d : Option Hand} {sc : List Int}
end
end U
/-! Pl8: programs read. -/
namespace U
def tlWP : Bk := .cons w_whole_program_0 (.cons (.asg (.var 4) (.cmp .gt (.bi .len (.cons (.var 3) .nil)) (.lit (.int 0)))) (.cons (.ite (.var 4) (.cons (.ex (.meth 4 F_Reader_need (.var 1) (.cons (.bm .pop (.var 3) .nil) .nil))) (.cons (.ex (.bm .append (.var 3) (.cons (.lit (.str [41])) .nil))) .nil)) .nil) .nil))
theorem whlB_wp : whlB w_whole_program_1 = (.cons (.ite (.cmp .eq (.meth 4 F_Reader_sign (.var 1) .nil) (.lit (.str [40]))) (.cons (.ex (.meth 4 F_Reader_need (.var 1) (.cons (.lit (.str [40])) .nil))) (.cons (.ex (.bm .append (.var 2) (.cons (.lit (.str [64])) .nil))) (.cons (.ex (.bm .append (.var 3) (.cons (.lit (.str [32])) .nil))) .nil)))
  (.cons (.ite (.cmp .eq (.meth 4 F_Reader_sign (.var 1) .nil) (.lit (.str [91]))) (.cons (.ex (.meth 4 F_Reader_need (.var 1) (.cons (.lit (.str [91])) .nil))) (.cons (.asg (.var 5) (.meth 4 F_Reader_name (.var 1) .nil)) (.cons (.ex (.meth 4 F_Reader_need (.var 1) (.cons (.lit (.str [58])) .nil))) (.cons (.ex (.bm .append (.var 2) (.cons (.tup (.cons (.var 5) (.cons (.call F_kind_in (.cons (.var 1) .nil)) .nil))) .nil))) (.cons (.ex (.meth 4 F_Reader_need (.var 1) (.cons (.lit (.str [93, 32])) .nil))) .nil)))))
    (.cons (.ex (.bm .append (.var 2) (.cons (.meth 4 F_Reader_name (.var 1) .nil) .nil))) tlWP)) .nil)) .nil) := rfl
section
variable {n : Nat} {d : Option Hand} {sc : List Int} {t : List Nat} {v x o : Option Val}
abbrev pst (t : List Nat) (i : Nat) (F : List Wrd) (W : List Bool) (d : Option Hand) (sc : List Int) : S := ⟨[rdo t i, .list (F.map wv), .list (stkB W)], d, sc⟩
theorem r_close (hn : 4 ≤ n) {F : List Wrd} {Wr : List Bool} (hW : Wr = [] ∨ ∃ W', Wr = false :: W') : ∀ (j i : Nat) (rest : List Nat), t.drop i = List.replicate j 41 ++ rest → i ≤ t.length →
    ex (CN prog n) w_whole_program_0 [v, some (.r 0), some (.r 1), some (.r 2), o, x] (pst t i F (List.replicate j true ++ Wr) d sc) = .next [v, some (.r 0), some (.r 1), some (.r 2), o, x] (pst t (i + j) F Wr d sc)
  | 0, i, rest, hd, hi => by
    refine whl_done rfl ?_
    rcases hW with rfl | ⟨W', rfl⟩
    · simp -dsimp [whlC, w_whole_program_0, biV, lenV, cmpV, cmpP, stkB]
    · have hL := atI_last (stkB W') (.p (.str [32]))
      simp -dsimp [whlC, w_whole_program_0, biV, lenV, cmpV, cmpP, stkB, idxV, hL, PV.dep, PV.eq]
  | j + 1, i, rest, hd, hi => by
    have hd : t.drop i = [41] ++ (List.replicate j 41 ++ rest) := hd
    have hd1 := drop_more hd
    have hi1 := drop_le hd (by simp)
    simp only [List.length_cons, List.length_nil] at hd1 hi1
    have ih := r_close hn (F := F) hW j (i + 1) rest hd1 hi1
    rw [show i + (j + 1) = i + 1 + j by omega, ← ih, List.replicate_succ, List.cons_append]
    have hL := atI_last (stkB (List.replicate j true ++ Wr)) (.p (.str [41]))
    have h3 := s_need (n := n + 1) (s := pst t i F (List.replicate j true ++ Wr) d sc) (a := 0) (t := t) (i := i) (cs := [41]) (by omega) rfl hi hd
    simp only [rdo, pst, List.set_cons_zero, List.length_cons, List.length_nil] at h3
    refine whl_next (s1 := pst t i F (true :: (List.replicate j true ++ Wr)) d sc) rfl ?_ ?_
    · simp -dsimp [whlC, w_whole_program_0, biV, lenV, cmpV, cmpP, stkB, idxV, hL, PV.dep, PV.eq]
    · simp -dsimp [whlB, w_whole_program_0, bmTag, bmV, setO, stkB, isOf, pst, rdo, h3]
theorem r_after (hn : 4 ≤ n) (F : List Wrd) (W : List Bool) (i : Nat) (rest : List Nat) (hd : t.drop i = (clo W).1 ++ rest) (hi : i ≤ t.length) (hl : W.length ≤ 100000) :
    exs (CN prog n) tlWP [v, some (.r 0), some (.r 1), some (.r 2), o, x] (pst t i F W d sc) = .next [v, some (.r 0), some (.r 1), some (.r 2), some (.p (.bool (!(clo W).2.isEmpty))), x] (pst t (i + (clo W).1.length) F (clo W).2 d sc) := by
  unfold tlWP
  obtain ⟨j, Wr, rfl, hW⟩ := clo_split W
  rw [clo_rep] at hd ⊢
  simp only [List.append_assoc] at hd
  have hc := r_close (n := n) (d := d) (sc := sc) (v := v) (x := x) (o := o) (F := F) hn hW j i _ hd hi
  have hd1 := drop_more hd
  have hi1 : i + j ≤ t.length := by have := congrArg List.length hd; simp at this; omega
  simp only [List.length_replicate] at hd1
  rcases hW with rfl | ⟨W', rfl⟩
  · simp at hc
    simp -dsimp [hc, biV, lenV, cmpV, cmpP, stkB, clo, truth, PV.truth]
  · simp at hl
    have hb2 := bnd (m := W'.length) (by omega)
    have h3 := s_need (n := n + 1) (s := pst t (i + j) F W' d sc) (a := 0) (t := t) (i := i + j) (cs := [32]) (by omega) rfl hi1 hd1
    simp only [rdo, pst, List.set_cons_zero, List.length_cons, List.length_nil] at h3
    simp only [rdo, pst] at hc
    simp at h3
    simp -dsimp [hc, pst, rdo, biV, lenV, cmpV, cmpP, stkB, clo, truth, PV.truth, bmTag, bmV, setO, hb2, stkB_len, isOf, h3, Int.add_assoc]
theorem smH_40 (r : List Nat) : smH (40 :: r) = false := rfl
theorem nm_head (y : Nm) : ∃ c r, y.s = c :: r ∧ c ≠ 40 ∧ c ≠ 91 := by
  cases e : y.s with
  | nil => have := y.h1; rw [e] at this; simp at this
  | cons c r =>
    have := y.hs c (by rw [e]; simp)
    simp -dsimp [isSm] at this
    exact ⟨c, r, rfl, by omega, by omega⟩
theorem r_all (hn : 7 ≤ n) : ∀ (p : Pg), p.th → ∀ (W : List Bool) (F : List Wrd) (i : Nat) (rest : List Nat) (x0 : Option Val), t.drop i = p.pt ++ ((clo W).1 ++ rest) → smH ((clo W).1 ++ rest) = false → i ≤ t.length → W.length + p.ws.length ≤ 1000 → F.length + p.ws.length ≤ 1000 →
    ∃ x1, ex (CN prog n) w_whole_program_1 [v, some (.r 0), some (.r 1), some (.r 2), some (.p (.bool true)), x0] (pst t i F W d sc) =
      ex (CN prog n) w_whole_program_1 [v, some (.r 0), some (.r 1), some (.r 2), some (.p (.bool (!(clo W).2.isEmpty))), x1] (pst t (i + p.pt.length + (clo W).1.length) (F ++ p.ws) (clo W).2 d sc)
  | .nm y, _, W, F, i, rest, x0, hd, hs, hi, hw, hf => by
    simp only [Pg.pt] at hd
    simp -dsimp [Pg.ws] at hw hf
    obtain ⟨c, r, ec, c1, c2⟩ := nm_head y
    have hd1 := drop_more hd
    have hi1 := drop_le hd (by rw [ec]; simp)
    have h1 := s_sign (n := n + 1) (s := pst t i F W d sc) (a := 0) (t := t) (i := i) (by omega) rfl hi
    have h2 := s_name (n := n + 1) (s := pst t i F W d sc) (a := 0) (t := t) (i := i) (cs := y.s) (by omega) rfl hi hd y.hs y.h1 y.h8 (.inr hs)
    have h3 := r_after (n := n) (d := d) (sc := sc) (v := v) (x := x0) (o := some (.p (.bool true))) (by omega) (F ++ [.nm y]) W (i + y.s.length) rest hd1 hi1 (by omega)
    rw [hd, ec] at h1
    simp only [rdo, pst, List.set_cons_zero, List.cons_append, List.take_succ_cons, List.take_zero, List.map_append, List.map_cons, List.map_nil] at h1 h2 h3
    simp at h1 h2 h3
    have hb := bnd (m := F.length) (by omega)
    refine ⟨x0, whl_next (s1 := pst t i F W d sc) rfl (by simp -dsimp [whlC, w_whole_program_1, truth, PV.truth]) ?_⟩
    rw [whlB_wp]
    simp -dsimp [pst, rdo, isOf, h1, cmpV, cmpP, PV.dep, PV.eq, beq_eq_false_iff_ne.mpr c1, beq_eq_false_iff_ne.mpr c2, bmTag, h2, bmV, hb, setO]
    simp only [wv, Wrd.v] at h3 ⊢
    rw [h3]
    simp -dsimp [Pg.ws, Pg.pt, wv, Wrd.v]
  | .tk y k b, ht, W, F, i, rest, x0, hd, hs, hi, hw, hf => by
    simp -dsimp [Pg.ws] at hw hf
    have hd0 : t.drop i = [91] ++ (y.s ++ ([58] ++ (k.kt ++ ([93, 32] ++ (b.pt ++ ((clo W).1 ++ rest)))))) := by rw [hd]; simp -dsimp [Pg.pt]
    have hd1 := drop_more hd0
    have hd2 := drop_more hd1
    have hd3 := drop_more hd2
    have hd4 := drop_more hd3
    have hd5 := drop_more hd4
    have hi1 := drop_le hd0 (by simp)
    have hi2 := drop_le hd1 (by have := y.h1; intro e; rw [e] at this; simp at this)
    have hi3 := drop_le hd2 (by simp)
    have hi4 := drop_le hd3 (kt_pos k)
    have hi5 := drop_le hd4 (by simp)
    simp only [List.length_cons, List.length_nil, Nat.zero_add] at hd1 hd2 hd3 hd4 hd5 hi1 hi2 hi3 hi4 hi5
    obtain ⟨x1, ih⟩ := r_all hn b ht.2 W (F ++ [.tk y k]) _ rest (some (.p (.str y.s))) hd5 hs hi5 (by omega) (by simp; omega)
    refine ⟨x1, Eq.trans (whl_next (s1 := pst t i F W d sc) rfl (by simp -dsimp [whlC, w_whole_program_1, truth, PV.truth]) ?_) (ih.trans ?_)⟩
    · have h1 := s_sign (n := n + 1) (s := pst t i F W d sc) (a := 0) (t := t) (i := i) (by omega) rfl hi
      have n1 := s_need (n := n + 1) (s := pst t i F W d sc) (a := 0) (t := t) (i := i) (cs := [91]) (by omega) rfl hi hd0
      have n2 := s_name (n := n + 1) (s := pst t (i + 1) F W d sc) (a := 0) (t := t) (i := i + 1) (cs := y.s) (by omega) rfl hi1 hd1 y.hs y.h1 y.h8 (.inr rfl)
      have n3 := s_need (n := n + 1) (s := pst t (i + 1 + y.s.length) F W d sc) (a := 0) (t := t) (i := i + 1 + y.s.length) (cs := [58]) (by omega) rfl hi2 hd2
      have n4 := s_kin (n := n + 1) (s := pst t (i + 1 + y.s.length + 1) F W d sc) (a := 0) (t := t) (i := i + 1 + y.s.length + 1) (k := k) (by omega) rfl hi3 hd3 (by simp) (by have := ht.1.1; omega)
      have n5 := s_need (n := n + 1) (s := pst t (i + 1 + y.s.length + 1 + k.kt.length) (F ++ [.tk y k]) W d sc) (a := 0) (t := t) (i := i + 1 + y.s.length + 1 + k.kt.length) (cs := [93, 32]) (by omega) rfl hi4 hd4
      rw [hd0] at h1
      simp only [rdo, pst, List.set_cons_zero, List.cons_append, List.take_succ_cons, List.take_zero, List.map_append, List.map_cons, List.map_nil, List.length_cons, List.length_nil, Nat.zero_add] at h1 n1 n2 n3 n4 n5
      have hb := bnd (m := F.length) (by omega)
      rw [whlB_wp]
      have e1 : wv (.tk y k) = .p (.tup [.str y.s, k.v]) := rfl
      rw [e1] at n5
      generalize hz : i + 1 + y.s.length = z at *
      generalize hz2 : z + 1 + k.kt.length = z2 at *
      simp at h1 n1 n2 n3 n4 n5
      simp -dsimp [pst, rdo, isOf, h1, cmpV, cmpP, PV.dep, PV.eq, bmTag, n1, n2, n3, n4, n5, bmV, hb, setO, e1]
    · congr 2
      · simp -dsimp [Pg.pt]; omega
      · simp -dsimp [Pg.ws]
  | .us f a, ht, W, F, i, rest, x0, hd, hs, hi, hw, hf => by
    simp -dsimp [Pg.ws] at hw hf
    have hd0 : t.drop i = [40] ++ (f.pt ++ ((clo (false :: W)).1 ++ (a.pt ++ ((clo (true :: W)).1 ++ rest)))) := by rw [hd]; simp -dsimp [Pg.pt, clo]
    have hd1 := drop_more hd0
    have hi1 := drop_le hd0 (by simp)
    simp only [List.length_cons, List.length_nil, Nat.zero_add] at hd1 hi1
    obtain ⟨x1, ih1⟩ := r_all hn f ht.1 (false :: W) (F ++ [.us]) (i + 1) _ x0 hd1 rfl hi1 (by simp; omega) (by simp; omega)
    have hd2 := drop_more (drop_more hd1)
    have hi2 : i + 1 + f.pt.length + (clo (false :: W)).1.length ≤ t.length := by have := congrArg List.length hd1; simp at this; omega
    obtain ⟨x2, ih2⟩ := r_all hn a ht.2 (true :: W) (F ++ [.us] ++ f.ws) _ rest x1 hd2 rfl hi2 (by simp; omega) (by simp; omega)
    refine ⟨x2, Eq.trans (whl_next (s1 := pst t i F W d sc) rfl (by simp -dsimp [whlC, w_whole_program_1, truth, PV.truth]) ?_) (ih1.trans (ih2.trans ?_))⟩
    · have h1 := s_sign (n := n + 1) (s := pst t i F W d sc) (a := 0) (t := t) (i := i) (by omega) rfl hi
      have n1 := s_need (n := n + 1) (s := pst t i F W d sc) (a := 0) (t := t) (i := i) (cs := [40]) (by omega) rfl hi hd0
      rw [hd0] at h1
      simp only [rdo, pst, List.set_cons_zero, List.cons_append, List.take_succ_cons, List.take_zero, List.length_cons, List.length_nil, Nat.zero_add] at h1 n1
      have hb := bnd (m := F.length) (by omega)
      have hb2 := bnd (m := W.length) (by omega)
      rw [whlB_wp]
      have e1 : wv .us = .p (.str [64]) := rfl
      simp at h1 n1
      simp -dsimp [pst, rdo, isOf, h1, cmpV, cmpP, PV.dep, PV.eq, bmTag, n1, bmV, hb, hb2, setO, stkB, stkB_len, e1]
    · congr 2
      · simp -dsimp [Pg.pt, clo]; omega
      · simp -dsimp [Pg.ws]
end
theorem s_whole_program {n : Nat} {s : S} {p : Pg} (hp : p.th) (hl : p.ws.length ≤ 400) (hn : 10 ≤ n) : FN prog n F_whole_program [.p (.str p.pt)] s = .ok (.p p.v) s := by
  obtain ⟨x1, h⟩ := r_all (n := n - 2) (d := s.d) (sc := s.sc) (t := p.pt) (v := some (.p (.str p.pt))) (by omega) p hp [] [] 0 [] none (by simp -dsimp [clo]) rfl (by omega) (by simp; omega) (by simp; omega)
  have h9 : ex (CN prog (n - 2)) w_whole_program_1 [some (.p (.str p.pt)), some (.r 0), some (.r 1), some (.r 2), some (.p (.bool false)), x1] (pst p.pt p.pt.length p.ws [] s.d s.sc) = .next [some (.p (.str p.pt)), some (.r 0), some (.r 1), some (.r 2), some (.p (.bool false)), x1] (pst p.pt p.pt.length p.ws [] s.d s.sc) := whl_done rfl (by simp -dsimp [whlC, w_whole_program_1, truth, PV.truth])
  simp -dsimp [clo] at h
  rw [h9] at h
  refine callQ (h := [rdo p.pt p.pt.length, .list (p.ws.map wv), .list []]) (sc := s.sc) (by omega) rfl rfl rfl rfl rfl ?_
  have h1 := fun s => s_init (n := n - 2) (s := s) (t := p.pt) (by omega)
  have h3 := s_finish (n := n - 2 + 1) (s := pst p.pt p.pt.length p.ws [] s.d s.sc) (a := 0) (by omega) rfl rfl
  have h4 : mkTup (p.ws.map wv) = .p p.v := by
    have : allP (p.ws.map wv) = some (p.ws.map Wrd.v) := by
      generalize p.ws = l
      induction l with
      | nil => rfl
      | cons w l ih => simp only [List.map_cons, wv, allP] at ih ⊢; rw [ih]; rfl
    unfold mkTup; rw [this]; rfl
  simp only [pst, stkB, rdo] at h h3 h1
  simp at h
  simp -dsimp [m_whole_program, h1, new, h, isOf, h3, biV, h4, rdo]
theorem s_read_program {n : Nat} {s : S} {p : Pg} (hp : p.th) (hl : p.ws.length ≤ 400) (hn : 12 ≤ n) : FN prog n F_read_program [.p (.str p.pt)] s = .ok (.p p.v) s := by
  refine callQ (h := []) (sc := s.sc) (by omega) rfl rfl rfl rfl rfl ?_
  have h1 := fun s => s_whole_program (n := n - 2 + 1) (s := s) hp hl (by omega)
  have h2 := fun s => s_program_there (n := n - 2 + 1) (s := s) hp hl (by omega)
  simp -dsimp [m_read_program, h1, h2, truth, PV.truth]
end U
/-! Pl9: the law's own looks. -/
namespace U
theorem ev_cat {C : Calls} {a b : Ex} {env : Env} {s s1 s2 : S} {x y : List Nat} (ha : ev C a env s = .ok (.p (.str x)) s1) (hb : ev C b env s1 = .ok (.p (.str y)) s2) (hl : x.length + y.length ≤ 16777216) : ev C (.bin .add a b) env s = .ok (.p (.str (x ++ y))) s2 := by
  rw [ev_bin, ha, R.bd_ok, hb, R.bd_ok]
  unfold binop binP
  simp only [LIM_is, hl, if_true]
theorem ev_and_t {C : Calls} {a b : Ex} {env : Env} {s s1 s2 : S} {v : Val} (ha : ev C a env s = .ok (.p (.bool true)) s1) (hb : ev C b env s1 = .ok v s2) : ev C (.and a b) env s = .ok v s2 := by
  rw [ev_and, ha, R.bd_ok, asB_b, br_t, hb]
/-! ### _law_is -/
mutual
def PV.sm : PV → Prop
  | .tup xs => xs.length ≤ 1000000 ∧ PV.sms xs
  | _ => True
def PV.sms : List PV → Prop
  | [] => True
  | x :: xs => x.sm ∧ PV.sms xs
end
theorem sms_mem : ∀ {xs : List PV}, PV.sms xs → ∀ x ∈ xs, x.sm
  | [], _, x, h => by simp at h
  | y :: ys, ⟨h1, h2⟩, x, h => by
    rcases List.mem_cons.mp h with rfl | h
    · exact h1
    · exact sms_mem h2 x h
theorem sms_of : ∀ {xs : List PV}, (∀ x ∈ xs, x.sm) → PV.sms xs
  | [], _ => trivial
  | y :: ys, h => ⟨h y (List.mem_cons_self ..), sms_of fun x hx => h x (List.mem_cons_of_mem _ hx)⟩
theorem deps_mem : ∀ {xs : List PV} {x : PV}, x ∈ xs → x.dep ≤ PV.deps xs
  | [], x, h => by simp at h
  | y :: ys, x, h => by
    simp only [PV.deps]
    rcases List.mem_cons.mp h with rfl | h
    · omega
    · have := deps_mem h; omega
mutual
theorem PV.eqR : ∀ v : PV, v.eq v = true
  | .non => rfl
  | .bool b => by simp -dsimp [PV.eq]
  | .int i => by simp -dsimp [PV.eq]
  | .str s => by simp -dsimp [PV.eq]
  | .tup xs => by simp -dsimp [PV.eq, PV.eqsR xs]
theorem PV.eqsR : ∀ v : List PV, PV.eqs v v = true
  | [] => rfl
  | x :: xs => by simp -dsimp [PV.eqs, PV.eqR x, PV.eqsR xs]
end
theorem mem_rangeL {x : Val} : ∀ {m : Nat} {lo : Int}, x ∈ rangeL lo 1 m → ∃ k : Nat, k < m ∧ x = .p (.int (lo + k))
  | 0, lo, h => by simp -dsimp [rangeL] at h
  | m + 1, lo, h => by
    simp only [rangeL, List.mem_cons] at h
    rcases h with rfl | h
    · exact ⟨0, by omega, by simp⟩
    · obtain ⟨k, h1, h2⟩ := mem_rangeL h
      exact ⟨k + 1, by omega, by rw [h2]; congr 2; omega⟩
theorem rangeLq_len : ∀ (m : Nat) (lo c : Int), (rangeL lo c m).length = m
  | 0, _, _ => rfl
  | m + 1, lo, c => by simp -dsimp [rangeL, rangeLq_len m]
theorem atI_nat {α : Type} {xs : List α} {k : Nat} (h : k < xs.length) : atI xs (k : Int) = some xs[k] := by
  have h1 : (k : Int) < (xs.length : Int) := by omega
  unfold atI ixN
  rw [if_pos (by omega), if_pos h1]
  simp -dsimp [h]
theorem s_law_is : ∀ (N : Nat) (v : PV), v.dep ≤ N → v.sm → ∀ {n : Nat} {s : S}, N + 2 ≤ n → FN prog n F__law_is [.p v, .p v] s = .ok (.p (.bool true)) s := by
  intro N
  induction N with
  | zero =>
    intro v hd _ n s hn
    refine callQ (h := []) (sc := s.sc) (by omega) rfl rfl rfl rfl rfl ?_
    cases v with
    | tup xs => simp -dsimp [PV.dep] at hd
    | _ => simp -dsimp [m__law_is, isiAny, isiV, tyP, cmpV, cmpP, PV.dep, PV.eq]
  | succ N ih =>
    intro v hd hs n s hn
    refine callQ (h := []) (sc := s.sc) (by omega) rfl rfl rfl rfl rfl ?_
    cases v with
    | tup xs =>
      simp only [PV.dep] at hd
      have hl := hs.1
      have hc := comp_all (C := CN prog (n - 2)) (L := c__law_is_1) (env := [some (.p (.tup xs)), some (.p (.tup xs)), none, none]) (s := ⟨[], s.d, s.sc⟩) (s1 := ⟨[], s.d, s.sc⟩) (xs := rangeL 0 1 xs.length) (g := []) (fun _ => .p (.bool true)) rfl (evI_rng1 (by simp -dsimp [biV, lenV]) hl) (Nat.le_trans (Nat.le_of_eq (rangeLq_len _ _ _)) (by omega)) rfl (fun v hv => by
        obtain ⟨k, hk, rfl⟩ := mem_rangeL hv
        have hm : xs[k] ∈ xs := List.getElem_mem hk
        have h1 := ih xs[k] (by have := deps_mem hm; omega) (sms_mem hs.2 _ hm) (n := n - 2 + 1) (s := ⟨[], s.d, s.sc⟩) (by omega)
        have h2 := atI_nat hk
        refine ⟨_, rfl, by simp -dsimp [cC, c__law_is_1], ?_⟩
        simp -dsimp [cE, cT, c__law_is_1, Tg.slots, wipeE, idxV, h2, h1])
      have h2 := fun s => lb_all (rangeL 0 1 xs.length) s
      have e1 : ev (CN prog (n - 2)) (.cmp .eq (.bi .len (.cons (.var 0) .nil)) (.bi .len (.cons (.var 1) .nil))) [some (.p (.tup xs)), some (.p (.tup xs)), none, none] ⟨[], s.d, s.sc⟩ = .ok (.p (.bool true)) ⟨[], s.d, s.sc⟩ := by simp -dsimp [cmpV, cmpP, PV.dep, PV.eq, biV, lenV]
      have e2 : ev (CN prog (n - 2)) (.lb .all c__law_is_1) [some (.p (.tup xs)), some (.p (.tup xs)), none, none] ⟨[], s.d, s.sc⟩ = .ok (.p (.bool true)) ⟨[], s.d, s.sc⟩ := by simp -dsimp [hc, h2]
      have e3 := ev_and_t e1 e2
      simp -dsimp [m__law_is, isiAny, isiV, tyP, cmpV, cmpP, PV.dep, PV.eq, e3, -ev_and, -ev_lb]
    | _ => simp -dsimp [m__law_is, isiAny, isiV, tyP, cmpV, cmpP, PV.dep, PV.eq]
theorem Kd.sm : ∀ k : Kd, k.v.sm
  | .c _ => trivial
  | .f a b => ⟨by simp, a.sm, b.sm, trivial⟩
theorem Wrd.sm (w : Wrd) : w.v.sm := by
  cases w with
  | tk x k => exact ⟨by simp, trivial, k.sm, trivial⟩
  | _ => trivial
theorem Pg.sm {p : Pg} (hl : p.ws.length ≤ 400) : p.v.sm := ⟨by simp; omega, sms_of fun x hx => by obtain ⟨w, _, rfl⟩ := List.mem_map.mp hx; exact w.sm⟩
theorem deps_le : ∀ {xs : List PV} {N : Nat}, (∀ x ∈ xs, x.dep ≤ N) → PV.deps xs ≤ N
  | [], N, _ => by simp -dsimp [PV.deps]
  | y :: ys, N, h => by
    have h1 := h y (List.mem_cons_self ..)
    have h2 := deps_le (xs := ys) fun x hx => h x (List.mem_cons_of_mem _ hx)
    simp only [PV.deps]; omega
theorem Pg.v_dep {p : Pg} (h : p.th) : p.v.dep ≤ 32 := by
  have : PV.deps (p.ws.map Wrd.v) ≤ 31 := deps_le fun x hx => by
    obtain ⟨w, hw, rfl⟩ := List.mem_map.mp hx
    exact Wrd.v_dep (p.th_ws h w hw)
  simp only [Pg.v, PV.dep]; omega
theorem is_kd {n : Nat} {s : S} {k : Kd} (h : k.th) (hn : 40 ≤ n) : FN prog n F__law_is [.p k.v, .p k.v] s = .ok (.p (.bool true)) s := s_law_is 30 k.v (by rw [k.v_dep]; exact h.2) k.sm (by omega)
theorem is_pg {n : Nat} {s : S} {p : Pg} (h : p.th) (hl : p.ws.length ≤ 400) (hn : 40 ≤ n) : FN prog n F__law_is [.p p.v, .p p.v] s = .ok (.p (.bool true)) s := s_law_is 32 p.v (Pg.v_dep h) (Pg.sm hl) (by omega)
theorem is_str {n : Nat} {s : S} {x : List Nat} (hn : 40 ≤ n) : FN prog n F__law_is [.p (.str x), .p (.str x)] s = .ok (.p (.bool true)) s := s_law_is 0 (.str x) (by simp -dsimp [PV.dep]) trivial (by omega)
/-! ### _law_kind_text -/
theorem Kd.th.l {a b : Kd} (h : (Kd.f a b).th) : a.th ∧ b.th := by
  obtain ⟨h1, h2⟩ := h
  simp only [Kd.lets, Kd.dep] at h1 h2
  exact ⟨⟨by omega, by omega⟩, by omega, by omega⟩
theorem s_lkt : ∀ (k : Kd), k.th → ∀ {n : Nat} {s : S}, k.dep + 2 ≤ n → FN prog n F__law_kind_text [.p k.v] s = .ok (.p (.str k.kt)) s
  | .c a, _, n, s, hn => by
    refine callQ (h := []) (sc := s.sc) (by omega) rfl rfl rfl rfl rfl ?_
    have h5 := fun s => idx_small (s := s) a
    simp -dsimp [m__law_kind_text, isiAny, isiV, tyP, Kd.v, h5, Kd.kt]
  | .f a b, ht, n, s, hn => by
    simp only [Kd.dep] at hn
    have h1 := fun s => s_lkt a ht.l.1 (n := n - 2 + 1) (s := s) (by omega)
    have h2 := fun s => s_lkt b ht.l.2 (n := n - 2 + 1) (s := s) (by omega)
    have ka := a.kt_len
    have kb := b.kt_len
    have la := ht.l.1.1
    have lb := ht.l.2.1
    refine callQ (h := []) (sc := s.sc) (by omega) rfl rfl rfl rfl rfl ?_
    cases a with
    | c m =>
      have h3 := fun env s s1 (e1 : ev (CN prog (n - 2)) (.var 1) env s = .ok (.p (.str (Kd.c m).kt)) s1) e2 e3 => ev_cat (ev_cat e1 (ev_lit (CN prog (n - 2)) env s1 (.str [32, 62, 32])) e2) (s2 := s1) (b := .call F__law_kind_text (.cons (.idx (.var 0) (.lit (.int 1))) .nil)) (y := b.kt) e3 (by simp -dsimp [Kd.kt]; omega)
      have h4 := h3 [some (.p (Kd.f (.c m) b).v), some (.p (.str (Kd.c m).kt))] ⟨[], s.d, s.sc⟩ ⟨[], s.d, s.sc⟩ (by simp) (by simp -dsimp [Kd.kt]) (by simp -dsimp [Kd.v, idxV, atI, ixN, h2])
      simp only [Kd.v] at h1 h4
      simp only [Kd.kt] at h1 h4
      simp -dsimp [-ev_bin, m__law_kind_text, isiAny, isiV, tyP, Kd.v, idxV, atI, ixN, h1, h4, Kd.kt]
    | f u w =>
      have h0 := ev_cat (C := CN prog (n - 2)) (env := [some (.p (Kd.f (.f u w) b).v), some (.p (.str (Kd.f u w).kt))]) (s := ⟨[], s.d, s.sc⟩) (a := .bin .add (.lit (.str [40])) (.var 1)) (b := .lit (.str [41])) (ev_cat (ev_lit _ _ _ _) (by simp; exact ⟨rfl, rfl⟩) (by simp; omega)) (ev_lit _ _ _ _) (by simp; omega)
      have h4 := ev_cat (C := CN prog (n - 2)) (env := [some (.p (Kd.f (.f u w) b).v), some (.p (.str ([40] ++ (Kd.f u w).kt ++ [41])))]) (s := ⟨[], s.d, s.sc⟩) (a := .bin .add (.var 1) (.lit (.str [32, 62, 32]))) (b := .call F__law_kind_text (.cons (.idx (.var 0) (.lit (.int 1))) .nil)) (y := b.kt) (s2 := ⟨[], s.d, s.sc⟩) (ev_cat (by simp; exact ⟨rfl, rfl⟩) (ev_lit _ _ _ _) (by simp; omega)) (by simp -dsimp [Kd.v, idxV, atI, ixN, h2]) (by simp; omega)
      simp only [Kd.v, List.cons_append, List.nil_append, List.append_assoc] at h0 h1 h4
      simp -dsimp [-ev_bin, m__law_kind_text, isiAny, isiV, tyP, Kd.v, idxV, atI, ixN, h1, h0, h4, Kd.kt]
end U
/-! Pl10: the law's own text. -/
namespace U
abbrev Pg.len (p : Pg) : Nat := p.ws.length
def Pg.sp : Nat → Pg → List Nat
  | o, .nm _ => [o + 1]
  | o, .tk _ _ b => (o + 1 + b.ws.length) :: Pg.sp (o + 1) b
  | o, .us f a => (o + 1 + (f.ws.length + a.ws.length)) :: (Pg.sp (o + 1) f ++ Pg.sp (o + 1 + f.ws.length) a)
def nts (l : List Nat) : List Val := l.map fun i : Nat => .p (.int i)
theorem Pg.sp_len : ∀ (p : Pg) (o : Nat), (p.sp o).length = p.ws.length
  | .nm _, o => rfl
  | .tk _ _ b, o => by simp -dsimp [Pg.sp, Pg.ws, b.sp_len]
  | .us f a, o => by simp -dsimp [Pg.sp, Pg.ws, f.sp_len, a.sp_len]
theorem Pg.sp_head : ∀ (p : Pg) (o : Nat), ∃ r, p.sp o = (o + p.ws.length) :: r
  | .nm _, o => ⟨_, rfl⟩
  | .tk _ _ b, o => ⟨_, by simp only [Pg.sp, Pg.ws, List.length_cons]; congr 1; omega⟩
  | .us f a, o => ⟨_, by simp only [Pg.sp, Pg.ws, List.length_cons, List.length_append]; congr 1; omega⟩
section
variable {n : Nat} {d : Option Hand} {sc : List Int} {g : Obj} {P : List Wrd}
theorem sp_nm {A B W : List Val} {Aw Bw : List Wrd} {w : Wrd} {y : Val} {o : Nat} {x4 : Option Val} (ew : P = Aw ++ w :: Bw) (ho : Aw.length = o) (hA : A.length = o) (hW : W.length ≤ 1000) (hw : ∃ x, w = .nm x) :
    exs (CN prog n) (forB w__law_spans_0) [some (.p (.tup (P.map Wrd.v))), some (.r 1), some (.r 2), some (.p (.int o)), x4] ⟨[g, .list (A ++ y :: B), .list W], d, sc⟩ =
      .next [some (.p (.tup (P.map Wrd.v))), some (.r 1), some (.r 2), some (.p (.int o)), some (.p (.int ((o : Int) + 1)))] ⟨[g, .list (A ++ .p (.int ((o : Int) + 1)) :: B), .list (W ++ [.p (.int ((o : Int) + 1))])], d, sc⟩ := by
  obtain ⟨z, rfl⟩ := hw
  have h1 := atI_mid (Aw.map Wrd.v) (Bw.map Wrd.v) (Wrd.nm z).v
  have h2 := set_mid A B y (.p (.int ((o : Int) + 1)))
  have h3 := ixN_nat (n := (A ++ y :: B).length) (k := o) (by simp; omega)
  have hb := bnd (m := W.length) (by omega)
  simp only [List.length_map, ho] at h1
  rw [hA] at h2
  rw [ew]
  simp only [List.length_append, List.length_cons] at h3
  simp only [Wrd.v] at h1
  simp -dsimp [forB, w__law_spans_0, binop, binP, idxV, h1, Wrd.v, cmpV, cmpP, PV.dep, PV.eq, nm_ne_us, isiAny, isiV, tyP, setV, h3, h2, setO, bmTag, bmV, hb]
theorem sp_tk {A B W : List Val} {Aw Bw : List Wrd} {w : Wrd} {y e : Val} {o : Nat} {x4 : Option Val} (ew : P = Aw ++ w :: Bw) (ho : Aw.length = o) (hA : A.length = o) (hW : W.length ≤ 1000) (hw : ∃ x k, w = .tk x k) (hth : w.th) :
    exs (CN prog n) (forB w__law_spans_0) [some (.p (.tup (P.map Wrd.v))), some (.r 1), some (.r 2), some (.p (.int o)), x4] ⟨[g, .list (A ++ y :: B), .list (W ++ [e])], d, sc⟩ =
      .next [some (.p (.tup (P.map Wrd.v))), some (.r 1), some (.r 2), some (.p (.int o)), some e] ⟨[g, .list (A ++ e :: B), .list (W ++ [e])], d, sc⟩ := by
  obtain ⟨z, k, rfl⟩ := hw
  have h1 := atI_mid (Aw.map Wrd.v) (Bw.map Wrd.v) (Wrd.tk z k).v
  have h2 := set_mid A B y e
  have h3 := ixN_nat (n := (A ++ y :: B).length) (k := o) (by simp; omega)
  have hb := bnd (m := W.length) (by omega)
  have hd := Wrd.v_dep hth
  simp only [List.length_map, ho] at h1
  rw [hA] at h2
  rw [ew]
  simp only [List.length_append, List.length_cons] at h3
  simp only [Wrd.v] at h1 hd
  simp only [PV.dep] at hd
  have hd2 : PV.deps [PV.str z.s, k.v] ≤ 63 := by omega
  simp -dsimp [forB, w__law_spans_0, binop, binP, idxV, h1, Wrd.v, cmpV, cmpP, PV.dep, hd2, PV.eq, isiAny, isiV, tyP, setV, h3, h2, setO, bmTag, bmV, hb]
theorem sp_us {A B W : List Val} {Aw Bw : List Wrd} {y e e2 : Val} {o : Nat} {x4 : Option Val} (ew : P = Aw ++ .us :: Bw) (ho : Aw.length = o) (hA : A.length = o) (hW : W.length ≤ 1000) :
    exs (CN prog n) (forB w__law_spans_0) [some (.p (.tup (P.map Wrd.v))), some (.r 1), some (.r 2), some (.p (.int o)), x4] ⟨[g, .list (A ++ y :: B), .list (W ++ [e] ++ [e2])], d, sc⟩ =
      .next [some (.p (.tup (P.map Wrd.v))), some (.r 1), some (.r 2), some (.p (.int o)), some e] ⟨[g, .list (A ++ e :: B), .list (W ++ [e])], d, sc⟩ := by
  have h1 := atI_mid (Aw.map Wrd.v) (Bw.map Wrd.v) Wrd.us.v
  have h2 := set_mid A B y e
  have h3 := ixN_nat (n := (A ++ y :: B).length) (k := o) (by simp; omega)
  have hb := bnd (m := W.length) (by omega)
  have hg : (W ++ [e] ++ [e2]).getLast? = some e2 := by simp
  have hd : (W ++ [e] ++ [e2]).dropLast = W ++ [e] := by rw [List.dropLast_concat]
  have hg1 : (W ++ [e]).getLast? = some e := by simp
  have hd1 : (W ++ [e]).dropLast = W := by rw [List.dropLast_concat]
  simp only [List.length_map, ho] at h1
  rw [hA] at h2
  rw [ew]
  generalize W ++ [e] ++ [e2] = L at hg hd
  simp only [List.length_append, List.length_cons] at h3
  simp only [Wrd.v] at h1
  simp -dsimp [forB, w__law_spans_0, binop, binP, idxV, h1, Wrd.v, cmpV, cmpP, PV.dep, PV.eq, isiAny, isiV, tyP, setV, h3, h2, setO, bmTag, bmV, hb, hg, hd]
theorem l_spans : ∀ (p : Pg), p.th → ∀ (o : Nat) (A X B W : List Val) (Aw Bw : List Wrd) (rest : List Val) (x3 x4 : Option Val), P = Aw ++ p.ws ++ Bw → Aw.length = o → A.length = o → X.length = p.ws.length → W.length + p.ws.length ≤ 1000 →
    ∃ y3 y4, forS (CN prog n) [] (forT w__law_spans_0) (forB w__law_spans_0) (dsc o p.ws.length ++ rest) [some (.p (.tup (P.map Wrd.v))), some (.r 1), some (.r 2), x3, x4] ⟨[g, .list (A ++ X ++ B), .list W], d, sc⟩ =
      forS (CN prog n) [] (forT w__law_spans_0) (forB w__law_spans_0) rest [some (.p (.tup (P.map Wrd.v))), some (.r 1), some (.r 2), y3, y4] ⟨[g, .list (A ++ nts (p.sp o) ++ B), .list (W ++ [.p (.int ((o + p.ws.length : Nat) : Int))])], d, sc⟩
  | .nm x, _, o, A, X, B, W, Aw, Bw, rest, x3, x4, eP, ho, hA, hX, hW => by
    simp only [Pg.ws, List.length_cons, List.length_nil] at hX hW
    obtain ⟨y, rfl⟩ := List.length_eq_one_iff.mp hX
    refine ⟨some (.p (.int o)), some (.p (.int ((o : Int) + 1))), ?_⟩
    have h := sp_nm (n := n) (d := d) (sc := sc) (g := g) (P := P) (A := A) (B := B) (W := W) (Aw := Aw) (Bw := Bw) (w := .nm x) (y := y) (o := o) (x4 := x4) (by rw [eP]; simp -dsimp [Pg.ws]) ho hA (by omega) ⟨x, rfl⟩
    simp only [List.append_assoc, List.cons_append, List.nil_append, Pg.ws, List.length_cons, List.length_nil, Nat.zero_add]
    rw [show dsc o 1 = [.p (.int (o : Int))] by rw [dsc_succ]; rfl]
    refine (for_cons rfl rfl h).trans ?_
    simp -dsimp [nts, Pg.sp]
  | .tk x k b, ht, o, A, X, B, W, Aw, Bw, rest, x3, x4, eP, ho, hA, hX, hW => by
    simp only [Pg.ws, List.length_cons] at hX hW
    obtain ⟨y, X', rfl⟩ : ∃ y X', X = y :: X' := by cases X with
      | nil => simp at hX
      | cons y X' => exact ⟨_, _, rfl⟩
    simp at hX
    obtain ⟨y3, y4, ih⟩ := l_spans b ht.2 (o + 1) (A ++ [y]) X' B W (Aw ++ [.tk x k]) Bw (.p (.int (o : Int)) :: rest) x3 x4 (by rw [eP]; simp -dsimp [Pg.ws]) (by simp -dsimp [ho]) (by simp -dsimp [hA]) hX (by omega)
    have h := sp_tk (n := n) (d := d) (sc := sc) (g := g) (P := P) (A := A) (B := nts (b.sp (o + 1)) ++ B) (W := W) (Aw := Aw) (Bw := b.ws ++ Bw) (w := .tk x k) (y := y) (e := .p (.int ((o + 1 + b.ws.length : Nat) : Int))) (o := o) (x4 := y4) (by rw [eP]; simp -dsimp [Pg.ws]) ho hA (by omega) ⟨x, k, rfl⟩ ht.1
    refine ⟨some (.p (.int o)), some (.p (.int ((o + 1 + b.ws.length : Nat) : Int))), ?_⟩
    have e1 : dsc o (Pg.tk x k b).ws.length ++ rest = dsc (o + 1) b.ws.length ++ .p (.int (o : Int)) :: rest := by
      rw [show (Pg.tk x k b).ws.length = 1 + b.ws.length by simp -dsimp [Pg.ws]; omega, dsc_app, dsc_succ]; simp -dsimp [dsc]
    rw [e1]
    simp only [List.append_assoc, List.cons_append, List.nil_append] at ih h ⊢
    refine ih.trans ((for_cons rfl rfl h).trans ?_)
    rw [show ((Pg.tk x k b).sp o) = (o + 1 + b.ws.length) :: b.sp (o + 1) from rfl, show o + (Pg.tk x k b).ws.length = o + 1 + b.ws.length by simp -dsimp [Pg.ws]; omega]
    simp -dsimp [nts]
  | .us f a, ht, o, A, X, B, W, Aw, Bw, rest, x3, x4, eP, ho, hA, hX, hW => by
    simp only [Pg.ws, List.length_cons, List.length_append] at hX hW
    obtain ⟨y, X', rfl⟩ : ∃ y X', X = y :: X' := by cases X with
      | nil => simp at hX
      | cons y X' => exact ⟨_, _, rfl⟩
    simp at hX
    have hXt : (X'.take f.ws.length).length = f.ws.length := by simp; omega
    have hXd : (X'.drop f.ws.length).length = a.ws.length := by simp; omega
    have eX : X' = X'.take f.ws.length ++ X'.drop f.ws.length := (List.take_append_drop _ _).symm
    generalize X'.take f.ws.length = X1 at hXt eX
    generalize X'.drop f.ws.length = X2 at hXd eX
    subst eX
    obtain ⟨y3, y4, ih1⟩ := l_spans a ht.2 (o + 1 + f.ws.length) (A ++ [y] ++ X1) X2 B W (Aw ++ [.us] ++ f.ws) Bw (dsc (o + 1) f.ws.length ++ .p (.int (o : Int)) :: rest) x3 x4 (by rw [eP]; simp -dsimp [Pg.ws]) (by simp -dsimp [ho]; omega) (by simp -dsimp [hA, hXt]; omega) hXd (by omega)
    obtain ⟨z3, z4, ih2⟩ := l_spans f ht.1 (o + 1) (A ++ [y]) X1 (nts (a.sp (o + 1 + f.ws.length)) ++ B) (W ++ [.p (.int ((o + 1 + f.ws.length + a.ws.length : Nat) : Int))]) (Aw ++ [.us]) (a.ws ++ Bw) (.p (.int (o : Int)) :: rest) y3 y4 (by rw [eP]; simp -dsimp [Pg.ws]) (by simp -dsimp [ho]) (by simp -dsimp [hA]) hXt (by have := a.ws_pos; simp; omega)
    have h := sp_us (n := n) (d := d) (sc := sc) (g := g) (P := P) (A := A) (B := nts (f.sp (o + 1)) ++ (nts (a.sp (o + 1 + f.ws.length)) ++ B)) (W := W) (Aw := Aw) (Bw := f.ws ++ (a.ws ++ Bw)) (y := y) (e := .p (.int ((o + 1 + f.ws.length + a.ws.length : Nat) : Int))) (e2 := .p (.int ((o + 1 + f.ws.length : Nat) : Int))) (o := o) (x4 := z4) (by rw [eP]; simp -dsimp [Pg.ws]) ho hA (by omega)
    refine ⟨some (.p (.int o)), some (.p (.int ((o + 1 + f.ws.length + a.ws.length : Nat) : Int))), ?_⟩
    have e1 : dsc o (Pg.us f a).ws.length ++ rest = dsc (o + 1 + f.ws.length) a.ws.length ++ (dsc (o + 1) f.ws.length ++ .p (.int (o : Int)) :: rest) := by
      rw [show (Pg.us f a).ws.length = 1 + (f.ws.length + a.ws.length) by simp -dsimp [Pg.ws]; omega, dsc_app, dsc_app, dsc_succ]; simp -dsimp [dsc]
    rw [e1]
    simp only [List.append_assoc, List.cons_append, List.nil_append] at ih1 ih2 h ⊢
    refine ih1.trans (ih2.trans ((for_cons rfl rfl h).trans ?_))
    rw [show ((Pg.us f a).sp o) = (o + 1 + (f.ws.length + a.ws.length)) :: (f.sp (o + 1) ++ a.sp (o + 1 + f.ws.length)) from rfl, show o + (Pg.us f a).ws.length = o + 1 + f.ws.length + a.ws.length by simp -dsimp [Pg.ws]; omega, show o + 1 + (f.ws.length + a.ws.length) = o + 1 + f.ws.length + a.ws.length by omega]
    simp -dsimp [nts]
end
theorem rep_flat {α : Type} (x : α) : ∀ m, (List.replicate m [x]).flatten = List.replicate m x
  | 0 => rfl
  | m + 1 => by simp -dsimp [List.replicate_succ, rep_flat x m]
theorem nts_pure (l : List Nat) : (Obj.list (nts l)).pure = true := by simp -dsimp [Obj.pure, nts, Val.isP]
theorem s_spans {n : Nat} {s : S} {p : Pg} (hp : p.th) (hl : p.ws.length ≤ 400) (hn : 2 ≤ n) : FN prog n F__law_spans [.p p.v] s = .ok (.r s.h.length) { s with h := s.h ++ [.list (nts (p.sp 0))] } := by
  obtain ⟨m, rfl⟩ : ∃ m, n = m + 2 := ⟨n - 2, by omega⟩
  obtain ⟨y3, y4, h⟩ := l_spans (n := m) (d := s.d) (sc := s.sc) (g := .list [.p (.int 0)]) (P := p.ws) p hp 0 [] (List.replicate p.ws.length (.p (.int 0))) [] [] [] [] [] none none (by simp) rfl rfl (by simp) (by simp; omega)
  rw [List.append_nil, for_nil rfl] at h
  have h := for_start (s := ⟨[.list [.p (.int 0)], .list ([] ++ List.replicate p.ws.length (.p (.int 0)) ++ []), .list []], s.d, s.sc⟩) (env := [some (.p (.tup (p.ws.map Wrd.v))), some (.r 1), some (.r 2), none, none]) rfl (evI_rng3 (m := p.ws.length) (by simp -dsimp [biV, lenV, binop, binP]) (by simp) (by simp) (by omega)) h
  simp only [List.append_nil, List.nil_append] at h
  have hrep := rep_flat (Val.p (.int 0)) p.ws.length
  have c1 : p.ws.length ≤ 16777216 := by omega
  have c2 : (p.ws.length : Int) < 9223372036854775808 := by omega
  have c3 : (-9223372036854775808 : Int) ≤ (p.ws.length : Int) := by omega
  refine (call0 (s := s) (h := [.list [.p (.int 0)], .list (nts (p.sp 0)), .list [.p (.int ((0 + p.ws.length : Nat) : Int))]]) (d := s.d) (v := .r 1) (sc := s.sc) rfl rfl rfl rfl rfl ?_).trans ?_
  · simp -dsimp [m__law_spans, new, Pg.v, biV, lenV, binop, c1, c2, c3, hrep]
    rw [h]
    simp
  · have hq := nts_pure (p.sp 0)
    simp -dsimp [land0, landV, hq]
end U
/-! Pl11: the law's own text. -/
namespace U
def Pg.tx : Pg → List (List Nat)
  | .nm x => [x.s]
  | .tk x k b => (Pg.tk x k b).pt :: b.tx
  | .us f a => (Pg.us f a).pt :: (f.tx ++ a.tx)
theorem Pg.tx_len : ∀ p : Pg, p.tx.length = p.ws.length
  | .nm _ => rfl
  | .tk _ _ b => by simp -dsimp [Pg.tx, Pg.ws, b.tx_len]
  | .us f a => by simp -dsimp [Pg.tx, Pg.ws, f.tx_len, a.tx_len]
theorem Pg.tx_head : ∀ p : Pg, ∃ r, p.tx = p.pt :: r
  | .nm _ => ⟨_, rfl⟩
  | .tk _ _ _ => ⟨_, rfl⟩
  | .us _ _ => ⟨_, rfl⟩
section
variable {n : Nat} {d : Option Hand} {sc : List Int} {g : Obj} {P : List Wrd} {S : List Nat}
theorem tx_nm {A B : List Val} {Aw Bw : List Wrd} {x : Nm} {y : Val} {o : Nat} {x4 : Option Val} (ew : P = Aw ++ .nm x :: Bw) (ho : Aw.length = o) (hA : A.length = o) :
    exs (CN prog n) (forB w__law_text_0) [some (.p (.tup (P.map Wrd.v))), some (.r 0), some (.r 2), some (.p (.int o)), x4] ⟨[.list (nts S), g, .list (A ++ y :: B)], d, sc⟩ =
      .next [some (.p (.tup (P.map Wrd.v))), some (.r 0), some (.r 2), some (.p (.int o)), some (.p (.str x.s))] ⟨[.list (nts S), g, .list (A ++ .p (.str x.s) :: B)], d, sc⟩ := by
  have h1 := atI_mid (Aw.map Wrd.v) (Bw.map Wrd.v) (Wrd.nm x).v
  have h2 := set_mid A B y (.p (.str x.s))
  have h3 := ixN_nat (n := (A ++ y :: B).length) (k := o) (by simp; omega)
  simp only [List.length_map, ho] at h1
  rw [hA] at h2
  rw [ew]
  simp only [List.length_append, List.length_cons] at h3
  simp only [Wrd.v] at h1
  simp -dsimp [forB, w__law_text_0, idxV, h1, Wrd.v, cmpV, cmpP, PV.dep, PV.eq, nm_ne_us, isiAny, isiV, tyP, setV, h3, h2, setO]
theorem tx_tk (hn : 40 ≤ n) {A B : List Val} {Aw Bw : List Wrd} {x : Nm} {k : Kd} {tb : List Nat} {y : Val} {o : Nat} {x4 : Option Val} (ew : P = Aw ++ .tk x k :: Bw) (ho : Aw.length = o) (hA : A.length = o) (hk : k.th) (hb : tb.length ≤ 200000) :
    exs (CN prog n) (forB w__law_text_0) [some (.p (.tup (P.map Wrd.v))), some (.r 0), some (.r 2), some (.p (.int o)), x4] ⟨[.list (nts S), g, .list (A ++ y :: .p (.str tb) :: B)], d, sc⟩ =
      .next [some (.p (.tup (P.map Wrd.v))), some (.r 0), some (.r 2), some (.p (.int o)), some (.p (Wrd.tk x k).v)] ⟨[.list (nts S), g, .list (A ++ .p (.str (91 :: (x.s ++ 58 :: (k.kt ++ 93 :: 32 :: tb)))) :: .p (.str tb) :: B)], d, sc⟩ := by
  have h1 := atI_mid (Aw.map Wrd.v) (Bw.map Wrd.v) (Wrd.tk x k).v
  have h2 := set_mid A (.p (.str tb) :: B) y (.p (.str (91 :: (x.s ++ 58 :: (k.kt ++ 93 :: 32 :: tb)))))
  have h3 := ixN_nat (n := (A ++ y :: .p (.str tb) :: B).length) (k := o) (by simp; omega)
  have h5 : atI (A ++ y :: .p (.str tb) :: B) ((o : Int) + 1) = some (.p (.str tb)) := atI_nth (k := o + 1) (by rw [← hA]; simp)
  have h4 := fun s => s_lkt k hk (n := n + 1) (s := s) (by have := hk.2; omega)
  have ka := k.kt_len
  have kl := hk.1
  have x8 := x.h8
  simp only [List.length_map, ho] at h1
  rw [hA] at h2
  rw [ew]
  simp only [List.length_append, List.length_cons] at h3
  simp only [Wrd.v] at h1
  obtain ⟨s, es⟩ : ∃ s : U.S, s = ⟨[.list (nts S), g, .list (A ++ y :: .p (.str tb) :: B)], d, sc⟩ := ⟨_, rfl⟩
  obtain ⟨env, ee⟩ : ∃ env : Env, env = [some (.p (.tup ((Aw ++ Wrd.tk x k :: Bw).map Wrd.v))), some (.r 0), some (.r 2), some (.p (.int o)), some (.p (.tup [.str x.s, k.v]))] := ⟨_, rfl⟩
  have c1 : ev (CN prog n) (.idx (.var 4) (.lit (.int 0))) env s = .ok (.p (.str x.s)) s := by subst ee; simp -dsimp [idxV, atI, ixN]
  have c2 : ev (CN prog n) (.call F__law_kind_text (.cons (.idx (.var 4) (.lit (.int 1))) .nil)) env s = .ok (.p (.str k.kt)) s := by subst ee; simp -dsimp [idxV, atI, ixN, h4]
  have c3 : ev (CN prog n) (.idx (.var 2) (.bin .add (.var 3) (.lit (.int 1)))) env s = .ok (.p (.str tb)) s := by subst ee es; simp -dsimp [idxV, binop, binP, h5]
  have c := ev_cat (ev_cat (ev_cat (ev_cat (ev_cat (ev_lit (CN prog n) env s (.str [91])) c1 (by simp; omega)) (ev_lit _ _ _ (.str [58])) (by simp; omega)) c2 (by simp; omega)) (ev_lit _ _ _ (.str [93, 32])) (by simp; omega)) c3 (by simp; omega)
  subst ee es
  simp only [List.append_assoc, List.cons_append, List.nil_append, List.map_append, List.map_cons, Wrd.v] at c h3
  simp -dsimp [-ev_bin, forB, w__law_text_0, idxV, h1, Wrd.v, isiAny, isiV, tyP, c, setV, h3, h2, setO]
theorem tx_us {A B F : List Val} {Aw Bw : List Wrd} {tf ta : List Nat} {y : Val} {o z : Nat} {x4 : Option Val} (ew : P = Aw ++ .us :: Bw) (ho : Aw.length = o) (hA : A.length = o) (hf : tf.length ≤ 200000) (ha : ta.length ≤ 200000) (hF : F.length + o + 2 = z) (hS : S[o + 1]? = some z) :
    exs (CN prog n) (forB w__law_text_0) [some (.p (.tup (P.map Wrd.v))), some (.r 0), some (.r 2), some (.p (.int o)), x4] ⟨[.list (nts S), g, .list (A ++ y :: .p (.str tf) :: (F ++ .p (.str ta) :: B))], d, sc⟩ =
      .next [some (.p (.tup (P.map Wrd.v))), some (.r 0), some (.r 2), some (.p (.int o)), some (.p (.str [64]))] ⟨[.list (nts S), g, .list (A ++ .p (.str (40 :: (tf ++ 32 :: (ta ++ [41])))) :: .p (.str tf) :: (F ++ .p (.str ta) :: B))], d, sc⟩ := by
  have h1 := atI_mid (Aw.map Wrd.v) (Bw.map Wrd.v) Wrd.us.v
  have h2 := set_mid A (.p (.str tf) :: (F ++ .p (.str ta) :: B)) y (.p (.str (40 :: (tf ++ 32 :: (ta ++ [41])))))
  have h3 := ixN_nat (n := (A ++ y :: .p (.str tf) :: (F ++ .p (.str ta) :: B)).length) (k := o) (by simp; omega)
  have h5 : atI (A ++ y :: .p (.str tf) :: (F ++ .p (.str ta) :: B)) ((o : Int) + 1) = some (.p (.str tf)) := atI_nth (k := o + 1) (by rw [← hA]; simp)
  have h6 : atI (A ++ y :: .p (.str tf) :: (F ++ .p (.str ta) :: B)) (z : Int) = some (.p (.str ta)) := by
    have := atI_mid (A ++ y :: .p (.str tf) :: F) B (.p (.str ta))
    simp only [List.length_append, List.length_cons, List.append_assoc, List.cons_append] at this
    rw [show A.length + (F.length + 1 + 1) = z by omega] at this
    exact this
  have h7 : atI (nts S) ((o : Int) + 1) = some (.p (.int (z : Int))) := atI_nth (k := o + 1) (by simp -dsimp [nts, hS])
  simp only [List.length_map, ho] at h1
  rw [hA] at h2
  rw [ew]
  simp only [List.length_append, List.length_cons] at h3
  simp only [Wrd.v] at h1
  obtain ⟨s, es⟩ : ∃ s : U.S, s = ⟨[.list (nts S), g, .list (A ++ y :: .p (.str tf) :: (F ++ .p (.str ta) :: B))], d, sc⟩ := ⟨_, rfl⟩
  obtain ⟨env, ee⟩ : ∃ env : Env, env = [some (.p (.tup ((Aw ++ Wrd.us :: Bw).map Wrd.v))), some (.r 0), some (.r 2), some (.p (.int o)), some (.p (.str [64]))] := ⟨_, rfl⟩
  have c1 : ev (CN prog n) (.idx (.var 2) (.bin .add (.var 3) (.lit (.int 1)))) env s = .ok (.p (.str tf)) s := by subst ee es; simp -dsimp [idxV, binop, binP, h5]
  have c2 : ev (CN prog n) (.idx (.var 2) (.idx (.var 1) (.bin .add (.var 3) (.lit (.int 1))))) env s = .ok (.p (.str ta)) s := by subst ee es; simp -dsimp [idxV, binop, binP, h7, h6]
  have c := ev_cat (ev_cat (ev_cat (ev_cat (ev_lit (CN prog n) env s (.str [40])) c1 (by simp; omega)) (ev_lit _ _ _ (.str [32])) (by simp; omega)) c2 (by simp; omega)) (ev_lit _ _ _ (.str [41])) (by simp; omega)
  subst ee es
  simp only [List.append_assoc, List.cons_append, List.nil_append, List.map_append, List.map_cons, Wrd.v] at c h3
  simp -dsimp [-ev_bin, forB, w__law_text_0, idxV, h1, Wrd.v, isiAny, isiV, tyP, cmpV, cmpP, PV.dep, PV.eq, c, setV, h3, h2, setO]
theorem l_text (hn : 40 ≤ n) : ∀ (p : Pg), p.th → p.ws.length ≤ 400 → ∀ (o : Nat) (A X B : List Val) (Aw Bw : List Wrd) (SA SB : List Nat) (rest : List Val) (x3 x4 : Option Val), P = Aw ++ p.ws ++ Bw → S = SA ++ p.sp o ++ SB → SA.length = o → Aw.length = o → A.length = o → X.length = p.ws.length →
    ∃ y3 y4, forS (CN prog n) [] (forT w__law_text_0) (forB w__law_text_0) (dsc o p.ws.length ++ rest) [some (.p (.tup (P.map Wrd.v))), some (.r 0), some (.r 2), x3, x4] ⟨[.list (nts S), g, .list (A ++ X ++ B)], d, sc⟩ =
      forS (CN prog n) [] (forT w__law_text_0) (forB w__law_text_0) rest [some (.p (.tup (P.map Wrd.v))), some (.r 0), some (.r 2), y3, y4] ⟨[.list (nts S), g, .list (A ++ sts p.tx ++ B)], d, sc⟩
  | .nm x, _, _, o, A, X, B, Aw, Bw, SA, SB, rest, x3, x4, eP, eS, hS, ho, hA, hX => by
    simp only [Pg.ws, List.length_cons, List.length_nil] at hX
    obtain ⟨y, rfl⟩ := List.length_eq_one_iff.mp hX
    refine ⟨some (.p (.int o)), some (.p (.str x.s)), ?_⟩
    have h := tx_nm (n := n) (d := d) (sc := sc) (g := g) (S := S) (P := P) (A := A) (B := B) (Aw := Aw) (Bw := Bw) (x := x) (y := y) (o := o) (x4 := x4) (by rw [eP]; simp -dsimp [Pg.ws]) ho hA
    simp only [List.append_assoc, List.cons_append, List.nil_append, Pg.ws, List.length_cons, List.length_nil, Nat.zero_add]
    rw [show dsc o 1 = [.p (.int (o : Int))] by rw [dsc_succ]; rfl]
    exact for_cons rfl rfl h
  | .tk x k b, ht, hl, o, A, X, B, Aw, Bw, SA, SB, rest, x3, x4, eP, eS, hS, ho, hA, hX => by
    simp only [Pg.ws, List.length_cons] at hX hl
    obtain ⟨y, X', rfl⟩ : ∃ y X', X = y :: X' := by cases X with
      | nil => simp at hX
      | cons y X' => exact ⟨_, _, rfl⟩
    simp at hX
    obtain ⟨y3, y4, ih⟩ := l_text hn b ht.2 (by omega) (o + 1) (A ++ [y]) X' B (Aw ++ [.tk x k]) Bw (SA ++ [o + 1 + b.ws.length]) SB (.p (.int (o : Int)) :: rest) x3 x4 (by rw [eP]; simp -dsimp [Pg.ws]) (by rw [eS]; simp -dsimp [Pg.sp]) (by simp -dsimp [hS]) (by simp -dsimp [ho]) (by simp -dsimp [hA]) hX
    obtain ⟨r, er⟩ := b.tx_head
    have h := tx_tk (n := n) (d := d) (sc := sc) (g := g) (S := S) (P := P) (A := A) (B := sts r ++ B) (Aw := Aw) (Bw := b.ws ++ Bw) (x := x) (k := k) (tb := b.pt) (y := y) (o := o) (x4 := y4) hn (by rw [eP]; simp -dsimp [Pg.ws]) ho hA ht.1 (by have := b.pt_len ht.2; omega)
    refine ⟨some (.p (.int o)), some (.p (Wrd.tk x k).v), ?_⟩
    have e1 : dsc o (Pg.tk x k b).ws.length ++ rest = dsc (o + 1) b.ws.length ++ .p (.int (o : Int)) :: rest := by
      rw [show (Pg.tk x k b).ws.length = 1 + b.ws.length by simp -dsimp [Pg.ws]; omega, dsc_app, dsc_succ]; simp -dsimp [dsc]
    rw [e1, show (Pg.tk x k b).tx = (Pg.tk x k b).pt :: b.tx from rfl, er]
    rw [er] at ih
    simp only [sts, List.map_cons, List.append_assoc, List.cons_append, List.nil_append] at ih h ⊢
    exact ih.trans (for_cons rfl rfl h)
  | .us f a, ht, hl, o, A, X, B, Aw, Bw, SA, SB, rest, x3, x4, eP, eS, hS, ho, hA, hX => by
    simp only [Pg.ws, List.length_cons, List.length_append] at hX hl
    obtain ⟨y, X', rfl⟩ : ∃ y X', X = y :: X' := by cases X with
      | nil => simp at hX
      | cons y X' => exact ⟨_, _, rfl⟩
    simp at hX
    have hXt : (X'.take f.ws.length).length = f.ws.length := by simp; omega
    have hXd : (X'.drop f.ws.length).length = a.ws.length := by simp; omega
    have eX : X' = X'.take f.ws.length ++ X'.drop f.ws.length := (List.take_append_drop _ _).symm
    generalize X'.take f.ws.length = X1 at hXt eX
    generalize X'.drop f.ws.length = X2 at hXd eX
    subst eX
    obtain ⟨y3, y4, ih1⟩ := l_text hn a ht.2 (by omega) (o + 1 + f.ws.length) (A ++ [y] ++ X1) X2 B (Aw ++ [.us] ++ f.ws) Bw (SA ++ [o + 1 + (f.ws.length + a.ws.length)] ++ f.sp (o + 1)) SB (dsc (o + 1) f.ws.length ++ .p (.int (o : Int)) :: rest) x3 x4 (by rw [eP]; simp -dsimp [Pg.ws]) (by rw [eS]; simp -dsimp [Pg.sp]) (by simp -dsimp [hS, f.sp_len]; omega) (by simp -dsimp [ho]; omega) (by simp -dsimp [hA, hXt]; omega) hXd
    obtain ⟨z3, z4, ih2⟩ := l_text hn f ht.1 (by omega) (o + 1) (A ++ [y]) X1 (sts a.tx ++ B) (Aw ++ [.us]) (a.ws ++ Bw) (SA ++ [o + 1 + (f.ws.length + a.ws.length)]) (a.sp (o + 1 + f.ws.length) ++ SB) (.p (.int (o : Int)) :: rest) y3 y4 (by rw [eP]; simp -dsimp [Pg.ws]) (by rw [eS]; simp -dsimp [Pg.sp]) (by simp -dsimp [hS]) (by simp -dsimp [ho]) (by simp -dsimp [hA]) hXt
    obtain ⟨rf, erf⟩ := f.tx_head
    obtain ⟨ra, era⟩ := a.tx_head
    obtain ⟨sf, esf⟩ := f.sp_head (o + 1)
    have hrf : rf.length + 1 = f.ws.length := by rw [← f.tx_len, erf]; rfl
    have h := tx_us (n := n) (d := d) (sc := sc) (g := g) (S := S) (P := P) (A := A) (B := sts ra ++ B) (F := sts rf) (Aw := Aw) (Bw := f.ws ++ (a.ws ++ Bw)) (tf := f.pt) (ta := a.pt) (y := y) (o := o) (z := o + 1 + f.ws.length) (x4 := z4) (by rw [eP]; simp -dsimp [Pg.ws]) ho hA (by have := f.pt_len ht.1; omega) (by have := a.pt_len ht.2; omega) (by rw [sts_len]; omega) (by rw [eS, show (Pg.us f a).sp o = (o + 1 + (f.ws.length + a.ws.length)) :: (f.sp (o + 1) ++ a.sp (o + 1 + f.ws.length)) from rfl, esf, ← hS]; simp)
    refine ⟨some (.p (.int o)), some (.p (.str [64])), ?_⟩
    have e1 : dsc o (Pg.us f a).ws.length ++ rest = dsc (o + 1 + f.ws.length) a.ws.length ++ (dsc (o + 1) f.ws.length ++ .p (.int (o : Int)) :: rest) := by
      rw [show (Pg.us f a).ws.length = 1 + (f.ws.length + a.ws.length) by simp -dsimp [Pg.ws]; omega, dsc_app, dsc_app, dsc_succ]; simp -dsimp [dsc]
    rw [e1, show (Pg.us f a).tx = (Pg.us f a).pt :: (f.tx ++ a.tx) from rfl, erf, era]
    rw [era] at ih1 ih2
    rw [erf] at ih2
    simp only [sts, List.map_cons, List.map_append, List.append_assoc, List.cons_append, List.nil_append] at ih1 ih2 h ⊢
    exact ih1.trans (ih2.trans (for_cons rfl rfl h))
end
theorem s_ltext {n : Nat} {s : S} {p : Pg} (hp : p.th) (hl : p.ws.length ≤ 400) (hn : 50 ≤ n) : FN prog n F__law_text [.p p.v] s = .ok (.p (.str p.pt)) s := by
  obtain ⟨y3, y4, h⟩ := l_text (n := n - 2) (d := s.d) (sc := s.sc) (g := .list [.p (.str [])]) (P := p.ws) (S := p.sp 0) (by omega) p hp hl 0 [] (List.replicate p.ws.length (.p (.str []))) [] [] [] [] [] [] none none (by simp) (by simp) rfl rfl rfl (by simp)
  rw [List.append_nil, for_nil rfl] at h
  have h := for_start (s := ⟨[.list (nts (p.sp 0)), .list [.p (.str [])], .list ([] ++ List.replicate p.ws.length (.p (.str [])) ++ [])], s.d, s.sc⟩) (env := [some (.p (.tup (p.ws.map Wrd.v))), some (.r 0), some (.r 2), none, none]) rfl (evI_rng3 (m := p.ws.length) (by simp -dsimp [biV, lenV, binop, binP]) (by simp) (by simp) (by omega)) h
  simp only [List.append_nil, List.nil_append] at h
  have hrep := rep_flat (Val.p (.str [])) p.ws.length
  have c1 : p.ws.length ≤ 16777216 := by omega
  have c2 : (p.ws.length : Int) < 9223372036854775808 := by omega
  have c3 : (-9223372036854775808 : Int) ≤ (p.ws.length : Int) := by omega
  have hsp := s_spans (n := n - 2 + 1) (s := ⟨[], s.d, s.sc⟩) hp hl (by omega)
  obtain ⟨r, er⟩ := p.tx_head
  rw [er] at h
  simp only [Pg.v] at hsp
  simp only [sts, List.map_cons] at h
  refine callQ (h := [.list (nts (p.sp 0)), .list [.p (.str [])], .list (.p (.str p.pt) :: r.map fun x => .p (.str x))]) (sc := s.sc) (by omega) rfl rfl rfl rfl rfl ?_
  simp -dsimp [m__law_text, new, Pg.v, hsp, biV, lenV, binop, c1, c2, c3, hrep]
  rw [h]
  simp -dsimp [idxV, atI, ixN]
end U
/-! Pl12: what is drawn. -/
namespace U
theorem Hand.draw_lt (d : Hand) {m : Int} (h : 0 < m) : 0 ≤ (d.draw m).1 ∧ (d.draw m).1 < m := by
  have k : ∀ x : Int, 0 ≤ x % m ∧ x % m < m := fun x => ⟨Int.emod_nonneg x (by omega), Int.emod_lt_of_pos x h⟩
  unfold Hand.draw
  generalize (if d.big = 0 ∧ d.at_ < d.cells.length then (let c := d.cells.getD d.at_ 0; { d with at_ := d.at_ + 1, mix := (d.mix * 69621 + c + 11) % 2147483629, big := if 10 ^ 18 ≤ c then c else d.big } : Hand) else d) = h1
  show 0 ≤ (if 0 < h1.big then _ else _ : Int × Hand).1 ∧ (if 0 < h1.big then _ else _ : Int × Hand).1 < m
  split
  · exact k _
  · exact k _
theorem dr (d : Hand) {m : Int} (h0 : 0 < m) (h1 : m < 1000000) : ∃ (j : Nat) (d' : Hand), (j : Int) < m ∧ ∀ (h : List Obj) (sc : List Int), drawV .hd (.p (.int m)) ⟨h, some d, sc⟩ = .ok (.p (.int (j : Int))) ⟨h, some d', sc⟩ := by
  obtain ⟨a, b⟩ := d.draw_lt h0
  refine ⟨(d.draw m).1.toNat, (d.draw m).2, by omega, fun h sc => ?_⟩
  have e : ((d.draw m).1.toNat : Int) = (d.draw m).1 := by omega
  rw [e]
  unfold drawV
  simp only
  rw [if_pos ⟨h0, by omega⟩]
theorem ne0 {j : Nat} (h : j ≠ 0) : ((j : Int) == 0) = false := by rw [beq_eq_false_iff_ne]; omega
section
variable {sc : List Int}
theorem s_kind : ∀ (deep : Nat) (n : Nat) (d : Hand), deep + 2 ≤ n → ∃ (k : Kd) (d' : Hand), k.dep ≤ deep ∧ ∀ h : List Obj, FN prog n F__law_kind [.hd, .p (.int (deep : Int))] ⟨h, some d, sc⟩ = .ok (.p k.v) ⟨h, some d', sc⟩ := by
  -- a letter drawn
  have lt : ∀ d : Hand, ∃ (k : Kd) (d' : Hand), k.dep = 0 ∧ ∀ (n : Nat) (env : Env) (h : List Obj), env[0]? = some (some .hd) → ev (CN prog n) (.draw (.var 0) (.bin .add (.lit (.int 2)) (.bi .int (.cons (.cmp .eq (.draw (.var 0) (.lit (.int 8))) (.lit (.int 0))) .nil)))) env ⟨h, some d, sc⟩ = .ok (.p k.v) ⟨h, some d', sc⟩ := fun d => by
    obtain ⟨j, d1, hj, e1⟩ := dr d (m := 8) (by decide) (by decide)
    by_cases z : j = 0
    · obtain ⟨i, d2, hi, e2⟩ := dr d1 (m := 3) (by decide) (by decide)
      refine ⟨.c ⟨i, by omega⟩, d2, rfl, fun n env h he => ?_⟩
      subst z
      simp -dsimp [he, e1, cmpV, cmpP, PV.dep, PV.eq, biV, binop, binP, e2, Kd.v]
    · obtain ⟨i, d2, hi, e2⟩ := dr d1 (m := 2) (by decide) (by decide)
      refine ⟨.c ⟨i, by omega⟩, d2, rfl, fun n env h he => ?_⟩
      simp -dsimp [he, e1, cmpV, cmpP, PV.dep, PV.eq, biV, binop, binP, ne0 z, e2, Kd.v]
  intro deep
  induction deep with
  | zero =>
    intro n d hn
    obtain ⟨k, d', hk, e⟩ := lt d
    refine ⟨k, d', by omega, fun h => callP (h := []) (sc := sc) (by omega) rfl rfl rfl rfl rfl ?_⟩
    have e := e (n - 2) [some .hd, some (.p (.int 0))] [] rfl
    simp -dsimp [m__law_kind, cmpV, cmpP, PV.dep, PV.eq, e, -ev_draw]
  | succ deep ih =>
    intro n d hn
    obtain ⟨j, d1, hj, e1⟩ := dr d (m := 3) (by decide) (by decide)
    have hz : ((deep : Int) + 1 == 0) = false := by rw [beq_eq_false_iff_ne]; omega
    by_cases z : j = 0
    · obtain ⟨k, d', hk, e⟩ := lt d1
      refine ⟨k, d', by omega, fun h => callP (h := []) (sc := sc) (by omega) rfl rfl rfl rfl rfl ?_⟩
      have e := e (n - 2) [some .hd, some (.p (.int ((deep : Int) + 1)))] [] rfl
      subst z
      have e0 : ev (CN prog (n - 2)) (.draw (.var 0) (.lit (.int 3))) [some .hd, some (.p (.int ((deep : Int) + 1)))] ⟨[], some d, sc⟩ = .ok (.p (.int 0)) ⟨[], some d1, sc⟩ := by simp -dsimp [e1]
      simp -dsimp [m__law_kind, cmpV, cmpP, PV.dep, PV.eq, hz, e0, e, -ev_draw]
    · obtain ⟨k1, d2, hk1, e2⟩ := ih (n - 2 + 1) d1 (by omega)
      obtain ⟨k2, d3, hk2, e3⟩ := ih (n - 2 + 1) d2 (by omega)
      refine ⟨.f k1 k2, d3, by simp only [Kd.dep]; omega, fun h => callP (h := []) (sc := sc) (by omega) rfl rfl rfl rfl rfl ?_⟩
      have ez : (deep : Int) + 1 - 1 = deep := by omega
      simp -dsimp [m__law_kind, cmpV, cmpP, PV.dep, PV.eq, hz, e1, ne0 z, binop, binP, ez, e2, e3, Kd.v]
theorem Kd.lets_dep : ∀ k : Kd, k.lets ≤ 2 ^ k.dep
  | .c _ => by simp -dsimp [Kd.lets, Kd.dep]
  | .f a b => by
    have h1 := a.lets_dep
    have h2 := b.lets_dep
    have h3 : 2 ^ a.dep ≤ 2 ^ max a.dep b.dep := Nat.pow_le_pow_right (by decide) (by omega)
    have h4 : 2 ^ b.dep ≤ 2 ^ max a.dep b.dep := Nat.pow_le_pow_right (by decide) (by omega)
    simp only [Kd.lets, Kd.dep, Nat.pow_succ]
    omega
theorem th_of {k : Kd} (h : k.dep ≤ 4) : k.th := by
  have h1 := k.lets_dep
  have h2 : 2 ^ k.dep ≤ 2 ^ 4 := Nat.pow_le_pow_right (by decide) h
  exact ⟨by omega, by omega⟩
end
end U
/-! Pl13: names drawn, tables of names. -/
namespace U
theorem Nm.ext {x y : Nm} (h : x.s = y.s) : x = y := by
  cases x; cases y; cases h; rfl
def nmv (x : Nm) : Val := .p (.str x.s)
def nmsL : List (List Nat) := [[120], [121], [122], [117], [118], [113], [102], [103], [104], [109], [110], [111, 110, 101], [116, 119, 111], [116, 104, 114, 101, 101], [97, 98, 99, 100, 101, 102, 103, 104]]
theorem nms_pure (l : List Nm) : (Obj.list (l.map nmv)).pure = true := by simp -dsimp [Obj.pure, nmv, Val.isP]
section
variable {sc : List Int}
theorem s_some {ns : List Nm} (h0 : ns ≠ []) (hl : ns.length ≤ 1000) (n : Nat) (d : Hand) (hn : 2 ≤ n) : ∃ (x : Nm) (d' : Hand), x ∈ ns ∧ ∀ (h : List Obj) (a : Nat), h[a]? = some (.list (ns.map nmv)) → FN prog n F__law_some [.hd, .r a] ⟨h, some d, sc⟩ = .ok (nmv x) ⟨h, some d', sc⟩ := by
  have hp : 0 < ns.length := List.length_pos_iff.mpr h0
  obtain ⟨j, d1, h1, e1⟩ := dr d (m := (ns.length : Int)) (by omega) (by omega)
  have hj : j < ns.length := by omega
  refine ⟨ns[j], d1, List.getElem_mem hj, fun h a ha => ?_⟩
  have hx : atI (ns.map nmv) (j : Int) = some (nmv ns[j]) := atI_nth (by simp -dsimp [hj])
  have := callP1 (P := prog) (n := n) (f := F__law_some) (as := [.hd, .r a]) (s := ⟨h, some d, sc⟩) (a := a) (o := .list (ns.map nmv)) (o' := .list (ns.map nmv)) (v := .str ns[j].s) (h := []) (d := some d1) (sc := sc) (by omega) ha rfl rfl rfl rfl rfl (nms_pure _) (nms_pure _) (by
    simp -dsimp [m__law_some, refs, renum, biV, lenV, e1, idxV, hx]
    rfl)
  rw [this]
  simp only [set_same ha]
  rfl
theorem erase_map {α β : Type} (f : α → β) : ∀ (l : List α) (j : Nat), (l.map f).eraseIdx j = (l.eraseIdx j).map f
  | [], _ => rfl
  | _ :: _, 0 => rfl
  | x :: l, j + 1 => by simp -dsimp [erase_map f l j]
theorem l_shuf {n : Nat} {o : Obj} {v : Option Val} : ∀ (m : Nat) (ns fs : List Nm) (d : Hand), ns.length = m → ns.length + fs.length ≤ 1000 → ∃ (fs' : List Nm) (d' : Hand), (∀ x ∈ fs', x ∈ ns ∨ x ∈ fs) ∧ fs'.length = fs.length + ns.length ∧
    ex (CN prog n) w__law_shuffled_0 [some .hd, v, some (.r 1), some (.r 2)] ⟨[o, .list (ns.map nmv), .list (fs.map nmv)], some d, sc⟩ = .next [some .hd, v, some (.r 1), some (.r 2)] ⟨[o, .list [], .list (fs'.map nmv)], some d', sc⟩
  | 0, ns, fs, d, hm, hl => by
    have : ns = [] := List.length_eq_zero_iff.mp hm
    subst this
    exact ⟨fs, d, fun x hx => .inr hx, by simp, whl_done rfl (by simp -dsimp [whlC, w__law_shuffled_0, biV, lenV, cmpV, cmpP])⟩
  | m + 1, ns, fs, d, hm, hl => by
    obtain ⟨j, d1, h1, e1⟩ := dr d (m := (ns.length : Int)) (by omega) (by omega)
    have hj : j < ns.length := by omega
    obtain ⟨fs', d', q1, q2, q3⟩ := l_shuf (n := n) (o := o) (v := v) m (ns.eraseIdx j) (fs ++ [ns[j]]) d1 (by rw [List.length_eraseIdx]; simp -dsimp [hj]; omega) (by rw [List.length_eraseIdx]; simp -dsimp [hj]; omega)
    refine ⟨fs', d', fun x hx => ?_, by rw [q2, List.length_eraseIdx]; simp -dsimp [hj]; omega, Eq.trans (whl_next (s1 := ⟨[o, .list (ns.map nmv), .list (fs.map nmv)], some d, sc⟩) rfl ?_ ?_) q3⟩
    · rcases q1 x hx with h | h
      · exact .inl (List.mem_of_mem_eraseIdx h)
      · simp at h
        rcases h with h | h
        · exact .inr h
        · exact .inl (by rw [h]; exact List.getElem_mem hj)
    · have : (0 : Int) < (ns.length : Int) := by omega
      have h0 : 0 < ns.length := by omega
      simp -dsimp [whlC, w__law_shuffled_0, biV, lenV, cmpV, cmpP, h0]
    · have hx : ixN (ns.map nmv).length (j : Int) = some j := ixN_nat (by simpa using hj)
      have hx2 : (ns.map nmv)[j]? = some (nmv ns[j]) := by simp -dsimp [hj]
      have hb := bnd (m := fs.length) (by omega)
      simp only [List.length_map] at hx
      simp -dsimp [whlB, w__law_shuffled_0, biV, lenV, e1, bmTag, bmV, hx, hj, setO, erase_map, hb]
theorem s_shuf {ns : List Nm} (hl : ns.length ≤ 1000) (n : Nat) (d : Hand) (hn : 2 ≤ n) : ∃ (fs : List Nm) (d' : Hand), (∀ x ∈ fs, x ∈ ns) ∧ fs.length = ns.length ∧ ∀ (h : List Obj) (a : Nat), h[a]? = some (.list (ns.map nmv)) → FN prog n F__law_shuffled [.hd, .r a] ⟨h, some d, sc⟩ = .ok (.r h.length) ⟨h ++ [.list (fs.map nmv)], some d', sc⟩ := by
  obtain ⟨m, rfl⟩ : ∃ m, n = m + 2 := ⟨n - 2, by omega⟩
  obtain ⟨fs, d', q1, q2, q3⟩ := l_shuf (n := m) (sc := sc) (o := .list (ns.map nmv)) (v := some (.r 0)) ns.length ns [] d rfl (by simpa using hl)
  refine ⟨fs, d', fun x hx => by simpa using q1 x hx, by simpa using q2, fun h a ha => ?_⟩
  have hf := nms_pure fs
  refine (call1 (s := ⟨h, some d, sc⟩) (a := a) (o := .list (ns.map nmv)) (o' := .list (ns.map nmv)) (h := [.list [], .list (fs.map nmv)]) (v := .r 2) (d := some d') (sc := sc) rfl rfl rfl rfl rfl ha (nms_pure ns) ?_ (nms_pure ns)).trans ?_
  · simp at q3
    simp -dsimp [m__law_shuffled, refs, renum, biV, itemsOf, new, q3]
  · simp -dsimp [land1, landV, hf, set_same ha]
def pv (q : Nm × Kd) : Val := .p (.tup [.str q.1.s, q.2.v])
theorem l_known {n : Nat} (hn : 4 ≤ n) {h : List Obj} {g : List (Nat × List Val)} {x1 x2 x3 : Option Val} (hg : ∀ d, still ⟨h, some d, sc⟩ g = true) : ∀ (ns : List Nm) (d : Hand), ∃ (ps : List (Nm × Kd)) (d' : Hand), (∀ q ∈ ps, q.1 ∈ ns ∧ q.2.dep ≤ 2) ∧ ps.length = ns.length ∧
    turns (fun s => still s g) (fun v => (cT c__law_known_0).bind v (wipeE [some .hd, x1, x2, x3] (cT c__law_known_0).slots)) (fun env s => evC (CN prog n) (cC c__law_known_0) env s) (fun env s => ev (CN prog n) (cE c__law_known_0) env s) (ns.map nmv) ⟨h, some d, sc⟩ = .ok (ps.map pv) ⟨h, some d', sc⟩
  | [], d => ⟨[], d, by simp, rfl, by simp -dsimp [turns, hg]⟩
  | y :: ns, d => by
    obtain ⟨k, d1, hk, e⟩ := s_kind (sc := sc) 2 (n + 1) d (by omega)
    obtain ⟨ps, d', q1, q2, q3⟩ := l_known hn (x1 := x1) (x2 := x2) (x3 := x3) hg ns d1
    refine ⟨(y, k) :: ps, d', fun q hq => ?_, by simp -dsimp [q2], ?_⟩
    · rcases List.mem_cons.mp hq with rfl | hq
      · exact ⟨List.mem_cons_self .., hk⟩
      · exact ⟨List.mem_cons_of_mem _ (q1 q hq).1, (q1 q hq).2⟩
    · simp only [List.map_cons, turns, hg, if_true]
      have e1 : (cT c__law_known_0).bind (nmv y) (wipeE [some .hd, x1, x2, x3] (cT c__law_known_0).slots) = some [some .hd, x1, x2, some (nmv y)] := rfl
      have e2 : evC (CN prog n) (cC c__law_known_0) [some .hd, x1, x2, some (nmv y)] ⟨h, some d, sc⟩ = .ok true ⟨h, some d, sc⟩ := by simp -dsimp [cC, c__law_known_0]
      have e3 : ev (CN prog n) (cE c__law_known_0) [some .hd, x1, x2, some (nmv y)] ⟨h, some d, sc⟩ = .ok (pv (y, k)) ⟨h, some d1, sc⟩ := by
        have e := e h
        simp at e
        simp -dsimp [cE, c__law_known_0, e, nmv, pv]
      simp only [e1, e2, R.quiet_ok, R.bind_ok, e3, if_true, q3]
def kNames : List Nm := [⟨[102], by decide, by decide, by decide⟩, ⟨[103], by decide, by decide, by decide⟩, ⟨[104], by decide, by decide, by decide⟩, ⟨[109], by decide, by decide, by decide⟩, ⟨[110], by decide, by decide, by decide⟩, ⟨[111, 110, 101], by decide, by decide, by decide⟩, ⟨[116, 119, 111], by decide, by decide, by decide⟩, ⟨[116, 104, 114, 101, 101], by decide, by decide, by decide⟩, ⟨[97, 98, 99, 100, 101, 102, 103, 104], by decide, by decide, by decide⟩]
theorem kNames_in : ∀ x ∈ kNames, x.s ∈ nmsL := by decide
theorem allP_pv : ∀ ps : List (Nm × Kd), allP (ps.map pv) = some (ps.map fun q => .tup [.str q.1.s, q.2.v])
  | [] => rfl
  | q :: ps => by simp only [List.map_cons, pv, allP] at *; rw [show (ps.map pv) = ps.map pv from rfl, allP_pv ps]; rfl
theorem cut_to {α : Type} (xs : List α) (m : Nat) : cut xs none (some (m : Int)) = xs.take m := by
  unfold cut sIx
  have : ¬ ((m : Int) < 0) := by omega
  simp only [this, if_false, Int.toNat_natCast, Nat.sub_zero, List.drop_zero]
  exact (List.take_eq_take_min).symm
theorem s_known (n : Nat) (d : Hand) (hn : 6 ≤ n) : ∃ (ps : List (Nm × Kd)) (d' : Hand), (∀ q ∈ ps, q.1.s ∈ nmsL ∧ q.2.dep ≤ 2) ∧ ps.length = 3 ∧ ∀ (h : List Obj), FN prog n F__law_known [.hd, .p (.int 3)] ⟨h, some d, sc⟩ = .ok (.p (.tup (ps.map fun q => .tup [.str q.1.s, q.2.v]))) ⟨h, some d', sc⟩ := by
  obtain ⟨fs, d1, a1, a2, a3⟩ := s_shuf (sc := sc) (ns := kNames) (by decide) (n - 2 + 1) d (by omega)
  obtain ⟨ps, d2, b1, b2, b3⟩ := l_known (sc := sc) (n := n - 2) (h := [.list (kNames.map nmv), .list (fs.map nmv), .list ((fs.take 3).map nmv)]) (g := [(2, (fs.take 3).map nmv)]) (x1 := some (.p (.int 3))) (x2 := some (.r 2)) (x3 := none) (by omega) (fun d => still_at rfl) (fs.take 3) d1
  refine ⟨ps, d2, fun q hq => ⟨kNames_in _ (a1 _ (List.mem_of_mem_take (b1 q hq).1)), (b1 q hq).2⟩, by rw [b2, List.length_take, a2]; rfl, fun h => callP (h := [.list (kNames.map nmv), .list (fs.map nmv), .list ((fs.take 3).map nmv)]) (sc := sc) (by omega) rfl rfl rfl rfl rfl ?_⟩
  have h3 := a3 [.list (kNames.map nmv)] 0 rfl
  have hcut := cut_to (fs.map nmv) 3
  rw [← List.map_take] at hcut
  have hL : evL (CN prog (n - 2)) c__law_known_0 [some .hd, some (.p (.int 3)), some (.r 2), none] ⟨[.list (kNames.map nmv), .list (fs.map nmv), .list ((fs.take 3).map nmv)], some d1, sc⟩ = .ok (ps.map pv) ⟨[.list (kNames.map nmv), .list (fs.map nmv), .list ((fs.take 3).map nmv)], some d2, sc⟩ := by
    rw [show c__law_known_0 = .comp (cT c__law_known_0) (cI c__law_known_0) (cC c__law_known_0) (cE c__law_known_0) from rfl, evL_comp]
    have hI : evI (CN prog (n - 2)) (cI c__law_known_0) [some .hd, some (.p (.int 3)), some (.r 2), none] ⟨[.list (kNames.map nmv), .list (fs.map nmv), .list ((fs.take 3).map nmv)], some d1, sc⟩ = .ok ((fs.take 3).map nmv, [(2, (fs.take 3).map nmv)]) ⟨[.list (kNames.map nmv), .list (fs.map nmv), .list ((fs.take 3).map nmv)], some d1, sc⟩ := by simp -dsimp [cI, c__law_known_0, itemsOf, guardOf]
    rw [hI, R.bind_ok]
    have hl : ((fs.take 3).map nmv).length ≤ LIM := by simp; omega
    simp only
    rw [if_pos hl]
    exact b3
  have hm : mkTup (ps.map pv) = .p (.tup (ps.map fun q => .tup [.str q.1.s, q.2.v])) := by unfold mkTup; rw [allP_pv]
  simp only [kNames, List.map_cons, List.map_nil, nmv] at h3 hL
  try simp at h3
  try simp at hcut
  try simp at hL
  simp -dsimp [m__law_known, new, h3, slcV, nmv, kNames]
  simp -dsimp [hcut, hL, lbV, hm]
end
end U
/-! Pl14: ends, tables, heads. -/
namespace U
def Kd.lefts : Kd → List Kd
  | .c _ => []
  | .f a b => a :: b.lefts
def Kd.kend : Kd → Fin 26
  | .c n => n
  | .f _ b => b.kend
theorem Kd.lefts_dep : ∀ (k : Kd), k.lefts.length ≤ k.dep ∧ ∀ l ∈ k.lefts, l.dep ≤ k.dep
  | .c _ => ⟨by simp -dsimp [Kd.lefts], by simp -dsimp [Kd.lefts]⟩
  | .f a b => by
    obtain ⟨h1, h2⟩ := b.lefts_dep
    refine ⟨by simp only [Kd.lefts, Kd.dep, List.length_cons]; omega, fun l hl => ?_⟩
    simp only [Kd.lefts, List.mem_cons] at hl
    simp only [Kd.dep]
    rcases hl with rfl | hl
    · omega
    · have := h2 l hl; omega
theorem Kd.lefts_c {k : Kd} (h : k.isF = false) : k.lefts = [] := by cases k <;> simp -dsimp [Kd.isF, Kd.lefts] at *
theorem l_ends {n : Nat} {d : Option Hand} {sc : List Int} : ∀ (k : Kd) (ls : List Kd), ls.length + k.dep ≤ 1000 →
    ex (CN prog n) w__law_ends_0 [some (.p k.v), some (.r 0)] ⟨[.list (kvs ls)], d, sc⟩ = .next [some (.p (.int k.kend.val)), some (.r 0)] ⟨[.list (kvs (ls ++ k.lefts))], d, sc⟩
  | .c m, ls, _ => by
    refine whl_done rfl ?_
    simp -dsimp [whlC, w__law_ends_0, isiAny, isiV, tyP, Kd.v, Kd.lefts, Kd.kend]
  | .f a b, ls, hl => by
    simp only [Kd.dep] at hl
    have ih := l_ends (n := n) (d := d) (sc := sc) b (ls ++ [a]) (by simp; omega)
    rw [List.append_assoc] at ih
    refine Eq.trans (whl_next (s1 := ⟨[.list (kvs ls)], d, sc⟩) rfl ?_ ?_) ih
    · simp -dsimp [whlC, w__law_ends_0, isiAny, isiV, tyP, Kd.v]
    · have hb := bnd (m := ls.length) (by omega)
      have e : (kvs ls).length = ls.length := by simp -dsimp [kvs]
      simp -dsimp [whlB, w__law_ends_0, Kd.v, bmTag, idxV, atI, ixN, bmV, e, hb, setO, kvs_app]
theorem s_ends {n : Nat} {s : S} {k : Kd} (hk : k.dep ≤ 900) (hn : 2 ≤ n) : FN prog n F__law_ends [.p k.v] s = .ok (.t [.r s.h.length, .p (.int k.kend.val)]) { s with h := s.h ++ [.list (kvs k.lefts)] } := by
  obtain ⟨m, rfl⟩ : ∃ m, n = m + 2 := ⟨n - 2, by omega⟩
  have h := l_ends (n := m) (d := s.d) (sc := s.sc) k [] (by simp; omega)
  simp only [List.nil_append] at h
  have hp := kvs_pure k.lefts
  refine (call0 (s := s) (h := [.list (kvs k.lefts)]) (d := s.d) (v := .t [.r 0, .p (.int k.kend.val)]) (sc := s.sc) rfl rfl rfl rfl rfl ?_).trans ?_
  · simp -dsimp [kvs] at h
    simp -dsimp [m__law_ends, new, h, kvs]
    rfl
  · simp -dsimp [land0, landV, landV.landT, refs, nodup, hp]
/-! ### tables -/
def dv (D : List (Nm × Kd)) : List (PV × Val) := D.map fun q => (.str q.1.s, .p q.2.v)
theorem dv_pure (D : List (Nm × Kd)) : (Obj.dict (dv D)).pure = true := by simp -dsimp [Obj.pure, dv, Val.isP]
def putD (x : Nm) (k : Kd) (D : List (Nm × Kd)) : List (Nm × Kd) := if D.any fun q => q.1.s == x.s then D.map fun q => if q.1.s == x.s then (q.1, k) else q else D ++ [(x, k)]
theorem dput_dv (x : Nm) (k : Kd) (D : List (Nm × Kd)) : dput (.str x.s) (.p k.v) (dv D) = dv (putD x k D) := by
  have e : ((dv D).any fun q => q.1.beq (.str x.s)) = D.any fun q => q.1.s == x.s := by
    simp -dsimp [dv, List.any_map, Function.comp_def, PV.beq]
  unfold dput putD
  rw [e]
  split
  · simp only [dv, List.map_map]
    apply List.map_congr_left
    intro q _
    simp only [Function.comp_def, PV.beq]
    split
    · rename_i hq; simp -dsimp [hq]
    · rename_i hq; simp -dsimp [hq]
  · simp -dsimp [dv]
structure DOk (D : List (Nm × Kd)) : Prop where
  nm : ∀ q ∈ D, q.1.s ∈ nmsL ∧ q.2.dep ≤ 2
  nd : (D.map fun q => q.1.s).Nodup
theorem nodup_le {α : Type} [DecidableEq α] : ∀ {l L : List α}, l.Nodup → (∀ x ∈ l, x ∈ L) → l.length ≤ L.length
  | [], L, _, _ => by simp
  | x :: l, L, h, hs => by
    rw [List.nodup_cons] at h
    have hx := hs x (List.mem_cons_self ..)
    have := nodup_le (l := l) (L := L.erase x) h.2 fun y hy => (List.mem_erase_of_ne (fun e : y = x => h.1 (by rw [← e]; exact hy))).mpr (hs y (List.mem_cons_of_mem _ hy))
    rw [List.length_erase_of_mem hx] at this
    have : 0 < L.length := List.length_pos_of_mem hx
    simp only [List.length_cons]; omega
theorem DOk.len {D : List (Nm × Kd)} (h : DOk D) : D.length ≤ 15 := by
  have := nodup_le (l := D.map fun q => q.1.s) (L := nmsL) h.nd fun x hx => by
    obtain ⟨q, hq, rfl⟩ := List.mem_map.mp hx
    exact (h.nm q hq).1
  simpa [nmsL] using this
theorem DOk.put {D : List (Nm × Kd)} (h : DOk D) {x : Nm} {k : Kd} (hx : x.s ∈ nmsL) (hk : k.dep ≤ 2) : DOk (putD x k D) := by
  unfold putD
  split
  · refine ⟨fun q hq => ?_, ?_⟩
    · obtain ⟨q0, h0, rfl⟩ := List.mem_map.mp hq
      split
      · exact ⟨(h.nm q0 h0).1, hk⟩
      · exact h.nm q0 h0
    · rw [List.map_map]
      have : (fun q : Nm × Kd => q.1.s) ∘ (fun q => if q.1.s == x.s then (q.1, k) else q) = fun q => q.1.s := by
        funext q; simp only [Function.comp_def]; split <;> rfl
      rw [this]; exact h.nd
  · rename_i hn
    refine ⟨fun q hq => ?_, ?_⟩
    · rcases List.mem_append.mp hq with hq | hq
      · exact h.nm q hq
      · simp at hq; subst hq; exact ⟨hx, hk⟩
    · rw [List.map_append, List.nodup_append]
      refine ⟨h.nd, by simp, fun a ha b hb e => hn ?_⟩
      simp at hb; subst hb; subst e
      obtain ⟨q, hq, hqe⟩ := List.mem_map.mp ha
      exact List.any_eq_true.mpr ⟨q, hq, by simpa using hqe⟩
theorem dget_dv : ∀ {D : List (Nm × Kd)} {x : Nm}, x ∈ D.map (·.1) → ∃ k, (∃ y, (y, k) ∈ D) ∧ dget (.str x.s) (dv D) = some (.p k.v)
  | [], x, h => by simp at h
  | (y, k) :: D, x, h => by
    by_cases e : y.s = x.s
    · exact ⟨k, ⟨y, List.mem_cons_self ..⟩, by simp -dsimp [dv, dget, PV.beq, e]⟩
    · have hx : x ∈ D.map (·.1) := by
        simp only [List.map_cons, List.mem_cons] at h
        rcases h with h | h
        · exact absurd (by rw [h]) e
        · exact h
      obtain ⟨k2, ⟨y2, h2⟩, h3⟩ := dget_dv hx
      refine ⟨k2, ⟨y2, List.mem_cons_of_mem _ h2⟩, ?_⟩
      have e' : (y.s == x.s) = false := by simpa using e
      simp only [dv, List.map_cons, dget, PV.beq, e']
      simpa [dv] using h3
theorem mergeD_pv : ∀ (ps : List (Nm × Kd)) (D : List (Nm × Kd)), mergeD (ps.map pv) (dv D) = some (dv (ps.foldl (fun D q => putD q.1 q.2 D) D))
  | [], D => rfl
  | q :: ps, D => by
    simp only [List.map_cons, pv, mergeD, PV.key, if_true, dput_dv, List.foldl_cons]
    exact mergeD_pv ps _
theorem DOk.fold : ∀ {ps D : List (Nm × Kd)}, (∀ q ∈ ps, q.1.s ∈ nmsL ∧ q.2.dep ≤ 2) → DOk D → DOk (ps.foldl (fun D q => putD q.1 q.2 D) D)
  | [], D, _, h => h
  | q :: ps, D, hp, h => DOk.fold (ps := ps) (fun q hq => hp q (List.mem_cons_of_mem _ hq)) (h.put (hp q (List.mem_cons_self ..)).1 (hp q (List.mem_cons_self ..)).2)
theorem lift_nm {L : List Nm} : ∀ ss : List (List Nat), (∀ s ∈ ss, ∃ x ∈ L, x.s = s) → ∃ l : List Nm, l.map (·.s) = ss ∧ ∀ x ∈ l, x ∈ L
  | [], _ => ⟨[], rfl, by simp⟩
  | s :: ss, h => by
    obtain ⟨x, hx, e⟩ := h s (List.mem_cons_self ..)
    obtain ⟨l, h1, h2⟩ := lift_nm ss fun s hs => h s (List.mem_cons_of_mem _ hs)
    exact ⟨x :: l, by simp -dsimp [e, h1], fun y hy => by rcases List.mem_cons.mp hy with rfl | hy; exact hx; exact h2 y hy⟩
theorem sorted_dv {D : List (Nm × Kd)} (hD : D.length ≤ 15) : ∃ l : List Nm, sortedP ((dv D).map fun q => .p q.1) = some (l.map nmv) ∧ (∀ x ∈ l, x ∈ D.map (·.1)) ∧ l.length = D.length := by
  have e0 : ((dv D).map fun q => Val.p q.1) = sts (D.map fun q => q.1.s) := by simp -dsimp [dv, sts, List.map_map, Function.comp_def]
  cases D with
  | nil => exact ⟨[], by simp -dsimp [dv, sortedP, allI], by simp, rfl⟩
  | cons q D =>
    obtain ⟨l, h1, h2⟩ := lift_nm (L := (q :: D).map (·.1)) (((q :: D).map fun q => q.1.s).mergeSort leS) fun s hs => by
      rw [List.mem_mergeSort] at hs
      obtain ⟨z, hz, rfl⟩ := List.mem_map.mp hs
      exact ⟨z.1, List.mem_map_of_mem hz, rfl⟩
    refine ⟨l, ?_, h2, ?_⟩
    · rw [e0]
      unfold sortedP
      rw [if_pos (by rw [sts_len, List.length_map]; omega)]
      have hI : allI (sts ((q :: D).map fun q => q.1.s)) = none := rfl
      rw [hI]
      simp only [allS_sts]
      rw [← h1]
      simp -dsimp [nmv, List.map_map, Function.comp_def]
    · have := congrArg List.length h1
      rw [List.length_map, List.length_mergeSort, List.length_map] at this
      exact this
section
variable {sc : List Int}
def HeadOk (D : List (Nm × Kd)) (e : Fin 26) (deep : Nat) (x : Nm) : Prop := ∃ k, (∃ y, (y, k) ∈ D) ∧ dget (.str x.s) (dv D) = some (.p k.v) ∧ k.kend = e ∧ (0 < deep ∨ k.isF = false)
theorem l_heads {n : Nat} {d : Option Hand} {D : List (Nm × Kd)} (hD : DOk D) {e : Fin 26} {deep : Nat} {L : List Val} : ∀ (l fs : List Nm) (g : List Obj) (x0 : Option Val), (∀ x ∈ l, x ∈ D.map (·.1)) → (∀ x ∈ fs, HeadOk D e deep x) → fs.length + l.length ≤ 1000 →
    ∃ (fs' : List Nm) (g' : List Obj) (x1 : Option Val), (∀ x ∈ fs', HeadOk D e deep x) ∧ fs'.length ≤ fs.length + l.length ∧ forS (CN prog (n + 1)) [(2, L)] (forT w__law_heads_0) (forB w__law_heads_0) (l.map nmv) [some (.r 0), some (.p (.int e.val)), some (.p (.int (deep : Int))), some (.r 1), x0] ⟨.dict (dv D) :: .list (fs.map nmv) :: .list L :: g, d, sc⟩ =
      .next [some (.r 0), some (.p (.int e.val)), some (.p (.int (deep : Int))), some (.r 1), x1] ⟨.dict (dv D) :: .list (fs'.map nmv) :: .list L :: g', d, sc⟩
  | [], fs, g, x0, _, h, _ => ⟨fs, g, x0, h, by simp, for_nil (still_at rfl)⟩
  | x :: l, fs, g, x0, hl, hf, hn => by
    obtain ⟨k, hk, hg⟩ := dget_dv (hl x (List.mem_cons_self ..))
    have hl' : ∀ y ∈ l, y ∈ D.map (·.1) := fun y hy => hl y (List.mem_cons_of_mem _ hy)
    obtain ⟨y, hy⟩ := hk
    have hdep := (hD.nm _ hy).2
    have he := fun (h : List Obj) => s_ends (n := n + 2) (s := ⟨h, d, sc⟩) (k := k) (by simp at hdep; omega) (by omega)
    simp at hn
    have hb := bnd (m := fs.length) (by omega)
    have hF : isiV (.p k.v) .tuple = fun s => some k.isF := by funext s; cases k <;> rfl
    have hiF : ∀ s, isiAny (.p k.v) s [.tuple] = some k.isF := fun s => by cases k <;> simp -dsimp [isiAny, isiV, tyP, Kd.v, Kd.isF]
    by_cases c1 : k.kend = e ∧ (0 < deep ∨ k.isF = false)
    · obtain ⟨fs', g', x1, q1, q3, q2⟩ := l_heads (n := n) (d := d) (deep := deep) (e := e) (L := L) hD l (fs ++ [x]) (g ++ [.list (kvs k.lefts)]) (some (nmv x)) hl' (fun z hz => by
        rcases List.mem_append.mp hz with hz | hz
        · exact hf z hz
        · simp at hz; subst hz; exact ⟨k, ⟨y, hy⟩, hg, c1.1, c1.2⟩) (by simp; omega)
      refine ⟨fs', g', x1, q1, by simp at q3 ⊢; omega, (for_cons (still_at rfl) rfl ?_).trans q2⟩
      obtain ⟨c2, c3⟩ := c1
      subst c2
      by_cases c4 : 0 < deep
      · simp -dsimp [forB, w__law_heads_0, nmv, idxV, PV.key, hg, he, atI, ixN, cmpV, cmpP, PV.dep, PV.eq, c4, bmTag, bmV, hb, setO]
      · have c5 : k.isF = false := by rcases c3 with h | h; exact absurd h c4; exact h
        simp -dsimp [forB, w__law_heads_0, nmv, idxV, PV.key, hg, he, atI, ixN, cmpV, cmpP, PV.dep, PV.eq, c4, hiF, c5, bmTag, bmV, hb, setO]
    · obtain ⟨fs', g', x1, q1, q3, q2⟩ := l_heads (n := n) (d := d) (deep := deep) (e := e) (L := L) hD l fs (g ++ [.list (kvs k.lefts)]) (some (nmv x)) hl' hf (by omega)
      refine ⟨fs', g', x1, q1, by simp; omega, (for_cons (still_at rfl) rfl ?_).trans q2⟩
      by_cases c2 : k.kend = e
      · subst c2
        have c4 : ¬ 0 < deep := fun h => c1 ⟨rfl, .inl h⟩
        have c5 : k.isF = true := by cases hq : k.isF with
          | true => rfl
          | false => exact absurd ⟨rfl, .inr hq⟩ c1
        simp -dsimp [forB, w__law_heads_0, nmv, idxV, PV.key, hg, he, atI, ixN, cmpV, cmpP, PV.dep, PV.eq, c4, hiF, c5]
      · have c3 : ((k.kend.val : Int) == (e.val : Int)) = false := by
          rw [beq_eq_false_iff_ne]; intro h; exact c2 (Fin.ext (by omega))
        simp -dsimp [forB, w__law_heads_0, nmv, idxV, PV.key, hg, he, atI, ixN, cmpV, cmpP, PV.dep, PV.eq, c3]
theorem s_heads {n : Nat} {D : List (Nm × Kd)} (hD : DOk D) (e : Fin 26) (deep : Nat) (hn : 4 ≤ n) (d : Option Hand) : ∃ fs : List Nm, (∀ x ∈ fs, HeadOk D e deep x) ∧ fs.length ≤ 15 ∧ ∀ (h : List Obj) (a : Nat), h[a]? = some (.dict (dv D)) → FN prog n F__law_heads [.r a, .p (.int e.val), .p (.int (deep : Int))] ⟨h, d, sc⟩ = .ok (.r h.length) ⟨h ++ [.list (fs.map nmv)], d, sc⟩ := by
  obtain ⟨m, rfl⟩ : ∃ m, n = m + 3 := ⟨n - 3, by omega⟩
  obtain ⟨l, h1, h2, h4⟩ := sorted_dv hD.len
  have h5 := hD.len
  obtain ⟨fs, g, x1, q1, q3, q2⟩ := l_heads (n := m) (sc := sc) (d := d) (deep := deep) (e := e) (L := l.map nmv) hD l [] [] none h2 (by simp) (by simp; omega)
  refine ⟨fs, q1, by simp at q3; omega, fun h a ha => ?_⟩
  have hs := for_start (s := ⟨[.dict (dv D), .list []], d, sc⟩) (env := [some (.r 0), some (.p (.int e.val)), some (.p (.int (deep : Int))), some (.r 1), none]) rfl (by simp -dsimp [forI, w__law_heads_0, biV, itemsOf, h1, new, guardOf]) q2
  have hp := nms_pure fs
  refine (call1 (s := ⟨h, d, sc⟩) (a := a) (o := .dict (dv D)) (o' := .dict (dv D)) (h := .list (fs.map nmv) :: .list (l.map nmv) :: g) (v := .r 1) (d := d) (sc := sc) rfl rfl rfl rfl rfl ha (dv_pure D) ?_ (dv_pure D)).trans ?_
  · simp -dsimp [m__law_heads, refs, renum, new, hs]
  · simp -dsimp [land1, landV, hp, set_same ha]
end
end U
/-! Pl15: programs that fit. -/
namespace U
def Pg.k2 : Pg → Prop
  | .nm _ => True
  | .tk _ k b => k.dep ≤ 2 ∧ b.k2
  | .us f a => f.k2 ∧ a.k2
theorem Pg.k2.th : ∀ {p : Pg}, p.k2 → p.th
  | .nm _, _ => trivial
  | .tk _ k b, ⟨h1, h2⟩ => ⟨th_of (by omega), Pg.k2.th h2⟩
  | .us f a, ⟨h1, h2⟩ => ⟨Pg.k2.th h1, Pg.k2.th h2⟩
def wrapT (ts : List (Nm × Kd)) (p : Pg) : Pg := ts.foldr (fun q p => .tk q.1 q.2 p) p
def tkv (q : Nm × Kd) : PV := .tup [.str q.1.s, q.2.v]
theorem wrapT_ws : ∀ (ts : List (Nm × Kd)) (p : Pg), (wrapT ts p).ws.map Wrd.v = ts.map tkv ++ p.ws.map Wrd.v
  | [], p => rfl
  | q :: ts, p => by
    have := wrapT_ws ts p
    simp only [wrapT, List.foldr_cons, Pg.ws, List.map_cons, List.cons_append] at this ⊢
    rw [this]; rfl
theorem wrapT_len (ts : List (Nm × Kd)) (p : Pg) : (wrapT ts p).ws.length = ts.length + p.ws.length := by
  have := congrArg List.length (wrapT_ws ts p)
  simpa using this
theorem wrapT_k2 : ∀ {ts : List (Nm × Kd)} {p : Pg}, (∀ q ∈ ts, q.2.dep ≤ 2) → p.k2 → (wrapT ts p).k2
  | [], p, _, h => h
  | q :: ts, p, h1, h => ⟨h1 q (List.mem_cons_self ..), wrapT_k2 (fun q hq => h1 q (List.mem_cons_of_mem _ hq)) h⟩
def mkN (l : List Nat) (h : 1 ≤ l.length ∧ l.length ≤ 8 ∧ ∀ c ∈ l, isSm c = true) : Nm := ⟨l, h.1, h.2.1, h.2.2⟩
abbrev nX : Nm := mkN [120] (by decide)
abbrev nY : Nm := mkN [121] (by decide)
abbrev nZ : Nm := mkN [122] (by decide)
abbrev nU : Nm := mkN [117] (by decide)
abbrev nV : Nm := mkN [118] (by decide)
abbrev nQ : Nm := mkN [113] (by decide)
abbrev nW : Nm := mkN [119] (by decide)
def lsA : List Nm := [nX, nY, nZ, nX, nU, nV]
def lsB : List Nm := [nX, nY, nQ]
theorem lsA_v : lsA.map nmv = [.p (.str [120]), .p (.str [121]), .p (.str [122]), .p (.str [120]), .p (.str [117]), .p (.str [118])] := rfl
theorem lsB_v : lsB.map nmv = [.p (.str [120]), .p (.str [121]), .p (.str [113])] := rfl
theorem lsA_in : ∀ x ∈ lsA, x.s ∈ nmsL := by decide
theorem lsB_in : ∀ x ∈ lsB, x.s ∈ nmsL := by decide
theorem get_app1 {α : Type} (h : List α) (a b : α) : (h ++ [a, b])[h.length + 1]? = some b := by
  rw [List.getElem?_append_right (by omega)]; simp
theorem set_app1 {α : Type} (h : List α) (a b c : α) : (h ++ [a, b]).set (h.length + 1) c = h ++ [a, c] := by
  rw [List.set_append_right _ _ (by omega)]; simp
def LL : Nat → Nat
  | 0 => 3
  | n + 1 => 7 + 4 * LL n
section
variable {sc : List Int}
def FitSpec (sc : List Int) (dp n : Nat) : Prop := ∀ (D : List (Nm × Kd)), DOk D → ∀ (k : Kd), k.dep ≤ 2 → ∀ (d : Hand), ∃ (p : Pg) (d' : Hand), p.k2 ∧ p.ws.length ≤ LL dp ∧ ∀ (h : List Obj) (a : Nat), h[a]? = some (.dict (dv D)) → FN prog n F__law_fit [.hd, .r a, .p k.v, .p (.int (dp : Int))] ⟨h, some d, sc⟩ = .ok (.p p.v) ⟨h, some d', sc⟩
theorem l_left {n : Nat} (hn : 4 ≤ n) {dk : Obj} {L0 : List Val} {v2 v3 v5 v9 v11 v12 v13 : Option Val} : ∀ (ls : List Kd), (∀ l ∈ ls, l.dep ≤ 2) → ∀ (D : List (Nm × Kd)) (ts : List (Nm × Kd)) (g : List Obj) (d : Hand) (x8 x10 : Option Val), DOk D → (∀ q ∈ ts, q.2.dep ≤ 2) → ts.length + ls.length ≤ 1000 →
    ∃ (D' ts' : List (Nm × Kd)) (g' : List Obj) (d' : Hand) (y8 y10 : Option Val), DOk D' ∧ (∀ q ∈ ts', q.2.dep ≤ 2) ∧ ts'.length = ts.length + ls.length ∧
      forS (CN prog n) [(1, L0)] (forT w__law_fit_1) (forB w__law_fit_1) (kvs ls) [some .hd, some (.r 0), v2, v3, some (.r 1), v5, some (.r 2), some (.p (.tup (ts.map tkv))), x8, v9, x10, v11, v12, v13] ⟨dk :: .list L0 :: .dict (dv D) :: g, some d, sc⟩ =
      .next [some .hd, some (.r 0), v2, v3, some (.r 1), v5, some (.r 2), some (.p (.tup (ts'.map tkv))), y8, v9, y10, v11, v12, v13] ⟨dk :: .list L0 :: .dict (dv D') :: g', some d', sc⟩
  | [], _, D, ts, g, d, x8, x10, hD, ht, hl => ⟨D, ts, g, d, x8, x10, hD, ht, by simp, for_nil (still_at rfl)⟩
  | l :: ls, hls, D, ts, g, d, x8, x10, hD, ht, hl => by
    simp at hl
    obtain ⟨x, d1, hx, e⟩ := s_some (sc := sc) (ns := lsA) (by decide) (by decide) (n + 1) d (by omega)
    have hl0 := hls l (List.mem_cons_self ..)
    have e := e (dk :: .list L0 :: .dict (dv D) :: (g ++ [.list (lsA.map nmv)])) (g.length + 1 + 1 + 1) (by simp)
    rw [lsA_v] at e
    obtain ⟨D', ts', g', d', y8, y10, q1, q2, q3, q4⟩ := l_left hn (dk := dk) (L0 := L0) (v2 := v2) (v3 := v3) (v5 := v5) (v9 := v9) (v11 := v11) (v12 := v12) (v13 := v13) ls (fun l hl => hls l (List.mem_cons_of_mem _ hl)) (putD x l D) (ts ++ [(x, l)]) (g ++ [.list (lsA.map nmv)]) d1 (some (.p l.v)) (some (nmv x)) (hD.put (lsA_in _ hx) hl0) (fun q hq => by
      rcases List.mem_append.mp hq with hq | hq
      · exact ht q hq
      · simp at hq; subst hq; exact hl0) (by simp; omega)
    refine ⟨D', ts', g', d', y8, y10, q1, q2, by rw [q3]; simp; omega, (for_cons (still_at rfl) rfl ?_).trans q4⟩
    have hb := bnd (m := ts.length) (by omega)
    have hDl : (dv D).length < 16777216 := by have := hD.len; simp -dsimp [dv]; omega
    rw [lsA_v]
    simp only [nmv] at e ⊢
    simp -dsimp [forB, w__law_fit_1, new, e, binop, binP, hb, setV, PV.key, hDl, dput_dv, setO, tkv]
theorem l_more {n dp : Nat} (hf : FitSpec sc dp (n + 1)) {D : List (Nm × Kd)} (hD : DOk D) {hh : List Obj} (h2 : hh[2]? = some (.dict (dv D))) {j : Nat} {L : List Val} (hj : hh[j]? = some (.list L)) {v1 v2 v4 v5 v7 v9 v10 v12 v13 : Option Val} : ∀ (ls : List Kd), (∀ l ∈ ls, l.dep ≤ 2) → ∀ (p : Pg) (d : Hand) (x8 : Option Val), p.k2 → p.ws.length + ls.length * (1 + LL dp) ≤ 1000000 →
    ∃ (p' : Pg) (d' : Hand) (y8 : Option Val), p'.k2 ∧ p'.ws.length ≤ p.ws.length + ls.length * (1 + LL dp) ∧
      forS (CN prog n) [(j, L)] (forT w__law_fit_0) (forB w__law_fit_0) (kvs ls) [some .hd, v1, v2, some (.p (.int ((dp : Int) + 1))), v4, v5, some (.r 2), v7, x8, v9, v10, some (.p p.v), v12, v13] ⟨hh, some d, sc⟩ =
      .next [some .hd, v1, v2, some (.p (.int ((dp : Int) + 1))), v4, v5, some (.r 2), v7, y8, v9, v10, some (.p p'.v), v12, v13] ⟨hh, some d', sc⟩
  | [], _, p, d, x8, hp, hl => ⟨p, d, x8, hp, by simp, for_nil (still_at hj)⟩
  | l :: ls, hls, p, d, x8, hp, hl => by
    obtain ⟨q, d1, hq, hql, e⟩ := hf D hD l (hls l (List.mem_cons_self ..)) d
    have e := e hh 2 h2
    have hm : (l :: ls).length * (1 + LL dp) = ls.length * (1 + LL dp) + (1 + LL dp) := by simp -dsimp [Nat.add_mul]
    rw [hm] at hl ⊢
    obtain ⟨p', d', y8, q1, q2, q3⟩ := l_more hf hD h2 hj (v1 := v1) (v2 := v2) (v4 := v4) (v5 := v5) (v7 := v7) (v9 := v9) (v10 := v10) (v12 := v12) (v13 := v13) ls (fun l hl => hls l (List.mem_cons_of_mem _ hl)) (.us p q) d1 (some (.p l.v)) ⟨hp, hq⟩ (by simp -dsimp [Pg.ws]; omega)
    refine ⟨p', d', y8, q1, by simp -dsimp [Pg.ws] at q2; omega, (for_cons (still_at hj) rfl ?_).trans q3⟩
    have ez : (dp : Int) + 1 - 1 = dp := by omega
    have b1 : p.ws.length + 1 ≤ 16777216 := by omega
    have b2 : 1 + p.ws.length ≤ 16777216 := by omega
    have b3 : p.ws.length + 1 + q.ws.length ≤ 16777216 := by omega
    have b4 : p.ws.length ≤ 16777215 := by omega
    simp only [Pg.v] at e ⊢
    simp -dsimp [forB, w__law_fit_0, binop, binP, ez, e, b1, b2, b3, b4, Pg.ws, Wrd.v]
end
end U
/-! Pl16: a program that fits. -/
namespace U
@[simp] theorem bindTt (ts : Tgs) (xs : List Val) (env : Env) : (Tg.tup ts).bind (.t xs) env = ts.bind xs env := rfl
@[simp] theorem mk0 : mkTup [] = .p (.tup []) := rfl
def rtB : Bk := .cons (.ret (.bin .add (.var 7) (.var 11))) .nil
def tlF3 : Bk := .cons (.ite (.and (.cmp .gt (.var 3) (.lit (.int 0))) (.cmp .eq (.draw (.var 0) (.lit (.int 6))) (.lit (.int 0)))) (.cons (.par 10 8 (.call F__law_some (.cons (.var 0) (.cons (.lst (.disp (.cons (.lit (.str [120])) (.cons (.lit (.str [121])) (.cons (.lit (.str [113])) .nil))))) .nil))) (.call F__law_kind (.cons (.var 0) (.cons (.lit (.int 1)) .nil))))
  (.cons (.asg (.var 12) (.bi .dict (.cons (.var 6) .nil)))
  (.cons (.asgS (.var 12) (.var 10) (.var 8))
  (.cons (.asg (.var 13) (.call F__law_fit (.cons (.var 0) (.cons (.var 12) (.cons (.var 5) (.cons (.bin .sub (.var 3) (.lit (.int 1))) .nil))))))
  (.cons (.asg (.var 11) (.bin .add (.bin .add (.tup (.cons (.lit (.str [64])) (.cons (.tup (.cons (.var 10) (.cons (.var 8) .nil))) .nil))) (.var 13)) (.call F__law_fit (.cons (.var 0) (.cons (.var 6) (.cons (.var 8) (.cons (.bin .sub (.var 3) (.lit (.int 1))) .nil)))))))
  .nil))))) .nil) rtB
def tlF2 : Bk := .cons (.asg (.var 10) (.call F__law_some (.cons (.var 0) (.cons (.var 9) .nil)))) (.cons (.asg (.var 11) (.tup (.cons (.var 10) .nil))) (.cons w__law_fit_0 tlF3))
def tlF1 : Bk := .cons (.asg (.var 9) (.call F__law_heads (.cons (.var 6) (.cons (.var 5) (.cons (.var 3) .nil))))) (.cons (.ite (.cmp .eq (.bi .len (.cons (.var 9) .nil)) (.lit (.int 0))) (.cons (.ret (.bin .add (.var 7) (.tup (.cons (.call F__law_some (.cons (.var 0) (.cons (.bin .add (.bi .sorted (.cons (.var 6) .nil)) (.lst (.disp (.cons (.lit (.str [119])) .nil)))) .nil))) .nil)))) .nil) .nil) tlF2)
theorem fit_body : m__law_fit.body = .cons (.asg (.tup (.cons (.var 4) (.cons (.var 5) .nil))) (.call F__law_ends (.cons (.var 2) .nil))) (.cons (.asg (.var 6) (.bi .dict (.cons (.var 1) .nil))) (.cons (.asg (.var 7) (.tup .nil)) (.cons w__law_fit_1 tlF1))) := rfl
section
variable {sc : List Int}
theorem eqb0 {m : Nat} (h : 0 < m) : ((m : Int) == 0) = false := by rw [beq_eq_false_iff_ne]; omega
theorem fit3 {n deep : Nat} (hf : ∀ dp, deep = dp + 1 → FitSpec sc dp (n + 1)) (hn : 4 ≤ n) {D : List (Nm × Kd)} (hD : DOk D) {hh : List Obj} (h2 : hh[2]? = some (.dict (dv D))) {ts : List (Nm × Kd)} (hts : ∀ q ∈ ts, q.2.dep ≤ 2) (htl : ts.length ≤ 1000) {e : Fin 26} {v1 v2 v4 v8 v9 v10 v12 v13 : Option Val} (p : Pg) (hp : p.k2) (hpl : p.ws.length + LL deep ≤ 900000) (d : Hand) :
    ∃ (p' : Pg) (d' : Hand) (rr : List Obj), p'.k2 ∧ (deep = 0 → p'.ws.length ≤ ts.length + p.ws.length) ∧ p'.ws.length ≤ ts.length + max p.ws.length (2 + 2 * LL (deep - 1)) ∧
      exs (CN prog n) tlF3 [some .hd, v1, v2, some (.p (.int (deep : Int))), v4, some (.p (.int e.val)), some (.r 2), some (.p (.tup (ts.map tkv))), v8, v9, v10, some (.p p.v), v12, v13] ⟨hh, some d, sc⟩ = .ret (.p p'.v) ⟨hh ++ rr, some d', sc⟩ := by
  have hret : ∀ (p : Pg) (d : Hand) (g : List Obj) (w8 w9 w10 w12 w13 : Option Val), p.ws.length ≤ 900000 → exs (CN prog n) rtB [some .hd, v1, v2, some (.p (.int (deep : Int))), v4, some (.p (.int e.val)), some (.r 2), some (.p (.tup (ts.map tkv))), w8, w9, w10, some (.p p.v), w12, w13] ⟨g, some d, sc⟩ = .ret (.p (wrapT ts p).v) ⟨g, some d, sc⟩ := fun p d g w8 w9 w10 w12 w13 hl => by
    have b1 : ts.length + p.ws.length ≤ 16777216 := by omega
    have e1 := wrapT_ws ts p
    simp -dsimp [rtB, binop, binP, Pg.v, b1, e1]
  unfold tlF3
  rcases deep with _ | dp
  · refine ⟨wrapT ts p, d, [], wrapT_k2 hts hp, fun _ => by rw [wrapT_len]; omega, by rw [wrapT_len]; omega, ?_⟩
    have := hret p d hh v8 v9 v10 v12 v13 (by omega)
    simp at this
    simp -dsimp [cmpV, cmpP, this]
  · have hfd := hf dp rfl
    obtain ⟨j, d1, hj, e1⟩ := dr d (m := 6) (by decide) (by decide)
    have hpos : (0 : Int) < (dp : Int) + 1 := by omega
    by_cases z : j = 0
    · subst z
      obtain ⟨x, d2, hx, e2⟩ := s_some (sc := sc) (ns := lsB) (by decide) (by decide) (n + 1) d1 (by omega)
      obtain ⟨kl, d3, hkl, e3⟩ := s_kind (sc := sc) 1 (n + 1) d2 (by omega)
      have hD2 := hD.put (lsB_in x hx) (show kl.dep ≤ 2 by omega)
      obtain ⟨pb, d4, q1, q2, q3⟩ := hfd _ hD2 (.c e) (by simp -dsimp [Kd.dep]) d3
      obtain ⟨pa, d5, r1, r2, r3⟩ := hfd _ hD kl (by omega) d4
      have hl2 := lt_of_get h2
      have e2 := e2 (hh ++ [.list (lsB.map nmv)]) hh.length (by simp)
      have e3 := e3 (hh ++ [.list (lsB.map nmv)])
      have g2 : ∀ r : List Obj, (hh ++ r)[2]? = some (.dict (dv D)) := fun r => by rw [List.getElem?_append_left hl2]; exact h2
      have q3 := q3 (hh ++ [.list (lsB.map nmv), .dict (dv (putD x kl D))]) (hh.length + 1) (get_app1 _ _ _)
      have r3 := r3 (hh ++ [.list (lsB.map nmv), .dict (dv (putD x kl D))]) 2 (g2 _)
      have ga := get_app1 hh (.list (lsB.map nmv)) (.dict (dv D))
      have sa := set_app1 hh (.list (lsB.map nmv)) (.dict (dv D)) (.dict (dv (putD x kl D)))
      have hDl : (dv D).length < 16777216 := by have := hD.len; simp -dsimp [dv]; omega
      have ez : (dp : Int) + 1 - 1 = dp := by omega
      simp only [LL] at hpl
      have b1 : 2 + pb.ws.length ≤ 16777216 := by omega
      have b2 : pb.ws.length + 1 + 1 ≤ 16777216 := by omega
      have b3 : pb.ws.length + 1 + 1 + pa.ws.length ≤ 16777216 := by omega
      have b4 : pb.ws.length + 2 + pa.ws.length ≤ 16777216 := by omega
      refine ⟨wrapT ts (.us (.tk x kl pb) pa), d5, [.list (lsB.map nmv), .dict (dv (putD x kl D))], wrapT_k2 hts ⟨⟨by omega, q1⟩, r1⟩, fun z => by omega, by rw [wrapT_len]; simp -dsimp [Pg.ws]; omega, ?_⟩
      have := hret (.us (.tk x kl pb) pa) d5 (hh ++ [.list (lsB.map nmv), .dict (dv (putD x kl D))]) (some (.p kl.v)) v9 (some (nmv x)) (some (.r (hh.length + 1))) (some (.p pb.v)) (by simp -dsimp [Pg.ws]; omega)
      simp only [lsB_v, nmv, Kd.v] at e2 e3 q3 r3 ga sa this
      simp only [Pg.v, Pg.ws, List.map_cons, List.map_append, Wrd.v, List.cons_append] at q3 r3 this ⊢
      simp at e3 this
      simp -dsimp [cmpV, cmpP, hpos, e1, PV.dep, PV.eq, new, e2, e3, biV, g2, ga, sa, setV, PV.key, hDl, dput_dv, setO, ez, q3, r3, binop, binP, b1, b2, b3, b4, this]
      exact lsB_v.symm
    · refine ⟨wrapT ts p, d1, [], wrapT_k2 hts hp, fun _ => by rw [wrapT_len]; omega, by rw [wrapT_len]; omega, ?_⟩
      have := hret p d1 hh v8 v9 v10 v12 v13 (by omega)
      simp at this
      simp -dsimp [cmpV, cmpP, hpos, e1, ne0 z, PV.dep, PV.eq, this]
theorem fit2 {n deep : Nat} (hf : ∀ dp, deep = dp + 1 → FitSpec sc dp (n + 1)) (hn : 4 ≤ n) (hdp : deep ≤ 4) {D : List (Nm × Kd)} (hD : DOk D) {hh : List Obj} (h2 : hh[2]? = some (.dict (dv D))) {ts : List (Nm × Kd)} (hts : ∀ q ∈ ts, q.2.dep ≤ 2) (htl : ts.length ≤ 2) {e : Fin 26} {v1 v2 v4 v8 v10 v11 v12 v13 : Option Val} {fs : List Nm} (h0 : fs ≠ []) (hfl : fs.length ≤ 15) (hfo : ∀ x ∈ fs, HeadOk D e deep x) {a : Nat} (ha : hh[a]? = some (.list (fs.map nmv))) (d : Hand) :
    ∃ (p' : Pg) (d' : Hand) (rr : List Obj), p'.k2 ∧ p'.ws.length ≤ LL deep ∧
      exs (CN prog n) tlF2 [some .hd, v1, v2, some (.p (.int (deep : Int))), v4, some (.p (.int e.val)), some (.r 2), some (.p (.tup (ts.map tkv))), v8, some (.r a), v10, v11, v12, v13] ⟨hh, some d, sc⟩ = .ret (.p p'.v) ⟨hh ++ rr, some d', sc⟩ := by
  obtain ⟨x, d1, hx, e1⟩ := s_some (sc := sc) (ns := fs) h0 (by omega) (n + 1) d (by omega)
  have e1 := e1 hh a ha
  obtain ⟨k, ⟨y, hy⟩, hg, hke, hkd⟩ := hfo x hx
  have hkdep : k.dep ≤ 2 := (hD.nm _ hy).2
  have he := s_ends (n := n + 1) (s := ⟨hh, some d1, sc⟩) (k := k) (by omega) (by omega)
  have hl2 := lt_of_get h2
  have g2 : (hh ++ [.list (kvs k.lefts)])[2]? = some (.dict (dv D)) := by rw [List.getElem?_append_left hl2]; exact h2
  have gj : (hh ++ [.list (kvs k.lefts)])[hh.length]? = some (.list (kvs k.lefts)) := by simp
  have hld := k.lefts_dep
  -- the loop over the head's lefts
  have hloop : ∃ (p' : Pg) (d' : Hand) (y8 : Option Val), p'.k2 ∧ p'.ws.length + 4 ≤ LL deep + 2 - 2 + 2 ∧ p'.ws.length ≤ 1 + 2 * (1 + LL (deep - 1)) ∧ (deep = 0 → p'.ws.length = 1) ∧ ex (CN prog n) w__law_fit_0 [some .hd, v1, v2, some (.p (.int (deep : Int))), v4, some (.p (.int e.val)), some (.r 2), some (.p (.tup (ts.map tkv))), v8, some (.r a), some (nmv x), some (.p (Pg.nm x).v), v12, v13] ⟨hh, some d1, sc⟩ =
      .next [some .hd, v1, v2, some (.p (.int (deep : Int))), v4, some (.p (.int e.val)), some (.r 2), some (.p (.tup (ts.map tkv))), y8, some (.r a), some (nmv x), some (.p p'.v), v12, v13] ⟨hh ++ [.list (kvs k.lefts)], some d', sc⟩ := by
    have hI : ∀ env : Env, env[6]? = some (some (.r 2)) → env[10]? = some (some (nmv x)) → evI (CN prog n) (forI w__law_fit_0) env ⟨hh, some d1, sc⟩ = .ok (kvs k.lefts, [(hh.length, kvs k.lefts)]) ⟨hh ++ [.list (kvs k.lefts)], some d1, sc⟩ := fun env h6 h10 => by
      simp only [nmv] at h10
      simp -dsimp [forI, w__law_fit_0, h6, h10, idxV, h2, PV.key, hg, he, atI, ixN, itemsOf, guardOf]
    rcases deep with _ | dp
    · have hc : k.lefts = [] := Kd.lefts_c (by rcases hkd with h | h; exact absurd h (by decide); exact h)
      refine ⟨.nm x, d1, v8, trivial, by simp -dsimp [Pg.ws, LL], by simp -dsimp [Pg.ws], fun _ => rfl, for_start rfl (hI _ rfl rfl) ?_⟩
      rw [hc]
      rw [hc] at gj
      exact for_nil (still_at gj)
    · have hLL : LL dp ≤ 200 ∨ True := .inr trivial
      have hdl : k.lefts.length ≤ 2 := by have := hld.1; omega
      have hmul : k.lefts.length * (1 + LL dp) ≤ 2 * (1 + LL dp) := Nat.mul_le_mul_right _ hdl
      have hLb : LL dp ≤ 2000 := by
        have h3 : dp ≤ 3 := by omega
        rcases dp with _ | _ | _ | _ | dp
        · decide
        · decide
        · decide
        · decide
        · omega
      obtain ⟨p', d', y8, q1, q2, q3⟩ := l_more (hf dp rfl) hD g2 gj (v1 := v1) (v2 := v2) (v4 := v4) (v5 := some (.p (.int e.val))) (v7 := some (.p (.tup (ts.map tkv)))) (v9 := some (.r a)) (v10 := some (nmv x)) (v12 := v12) (v13 := v13) k.lefts (fun l hl => by have := hld.2 l hl; omega) (.nm x) d1 v8 trivial (by simp -dsimp [Pg.ws]; omega)
      simp only [Pg.ws, List.length_cons, List.length_nil] at q2
      exact ⟨p', d', y8, q1, by simp only [LL]; omega, by simp only [Nat.add_sub_cancel]; omega, fun z => by omega, for_start rfl (hI _ rfl rfl) q3⟩
  obtain ⟨p1, d2, y8, b1, b2, b5, b6, b3⟩ := hloop
  have hLd : LL deep ≤ 2000 := by
    rcases deep with _ | _ | _ | _ | _ | dp
    · decide
    · decide
    · decide
    · decide
    · decide
    · omega
  obtain ⟨p2, d3, rr, c1, c0, c2, c3⟩ := fit3 (n := n) (deep := deep) hf hn hD g2 hts (by omega) (e := e) (v1 := v1) (v2 := v2) (v4 := v4) (v8 := y8) (v9 := some (.r a)) (v10 := some (nmv x)) (v12 := v12) (v13 := v13) p1 b1 (by omega) d2
  refine ⟨p2, d3, [.list (kvs k.lefts)] ++ rr, c1, ?_, ?_⟩
  · rcases deep with _ | dp
    · have := b6 rfl
      have := c0 rfl
      simp only [LL]
      omega
    · simp only [LL, Nat.add_sub_cancel] at c2 b5 ⊢
      omega
  · simp only [nmv, Pg.v, Pg.ws, List.map_cons, List.map_nil, Wrd.v] at b3 e1
    unfold tlF2
    simp only [nmv, Pg.v, List.append_assoc] at c3
    simp -dsimp [e1, b3] at c3 ⊢
    simp -dsimp [c3]
    rfl
theorem fit1 {n deep : Nat} (hf : ∀ dp, deep = dp + 1 → FitSpec sc dp (n + 1)) (hn : 4 ≤ n) (hdp : deep ≤ 4) {D : List (Nm × Kd)} (hD : DOk D) {dk L0 : Obj} {g : List Obj} {ts : List (Nm × Kd)} (hts : ∀ q ∈ ts, q.2.dep ≤ 2) (htl : ts.length ≤ 2) {e : Fin 26} {v1 v2 v4 v8 v9 v10 v11 v12 v13 : Option Val} (d : Hand) :
    ∃ (p' : Pg) (d' : Hand) (rr : List Obj), p'.k2 ∧ p'.ws.length ≤ LL deep ∧
      exs (CN prog n) tlF1 [some .hd, v1, v2, some (.p (.int (deep : Int))), v4, some (.p (.int e.val)), some (.r 2), some (.p (.tup (ts.map tkv))), v8, v9, v10, v11, v12, v13] ⟨dk :: L0 :: .dict (dv D) :: g, some d, sc⟩ = .ret (.p p'.v) ⟨dk :: L0 :: .dict (dv D) :: (g ++ rr), some d', sc⟩ := by
  obtain ⟨fs, f1, f2, f3⟩ := s_heads (sc := sc) (n := n + 1) hD e deep (by omega) (some d)
  have f3 := f3 (dk :: L0 :: .dict (dv D) :: g) 2 rfl
  by_cases h0 : fs = []
  · subst h0
    obtain ⟨l, l1, l2, l3⟩ := sorted_dv hD.len
    obtain ⟨x, d1, hx, e1⟩ := s_some (sc := sc) (ns := l ++ [nW]) (by simp) (by have := hD.len; simp; omega) (n + 1) d (by omega)
    have e1 := e1 (dk :: L0 :: .dict (dv D) :: (g ++ [.list [], .list (l.map nmv), .list [.p (.str [119])], .list (l.map nmv ++ [.p (.str [119])])])) (g.length + 1 + 1 + 1 + 3) (by simp; rfl)
    have hl : (l.map nmv).length + 1 ≤ 16777216 := by have := hD.len; simp; omega
    have hl2 : l.length + 1 ≤ 16777216 := by have := hD.len; omega
    have hl3 : l.length ≤ 16777215 := by have := hD.len; omega
    have b1 : ts.length + 1 ≤ 16777216 := by omega
    have b2 : ts.length ≤ 16777215 := by omega
    have ew := wrapT_ws ts (.nm x)
    refine ⟨wrapT ts (.nm x), d1, [.list [], .list (l.map nmv), .list [.p (.str [119])], .list (l.map nmv ++ [.p (.str [119])])], wrapT_k2 hts trivial, ?_, ?_⟩
    · rw [wrapT_len]
      have : 3 ≤ LL deep := by cases deep <;> simp only [LL] <;> omega
      simp only [Pg.ws, List.length_cons, List.length_nil]; omega
    · unfold tlF1
      have g1 : ∀ r : List Obj, (g ++ r)[g.length]? = r[0]? := fun r => by rw [List.getElem?_append_right (by omega)]; simp
      have g2 : ∀ r : List Obj, (g ++ r)[g.length + 1]? = r[1]? := fun r => by rw [List.getElem?_append_right (by omega)]; simp
      have g3 : ∀ r : List Obj, (g ++ r)[g.length + 2]? = r[2]? := fun r => by rw [List.getElem?_append_right (by omega)]; simp
      simp only [nmv] at e1 f3 l1 ⊢
      simp at f3 e1
      simp -dsimp [f3, biV, lenV, cmpV, cmpP, PV.dep, PV.eq, itemsOf, l1, new, binop, binP, g1, g2, g3, hl2, hl3, e1, b1, b2, Pg.v, ew, Pg.ws, Wrd.v]
  · have hpos : 0 < fs.length := List.length_pos_iff.mpr h0
    obtain ⟨p', d', rr, q1, q2, q3⟩ := fit2 (n := n) (deep := deep) hf hn hdp (hh := dk :: L0 :: .dict (dv D) :: (g ++ [.list (fs.map nmv)])) hD rfl hts htl (e := e) (v1 := v1) (v2 := v2) (v4 := v4) (v8 := v8) (v10 := v10) (v11 := v11) (v12 := v12) (v13 := v13) h0 f2 f1 (a := g.length + 1 + 1 + 1) (by simp) d
    refine ⟨p', d', [.list (fs.map nmv)] ++ rr, q1, q2, ?_⟩
    unfold tlF1
    have hz := eqb0 hpos
    simp at f3
    simp only [List.cons_append, List.append_assoc, List.nil_append] at q3 ⊢
    simp -dsimp [f3, biV, lenV, cmpV, cmpP, PV.dep, PV.eq, hz, q3]
theorem fit_all (sc : List Int) : ∀ (deep n : Nat), deep ≤ 4 → deep + 8 ≤ n → FitSpec sc deep n := by
  intro deep
  induction deep with
  | zero =>
    intro n hd hn D hD k hk d
    exact go 0 n (fun dp z => by omega) hd hn D hD k hk d
  | succ deep ih =>
    intro n hd hn D hD k hk d
    exact go (deep + 1) n (fun dp z => by
      have : deep = dp := by omega
      subst this
      exact ih (n - 2 + 1) (by omega) (by omega)) hd hn D hD k hk d
where
  go (deep n : Nat) (hf : ∀ dp, deep = dp + 1 → FitSpec sc dp (n - 2 + 1)) (hd : deep ≤ 4) (hn : deep + 8 ≤ n) (D : List (Nm × Kd)) (hD : DOk D) (k : Kd) (hk : k.dep ≤ 2) (d : Hand) : ∃ (p : Pg) (d' : Hand), p.k2 ∧ p.ws.length ≤ LL deep ∧ ∀ (h : List Obj) (a : Nat), h[a]? = some (.dict (dv D)) → FN prog n F__law_fit [.hd, .r a, .p k.v, .p (.int (deep : Int))] ⟨h, some d, sc⟩ = .ok (.p p.v) ⟨h, some d', sc⟩ := by
    have hld := k.lefts_dep
    have hbase : (Obj.dict (dv D)).pure = true := dv_pure D
    obtain ⟨D', ts, g, d1, y8, y10, q1, q2, q3, q4⟩ := l_left (sc := sc) (n := n - 2) (by omega) (dk := .dict (dv D)) (L0 := kvs k.lefts) (v2 := some (.p k.v)) (v3 := some (.p (.int (deep : Int)))) (v5 := some (.p (.int k.kend.val))) (v9 := none) (v11 := none) (v12 := none) (v13 := none) k.lefts (fun l hl => by have := hld.2 l hl; omega) D [] [] d none none hD (by simp) (by simp; omega)
    have hw := for_start (s := ⟨[.dict (dv D), .list (kvs k.lefts), .dict (dv D)], some d, sc⟩) (env := [some .hd, some (.r 0), some (.p k.v), some (.p (.int (deep : Int))), some (.r 1), some (.p (.int k.kend.val)), some (.r 2), some (.p (.tup [])), none, none, none, none, none, none]) rfl (by simp -dsimp [forI, w__law_fit_1, itemsOf, guardOf]) q4
    obtain ⟨p, d2, rr, r1, r2, r3⟩ := fit1 (n := n - 2) (deep := deep) hf (by omega) hd q1 (dk := .dict (dv D)) (L0 := .list (kvs k.lefts)) (g := g) q2 (by simp at q3; omega) (e := k.kend) (v1 := some (.r 0)) (v2 := some (.p k.v)) (v4 := some (.r 1)) (v8 := y8) (v9 := none) (v10 := y10) (v11 := none) (v12 := none) (v13 := none) d1
    refine ⟨p, d2, r1, r2, fun h a ha => ?_⟩
    have he := s_ends (n := n - 2 + 1) (s := ⟨[.dict (dv D)], some d, sc⟩) (k := k) (by omega) (by omega)
    have := callP1 (P := prog) (n := n) (f := F__law_fit) (as := [.hd, .r a, .p k.v, .p (.int (deep : Int))]) (s := ⟨h, some d, sc⟩) (a := a) (o := .dict (dv D)) (o' := .dict (dv D)) (v := p.v) (h := .list (kvs k.lefts) :: .dict (dv D') :: (g ++ rr)) (d := some d2) (sc := sc) (by omega) ha rfl rfl rfl rfl rfl hbase hbase (by
      show fin (exs _ m__law_fit.body _ _) = _
      rw [fit_body]
      simp at he
      simp -dsimp [refs, renum, m__law_fit, he, biV, new, hw, r3])
    rw [this]
    simp only [set_same ha]
end
end U
/-! Pl17: loose programs, some program. -/
namespace U
def MM : Nat → Nat
  | 0 => 1
  | n + 1 => 2 + 2 * MM n
section
variable {sc : List Int}
theorem s_loose {ns : List Nm} (h0 : ns ≠ []) (hl : ns.length ≤ 1000) : ∀ (deep n : Nat) (d : Hand), deep + 6 ≤ n → deep ≤ 6 → ∃ (p : Pg) (d' : Hand), p.k2 ∧ p.ws.length ≤ MM deep ∧ ∀ (h : List Obj) (a : Nat), h[a]? = some (.list (ns.map nmv)) → FN prog n F__law_loose [.hd, .r a, .p (.int (deep : Int))] ⟨h, some d, sc⟩ = .ok (.p p.v) ⟨h, some d', sc⟩ := by
  intro deep
  induction deep with
  | zero =>
    intro n d hn _
    obtain ⟨x, d1, hx, e1⟩ := s_some (sc := sc) h0 hl (n - 2 + 1) d (by omega)
    refine ⟨.nm x, d1, trivial, by simp -dsimp [Pg.ws, MM], fun h a ha => ?_⟩
    have e1 := e1 [.list (ns.map nmv)] 0 rfl
    have := callP1 (P := prog) (n := n) (f := F__law_loose) (as := [.hd, .r a, .p (.int ((0 : Nat) : Int))]) (s := ⟨h, some d, sc⟩) (a := a) (o := .list (ns.map nmv)) (o' := .list (ns.map nmv)) (v := (Pg.nm x).v) (h := []) (d := some d1) (sc := sc) (by omega) ha rfl rfl rfl rfl rfl (nms_pure _) (nms_pure _) (by
      simp only [nmv] at e1
      simp -dsimp [m__law_loose, refs, renum, cmpV, cmpP, PV.dep, PV.eq, nmv, e1, Pg.v, Pg.ws, Wrd.v])
    rw [this]
    simp only [set_same ha]
  | succ deep ih =>
    intro n d hn hd
    obtain ⟨j, d1, hj, e0⟩ := dr d (m := 4) (by decide) (by decide)
    have hpos : (0 : Int) < (deep : Int) + 1 := by omega
    have ez : (deep : Int) + 1 - 1 = deep := by omega
    have fin_ : ∀ (p : Pg) (d' : Hand), (fin (exs (CN prog (n - 2)) m__law_loose.body [some .hd, some (.r 0), some (.p (.int ((deep + 1 : Nat) : Int))), none] ⟨[.list (ns.map nmv)], some d, sc⟩) = .ok (.p p.v) ⟨[.list (ns.map nmv)], some d', sc⟩) → ∀ (h : List Obj) (a : Nat), h[a]? = some (.list (ns.map nmv)) → FN prog n F__law_loose [.hd, .r a, .p (.int ((deep + 1 : Nat) : Int))] ⟨h, some d, sc⟩ = .ok (.p p.v) ⟨h, some d', sc⟩ := fun p d' hb h a ha => by
      have := callP1 (P := prog) (n := n) (f := F__law_loose) (as := [.hd, .r a, .p (.int ((deep + 1 : Nat) : Int))]) (s := ⟨h, some d, sc⟩) (a := a) (o := .list (ns.map nmv)) (o' := .list (ns.map nmv)) (v := p.v) (h := []) (d := some d') (sc := sc) (by omega) ha rfl rfl rfl rfl rfl (nms_pure _) (nms_pure _) hb
      rw [this]
      simp only [set_same ha]
    have hMM : MM deep ≤ 1000 := by
      rcases deep with _ | _ | _ | _ | _ | _ | deep
      · decide
      · decide
      · decide
      · decide
      · decide
      · decide
      · omega
    have hj4 : j = 0 ∨ (j = 1 ∨ j = 2) ∨ j = 3 := by omega
    rcases hj4 with z | z | z
    · subst z
      obtain ⟨x, d2, hx, e1⟩ := s_some (sc := sc) h0 hl (n - 2 + 1) d1 (by omega)
      have e1 := e1 [.list (ns.map nmv)] 0 rfl
      refine ⟨.nm x, d2, trivial, by simp -dsimp [Pg.ws, MM]; omega, fin_ _ _ ?_⟩
      simp only [nmv] at e1
      simp -dsimp [m__law_loose, cmpV, cmpP, hpos, e0, PV.dep, PV.eq, nmv, e1, Pg.v, Pg.ws, Wrd.v]
    · obtain ⟨p, d2, p1, p2, p3⟩ := ih (n - 2 + 1) d1 (by omega) (by omega)
      obtain ⟨q, d3, q1, q2, q3⟩ := ih (n - 2 + 1) d2 (by omega) (by omega)
      have p3 := p3 [.list (ns.map nmv)] 0 rfl
      have q3 := q3 [.list (ns.map nmv)] 0 rfl
      have b1 : 1 + p.ws.length ≤ 16777216 := by omega
      have b2 : p.ws.length + 1 + q.ws.length ≤ 16777216 := by omega
      have b3 : p.ws.length ≤ 16777215 := by omega
      refine ⟨.us p q, d3, ⟨p1, q1⟩, by simp -dsimp [Pg.ws, MM]; omega, fin_ _ _ ?_⟩
      simp only [Pg.v] at p3 q3
      rcases z with z | z <;> subst z
      · simp at e0
        simp -dsimp [m__law_loose, cmpV, cmpP, hpos, e0, PV.dep, PV.eq, binop, binP, ez, p3, q3, b1, b2, b3, Pg.v, Pg.ws, Wrd.v]
      · simp at e0
        simp -dsimp [m__law_loose, cmpV, cmpP, hpos, e0, PV.dep, PV.eq, binop, binP, ez, p3, q3, b1, b2, b3, Pg.v, Pg.ws, Wrd.v]
    · subst z
      obtain ⟨x, d2, hx, e1⟩ := s_some (sc := sc) h0 hl (n - 2 + 1) d1 (by omega)
      obtain ⟨k, d3, hk, e2⟩ := s_kind (sc := sc) 1 (n - 2 + 1) d2 (by omega)
      obtain ⟨p, d4, p1, p2, p3⟩ := ih (n - 2 + 1) d3 (by omega) (by omega)
      have e1 := e1 [.list (ns.map nmv)] 0 rfl
      have e2 := e2 [.list (ns.map nmv)]
      have p3 := p3 [.list (ns.map nmv)] 0 rfl
      have b1 : 1 + p.ws.length ≤ 16777216 := by omega
      have b3 : p.ws.length ≤ 16777215 := by omega
      refine ⟨.tk x k p, d4, ⟨by omega, p1⟩, by simp -dsimp [Pg.ws, MM]; omega, fin_ _ _ ?_⟩
      simp only [Pg.v] at p3
      simp only [nmv] at e1 e2 p3
      simp at e0 e2
      simp -dsimp [m__law_loose, cmpV, cmpP, hpos, e0, PV.dep, PV.eq, nmv, e1, e2, binop, binP, ez, p3, b1, b3, Pg.v, Pg.ws, Wrd.v]
theorem tkv_pv (ps : List (Nm × Kd)) : (ps.map tkv).map Val.p = ps.map pv := by simp -dsimp [List.map_map, Function.comp_def, pv, tkv]
def knownV (ps : List (Nm × Kd)) : PV := .tup (ps.map fun q => .tup [.str q.1.s, q.2.v])
theorem l_some {n : Nat} (hn : 14 ≤ n) {ps : List (Nm × Kd)} (hps : ∀ q ∈ ps, q.1.s ∈ nmsL ∧ q.2.dep ≤ 2) (hpl : ps.length ≤ 100) : ∀ (xs : List Val) (d : Hand) (h : List Obj) (x3 x4 x5 x6 : Option Val),
    (∃ (p : Pg) (d' : Hand) (h' : List Obj), p.k2 ∧ p.ws.length ≤ 60 ∧ forS (CN prog n) [] (forT w__law_some_program_1) (forB w__law_some_program_1) xs [some .hd, some (.p (knownV ps)), some (.p (.int 2)), x3, x4, x5, x6] ⟨h, some d, sc⟩ = .ret (.p p.v) ⟨h', some d', sc⟩) ∨
    (∃ (d' : Hand) (h' : List Obj) (y3 y4 y5 y6 : Option Val), forS (CN prog n) [] (forT w__law_some_program_1) (forB w__law_some_program_1) xs [some .hd, some (.p (knownV ps)), some (.p (.int 2)), x3, x4, x5, x6] ⟨h, some d, sc⟩ = .next [some .hd, some (.p (knownV ps)), some (.p (.int 2)), y3, y4, y5, y6] ⟨h', some d', sc⟩)
  | [], d, h, x3, x4, x5, x6 => .inr ⟨d, h, x3, x4, x5, x6, for_nil rfl⟩
  | x :: xs, d, h, x3, x4, x5, x6 => by
    obtain ⟨j, d1, hj, e0⟩ := dr d (m := 4) (by decide) (by decide)
    have both : ∀ (p : Pg) (d' : Hand) (h' : List Obj), p.k2 → p.ws.length ≤ 1000 → exs (CN prog n) (forB w__law_some_program_1) [some .hd, some (.p (knownV ps)), some (.p (.int 2)), some x, x4, x5, x6] ⟨h, some d, sc⟩ = (if p.ws.length ≤ 60 then .ret (.p p.v) ⟨h', some d', sc⟩ else .next [some .hd, some (.p (knownV ps)), some (.p (.int 2)), some x, some (.p p.v), x5, x6] ⟨h', some d', sc⟩) →
        (∃ (p : Pg) (d' : Hand) (h' : List Obj), p.k2 ∧ p.ws.length ≤ 60 ∧ forS (CN prog n) [] (forT w__law_some_program_1) (forB w__law_some_program_1) (x :: xs) [some .hd, some (.p (knownV ps)), some (.p (.int 2)), x3, x4, x5, x6] ⟨h, some d, sc⟩ = .ret (.p p.v) ⟨h', some d', sc⟩) ∨
        (∃ (d' : Hand) (h' : List Obj) (y3 y4 y5 y6 : Option Val), forS (CN prog n) [] (forT w__law_some_program_1) (forB w__law_some_program_1) (x :: xs) [some .hd, some (.p (knownV ps)), some (.p (.int 2)), x3, x4, x5, x6] ⟨h, some d, sc⟩ = .next [some .hd, some (.p (knownV ps)), some (.p (.int 2)), y3, y4, y5, y6] ⟨h', some d', sc⟩) := fun p d' h' hp hl he => by
      by_cases c : p.ws.length ≤ 60
      · rw [if_pos c] at he
        exact .inl ⟨p, d', h', hp, c, for_ret rfl rfl he⟩
      · rw [if_neg c] at he
        rcases l_some hn hps hpl xs d' h' (some x) (some (.p p.v)) x5 x6 with ⟨p2, d2, h2, a1, a2, a3⟩ | ⟨d2, h2, y3, y4, y5, y6, a⟩
        · exact .inl ⟨p2, d2, h2, a1, a2, (for_cons rfl rfl he).trans a3⟩
        · exact .inr ⟨d2, h2, y3, y4, y5, y6, (for_cons rfl rfl he).trans a⟩
    by_cases z : j = 0
    · subst z
      obtain ⟨p, d2, p1, p2, p3⟩ := s_loose (sc := sc) (ns := ps.map (·.1) ++ [nX, nY, nZ]) (by simp) (by simp; omega) 2 (n + 1) d1 (by omega) (by omega)
      have hc := comp_all (C := CN prog n) (L := c__law_some_program_0) (env := [some .hd, some (.p (knownV ps)), some (.p (.int 2)), some x, x4, x5, x6]) (s := ⟨h, some d1, sc⟩) (s1 := ⟨h, some d1, sc⟩) (xs := ps.map pv) (g := []) (fun v => match v with | .p (.tup (s :: _)) => .p s | v => v) rfl (by simp -dsimp [cI, c__law_some_program_0, itemsOf, guardOf, knownV, pv]) (by simp; omega) rfl (fun v hv => by
        obtain ⟨q, hq, rfl⟩ := List.mem_map.mp hv
        refine ⟨_, rfl, by simp -dsimp [cC, c__law_some_program_0], ?_⟩
        simp -dsimp [cE, cT, c__law_some_program_0, pv, Tg.slots, Tgs.slots, wipeE])
      have e1 : (ps.map pv).map (fun v => match v with | .p (.tup (s :: _)) => .p s | v => v) = (ps.map (·.1)).map nmv := by simp -dsimp [List.map_map, Function.comp_def, pv, nmv]
      rw [e1] at hc
      have p3 := p3 (h ++ [.list ((ps.map (·.1)).map nmv), .list [.p (.str [120]), .p (.str [121]), .p (.str [122])], .list ((ps.map (·.1) ++ [nX, nY, nZ]).map nmv)]) (h.length + 2) (by rw [List.getElem?_append_right (by omega)]; simp)
      refine both p d2 (h ++ [.list ((ps.map (·.1)).map nmv), .list [.p (.str [120]), .p (.str [121]), .p (.str [122])], .list ((ps.map (·.1) ++ [nX, nY, nZ]).map nmv)]) p1 (by have : MM 2 = 10 := rfl; omega) ?_
      have g1 : ∀ r : List Obj, (h ++ r)[h.length]? = r[0]? := fun r => by rw [List.getElem?_append_right (by omega)]; simp
      have g2 : ∀ r : List Obj, (h ++ r)[h.length + 1]? = r[1]? := fun r => by rw [List.getElem?_append_right (by omega)]; simp
      have e9 : (ps.map (·.1) ++ [nX, nY, nZ]).map nmv = (ps.map (·.1)).map nmv ++ [.p (.str [120]), .p (.str [121]), .p (.str [122])] := by simp -dsimp [nmv, nX, nY, nZ, mkN]
      rw [e9] at p3 ⊢
      have b1 : ps.length + 3 ≤ 16777216 := by omega
      have b2 : ps.length ≤ 16777213 := by omega
      by_cases c : p.ws.length ≤ 60
      · have c' : (p.ws.length : Int) ≤ 60 := by omega
        simp only [Pg.v] at p3
        simp at p3 hc
        simp -dsimp [forB, w__law_some_program_1, e0, cmpV, cmpP, PV.dep, PV.eq, hc, new, binop, g1, g2, b1, b2, p3, biV, lenV, c, c', Pg.v]
      · have c' : ¬ (p.ws.length : Int) ≤ 60 := by omega
        simp only [Pg.v] at p3
        simp at p3 hc
        simp -dsimp [forB, w__law_some_program_1, e0, cmpV, cmpP, PV.dep, PV.eq, hc, new, binop, g1, g2, b1, b2, p3, biV, lenV, c, c', Pg.v]
    · obtain ⟨k, d2, hk, e2⟩ := s_kind (sc := sc) 2 (n + 1) d1 (by omega)
      have hD : DOk (ps.foldl (fun D q => putD q.1 q.2 D) []) := DOk.fold hps ⟨by simp, by simp⟩
      obtain ⟨p, d3, p1, p2, p3⟩ := fit_all sc 2 (n + 1) (by omega) (by omega) _ hD k hk d2
      have e2 := e2 (h ++ [.dict (dv (ps.foldl (fun D q => putD q.1 q.2 D) []))])
      have p3 := p3 (h ++ [.dict (dv (ps.foldl (fun D q => putD q.1 q.2 D) []))]) h.length (by simp)
      have hm := mergeD_pv ps []
      rw [← tkv_pv] at hm
      have hb : ∀ s : S, biV .dict [.p (knownV ps)] s = .ok (.r s.h.length) { s with h := s.h ++ [.dict (dv (ps.foldl (fun D q => putD q.1 q.2 D) []))] } := fun s => by
        show (match mergeD ((ps.map tkv).map Val.p) [] with | some kvs => new (.dict kvs) s | none => .bot) = _
        rw [show mergeD ((ps.map tkv).map Val.p) [] = some (dv (ps.foldl (fun D q => putD q.1 q.2 D) [])) from hm]
        rfl
      have hlen : ∀ s : S, biV .len [.p p.v] s = .ok (.p (.int (p.ws.length : Int))) s := fun s => by simp -dsimp [biV, lenV, Pg.v]
      have hz := ne0 z
      refine both p d3 (h ++ [.dict (dv (ps.foldl (fun D q => putD q.1 q.2 D) []))]) p1 (by have : LL 2 = 83 := rfl; omega) ?_
      simp at p3 e2
      by_cases c : p.ws.length ≤ 60
      · have c' : (p.ws.length : Int) ≤ 60 := by omega
        simp -dsimp [forB, w__law_some_program_1, e0, cmpV, cmpP, PV.dep, PV.eq, hz, hb, e2, p3, hlen, c, c']
      · have c' : ¬ (p.ws.length : Int) ≤ 60 := by omega
        simp -dsimp [forB, w__law_some_program_1, e0, cmpV, cmpP, PV.dep, PV.eq, hz, hb, e2, p3, hlen, c, c']
theorem s_someP {n : Nat} (hn : 18 ≤ n) {ps : List (Nm × Kd)} (hps : ∀ q ∈ ps, q.1.s ∈ nmsL ∧ q.2.dep ≤ 2) (hpl : ps.length ≤ 100) (d : Hand) : ∃ (p : Pg) (d' : Hand), p.k2 ∧ p.ws.length ≤ 60 ∧ ∀ h : List Obj, FN prog n F__law_some_program [.hd, .p (knownV ps), .p (.int 2)] ⟨h, some d, sc⟩ = .ok (.p p.v) ⟨h, some d', sc⟩ := by
  have hI : evI (CN prog (n - 2)) (forI w__law_some_program_1) [some .hd, some (.p (knownV ps)), some (.p (.int 2)), none, none, none, none] ⟨[], some d, sc⟩ = .ok (rangeL 0 1 6, []) ⟨[], some d, sc⟩ := evI_rng1 (m := 6) (by simp) (by omega)
  rcases l_some (sc := sc) (n := n - 2) (by omega) hps hpl (rangeL 0 1 6) d [] none none none none with ⟨p, d', h', p1, p2, p3⟩ | ⟨d', h', y3, y4, y5, y6, p3⟩
  · refine ⟨p, d', p1, p2, fun h => callP (h := h') (sc := sc) (by omega) rfl rfl rfl rfl rfl ?_⟩
    have := for_start rfl hI p3
    simp -dsimp [m__law_some_program, this]
  · refine ⟨.tk nX (.c 0) (.nm nX), d', ⟨by simp -dsimp [Kd.dep], trivial⟩, by simp -dsimp [Pg.ws], fun h => callP (h := h') (sc := sc) (by omega) rfl rfl rfl rfl rfl ?_⟩
    have := for_start rfl hI p3
    simp -dsimp [m__law_some_program, this, Pg.v, Pg.ws, Wrd.v, Kd.v, nX, mkN]
end
end U
/-! R1: a reader by descent, in plain functions. -/
namespace U
/-- what is read and the index behind it, or the index of the first wrong sign -/
inductive Rs (α : Type) where
  | ok (a : α) (j : Nat) | bad (j : Nat)
def Rs.end_ {α : Type} : Rs α → Nat
  | .ok _ j => j
  | .bad j => j
/-- told signs -/
def sg (t : List Nat) : List Nat → Nat → Rs Unit
  | [], i => .ok () i
  | c :: cs, i => if t[i]? = some c then sg t cs (i + 1) else .bad i
def smF (c : Nat) (h : isSm c = true) : Fin 26 := ⟨c - 97, by simp [isSm] at h; omega⟩
def arr : List Nat := [32, 62, 32]
mutual
def rdA (t : List Nat) : Nat → Nat → Option (Rs Kd)
  | 0, _ => none
  | d + 1, i => match t[i]? with
    | none => some (.bad i)
    | some c => if c = 40 then (match rdA t d (i + 1) with
        | none => none
        | some (.bad j) => some (.bad j)
        | some (.ok l j) => match sg t arr j with
          | .bad k => some (.bad k)
          | .ok _ j2 => match rdK t d j2 with
            | none => none
            | some (.bad k) => some (.bad k)
            | some (.ok r k) => match sg t [41] k with
              | .bad m => some (.bad m)
              | .ok _ m => some (.ok (.f l r) m))
      else if h : isSm c = true then some (.ok (.c (smF c h)) (i + 1)) else some (.bad i)
def rdK (t : List Nat) : Nat → Nat → Option (Rs Kd)
  | 0, _ => none
  | d + 1, i => match rdA t d i with
    | none => none
    | some (.bad j) => some (.bad j)
    | some (.ok l j) => if t[j]? ≠ some 32 ∧ t[i]? ≠ some 40 then some (.ok l j) else match sg t arr j with
      | .bad k => some (.bad k)
      | .ok _ j2 => match rdK t d j2 with
        | none => none
        | some (.bad k) => some (.bad k)
        | some (.ok r k) => some (.ok (.f l r) k)
end
theorem sg_ok {t : List Nat} : ∀ {cs : List Nat} {i j : Nat} {u : Unit}, sg t cs i = .ok u j → j = i + cs.length ∧ t.drop i = cs ++ t.drop j
  | [], i, j, u, h => by simp [sg] at h; subst h; simp
  | c :: cs, i, j, u, h => by
    simp only [sg] at h
    split at h
    · rename_i e
      obtain ⟨h1, h2⟩ := sg_ok h
      refine ⟨by simp; omega, ?_⟩
      obtain ⟨l, e2⟩ := List.getElem?_eq_some_iff.mp e
      rw [List.drop_eq_getElem_cons l, e2, h2]; rfl
    · cases h
theorem sg_bad {t : List Nat} : ∀ {cs : List Nat} {i j : Nat}, sg t cs i = .bad j → i ≤ j ∧ j < i + cs.length ∧ ∃ a c r, cs = a ++ c :: r ∧ t.drop i = a ++ t.drop j ∧ t[j]? ≠ some c ∧ j = i + a.length
  | [], i, j, h => by simp [sg] at h
  | c :: cs, i, j, h => by
    simp only [sg] at h
    split at h
    · rename_i e
      obtain ⟨h1, h2, a, c', r, h3, h4, h5, h6⟩ := sg_bad h
      obtain ⟨l, e2⟩ := List.getElem?_eq_some_iff.mp e
      refine ⟨by omega, by simp; omega, c :: a, c', r, by rw [h3]; rfl, ?_, h5, by simp; omega⟩
      rw [List.drop_eq_getElem_cons l, e2, h4]; rfl
    · rename_i e
      cases h
      exact ⟨by omega, by simp, [], c, cs, rfl, rfl, e, rfl⟩
theorem sg_le {t : List Nat} {cs : List Nat} {i j : Nat} {u : Unit} (h : sg t cs i = .ok u j) (hi : i ≤ t.length) : j ≤ t.length := by
  obtain ⟨h1, h2⟩ := sg_ok h
  have := congrArg List.length h2
  simp at this; omega
theorem bad_le {t : List Nat} {cs : List Nat} {i j : Nat} (h : sg t cs i = .bad j) (hi : i ≤ t.length) : j ≤ t.length := by
  obtain ⟨h1, h2, a, c, r, h3, h4, h5, h6⟩ := sg_bad h
  have := congrArg List.length h4
  simp at this; omega
/-! ### more fuel -/
mutual
theorem rdA_mono {t : List Nat} : ∀ {d e i : Nat} {r : Rs Kd}, rdA t d i = some r → d ≤ e → rdA t e i = some r
  | 0, _, _, _, h, _ => by simp [rdA] at h
  | d + 1, 0, _, _, _, l => by omega
  | d + 1, e + 1, i, r, h, l => by
    have ihA : ∀ {i : Nat} {r : Rs Kd}, rdA t d i = some r → rdA t e i = some r := fun h => rdA_mono h (by omega)
    have ihK : ∀ {i : Nat} {r : Rs Kd}, rdK t d i = some r → rdK t e i = some r := fun h => rdK_mono h (by omega)
    unfold rdA at h ⊢
    split at h
    · exact h
    · split at h
      · rename_i c hc hc2
        simp only [hc2, if_true]
        cases q : rdA t d (i + 1) with
        | none => simp [q] at h
        | some v =>
          rw [ihA q]
          rw [q] at h
          cases v with
          | bad j => exact h
          | ok a j =>
            simp only at h ⊢
            cases q2 : sg t arr j with
            | bad k => rw [q2] at h; exact h
            | ok u j2 =>
              rw [q2] at h
              simp only at h ⊢
              cases q3 : rdK t d j2 with
              | none => simp [q3] at h
              | some v => rw [q3] at h; rw [ihK q3]; exact h
      · rename_i c hc hc2
        rw [if_neg hc2]; exact h
theorem rdK_mono {t : List Nat} : ∀ {d e i : Nat} {r : Rs Kd}, rdK t d i = some r → d ≤ e → rdK t e i = some r
  | 0, _, _, _, h, _ => by simp [rdK] at h
  | d + 1, 0, _, _, _, l => by omega
  | d + 1, e + 1, i, r, h, l => by
    have ihA : ∀ {i : Nat} {r : Rs Kd}, rdA t d i = some r → rdA t e i = some r := fun h => rdA_mono h (by omega)
    have ihK : ∀ {i : Nat} {r : Rs Kd}, rdK t d i = some r → rdK t e i = some r := fun h => rdK_mono h (by omega)
    unfold rdK at h ⊢
    cases q : rdA t d i with
    | none => simp [q] at h
    | some v =>
      rw [ihA q]
      rw [q] at h
      cases v with
      | bad j => exact h
      | ok a j =>
        simp only at h ⊢
        split at h
        · rename_i h0
          rw [if_pos h0]; exact h
        · rename_i h0
          rw [if_neg h0]
          cases q2 : sg t arr j with
          | bad k => rw [q2] at h; exact h
          | ok u j2 =>
            rw [q2] at h
            simp only at h ⊢
            cases q3 : rdK t d j2 with
            | none => simp [q3] at h
            | some v => rw [q3] at h; rw [ihK q3]; exact h
end
/-! ### fuel enough -/
/-- signs that lead on: ( and > -/
def up (l : List Nat) : Nat := (l.filter fun c => c == 40 || c == 62).length
theorem up_app (a b : List Nat) : up (a ++ b) = up a + up b := by simp [up]
theorem up_cons (c : Nat) (l : List Nat) : up (c :: l) = (if c = 40 ∨ c = 62 then 1 else 0) + up l := by
  unfold up
  rw [List.filter_cons]
  by_cases h : c = 40 ∨ c = 62
  · have : (c == 40 || c == 62) = true := by simpa using h
    rw [if_pos this, if_pos h]; simp; omega
  · have : ¬ (c == 40 || c == 62) = true := by simpa using h
    rw [if_neg this, if_neg h]; simp
/-- the text from i to j -/
def seg (t : List Nat) (i j : Nat) : List Nat := (t.drop i).take (j - i)
theorem seg_app {t : List Nat} {i j k : Nat} (h : i ≤ j) (h2 : j ≤ k) : seg t i k = seg t i j ++ seg t j k := by
  unfold seg
  rw [show k - i = (j - i) + (k - j) by omega, List.take_add, List.drop_drop, show i + (j - i) = j by omega]
theorem seg_one {t : List Nat} {i : Nat} {c : Nat} (h : t[i]? = some c) : seg t i (i + 1) = [c] := by
  obtain ⟨l, e⟩ := List.getElem?_eq_some_iff.mp h
  unfold seg
  rw [show i + 1 - i = 1 by omega, List.drop_eq_getElem_cons l, e]; rfl
theorem seg_sg {t : List Nat} {cs : List Nat} {i j : Nat} {u : Unit} (h : sg t cs i = .ok u j) : seg t i j = cs := by
  obtain ⟨h1, h2⟩ := sg_ok h
  unfold seg
  rw [h2, show j - i = cs.length by omega]; simp
theorem seg_self (t : List Nat) (i : Nat) : seg t i i = [] := by unfold seg; simp
def Kd.atx (k : Kd) : List Nat := if k.isF then 40 :: (k.kt ++ [41]) else k.kt
theorem kt_f (l r : Kd) : (Kd.f l r).kt = l.atx ++ (arr ++ r.kt) := by
  cases l <;> simp [Kd.kt, Kd.atx, Kd.isF, arr]
/-- a sign of a kind's text -/
def kc (c : Nat) : Prop := isSm c = true ∨ c = 40 ∨ c = 41 ∨ c = 32 ∨ c = 62
theorem kc_ne {c : Nat} (h : kc c) : c ≠ 91 ∧ c ≠ 58 ∧ c ≠ 93 := by
  rcases h with h | h | h | h | h
  · simp [isSm] at h; omega
  all_goals omega
theorem kc_arr : ∀ c ∈ arr, kc c := fun c h => by simp [arr] at h; unfold kc; omega
/-- what a read says -/
structure Rd (t : List Nat) (i : Nat) (tx : Kd → List Nat) (r : Rs Kd) : Prop where
  le : i ≤ r.end_
  len : r.end_ ≤ t.length
  kcs : ∀ c ∈ seg t i r.end_, kc c
  ok : ∀ k j, r = .ok k j → i < j ∧ seg t i j = tx k
theorem seg_bad {t : List Nat} {cs : List Nat} {i j : Nat} (h : sg t cs i = .bad j) : ∀ c ∈ seg t i j, c ∈ cs := by
  obtain ⟨h1, h2, a, c, r, h3, h4, h5, h6⟩ := sg_bad h
  intro x hx
  unfold seg at hx
  rw [h4, h6, show i + a.length - i = a.length by omega] at hx
  simp at hx
  rw [h3]; simp [hx]
theorem kcs_app {t : List Nat} {i j k : Nat} (h : i ≤ j) (h2 : j ≤ k) (a : ∀ c ∈ seg t i j, kc c) (b : ∀ c ∈ seg t j k, kc c) : ∀ c ∈ seg t i k, kc c := by
  intro c hc
  rw [seg_app h h2] at hc
  rcases List.mem_append.mp hc with z | z
  · exact a c z
  · exact b c z
mutual
theorem rdA_rd {t : List Nat} : ∀ {d i : Nat} {r : Rs Kd}, rdA t d i = some r → i ≤ t.length → Rd t i Kd.atx r
  | 0, _, _, h, _ => by simp [rdA] at h
  | d + 1, i, r, h, hi => by
    unfold rdA at h
    split at h
    · cases h; exact ⟨Nat.le_refl _, hi, fun c hc => by rw [show (Rs.bad i : Rs Kd).end_ = i from rfl, seg_self] at hc; exact absurd hc List.not_mem_nil, fun k j e => nomatch e⟩
    · rename_i c hc
      have l := (List.getElem?_eq_some_iff.mp hc).1
      have s1 := seg_one hc
      split at h
      · rename_i e40
        subst e40
        have k1 : ∀ c ∈ seg t i (i + 1), kc c := fun c h => by rw [s1] at h; simp at h; subst h; exact .inr (.inl rfl)
        cases q1 : rdA t d (i + 1) with
        | none => simp [q1] at h
        | some r1 =>
          have R1 := rdA_rd q1 (by omega)
          rw [q1] at h
          cases r1 with
          | bad j => cases h; exact ⟨by have := R1.le; omega, R1.len, kcs_app (by omega) R1.le k1 R1.kcs, fun k j e => by cases e⟩
          | ok l1 j =>
            have g1 : i + 1 ≤ j := R1.le
            have g2 : j ≤ t.length := R1.len
            have k2 := kcs_app (by omega) g1 k1 R1.kcs
            simp only at h
            cases q2 : sg t arr j with
            | bad k =>
              rw [q2] at h; cases h
              exact ⟨by have := (sg_bad q2).1; show i ≤ k; omega, bad_le q2 g2, kcs_app (by omega) (sg_bad q2).1 k2 fun c hc => kc_arr c (seg_bad q2 c hc), fun k j e => by cases e⟩
            | ok u j2 =>
              rw [q2] at h
              simp only at h
              have g3 := (sg_ok q2).1
              have g4 := sg_le q2 g2
              have s2 := seg_sg q2
              have k3 : ∀ c ∈ seg t i j2, kc c := kcs_app (j := j) (by omega) (by omega) k2 fun c hc => by rw [s2] at hc; exact kc_arr c hc
              cases q3 : rdK t d j2 with
              | none => simp [q3] at h
              | some r2 =>
                have R2 := rdK_rd q3 g4
                rw [q3] at h
                cases r2 with
                | bad k => cases h; exact ⟨by have := R2.le; show i ≤ k; have : j2 ≤ k := this; omega, R2.len, kcs_app (by omega) R2.le k3 R2.kcs, fun k j e => by cases e⟩
                | ok r2 k =>
                  have g5 : j2 ≤ k := R2.le
                  have g6 : k ≤ t.length := R2.len
                  have k4 := kcs_app (by omega) g5 k3 R2.kcs
                  simp only at h
                  cases q4 : sg t [41] k with
                  | bad m =>
                    rw [q4] at h; cases h
                    exact ⟨by have := (sg_bad q4).1; show i ≤ m; omega, bad_le q4 g6, kcs_app (by omega) (sg_bad q4).1 k4 fun c hc => by have := seg_bad q4 c hc; simp at this; unfold kc; omega, fun k j e => by cases e⟩
                  | ok u2 m =>
                    rw [q4] at h; cases h
                    have g7 := (sg_ok q4).1
                    simp at g7
                    have s4 := seg_sg q4
                    refine ⟨by show i ≤ m; omega, sg_le q4 g6, kcs_app (by omega) (by show k ≤ m; omega) k4 fun c hc => by rw [show (Rs.ok (Kd.f l1 r2) m).end_ = m from rfl, s4] at hc; simp at hc; unfold kc; omega, fun k' j' e => ?_⟩
                    cases e
                    refine ⟨by omega, ?_⟩
                    have e1 := (R1.ok _ _ rfl).2
                    have e2 := (R2.ok _ _ rfl).2
                    rw [seg_app (show i ≤ i + 1 by omega) (show i + 1 ≤ m by omega), seg_app (show i + 1 ≤ j by omega) (show j ≤ m by omega), seg_app (show j ≤ j2 by omega) (show j2 ≤ m by omega), seg_app (show j2 ≤ k by omega) (show k ≤ m by omega), s1, e1, s2, e2, s4]
                    simp [Kd.atx, Kd.isF, kt_f]
      · split at h
        · rename_i h1 hs
          cases h
          refine ⟨by show i ≤ i + 1; omega, by show i + 1 ≤ _; omega, fun c' h' => by rw [show (Rs.ok (Kd.c (smF c hs)) (i + 1)).end_ = i + 1 from rfl, s1] at h'; simp at h'; subst h'; exact .inl hs, fun k j e => ?_⟩
          cases e
          refine ⟨by omega, ?_⟩
          rw [s1]
          simp [Kd.atx, Kd.isF, Kd.kt, smF]
          simp [isSm] at hs; omega
        · cases h; exact ⟨Nat.le_refl _, hi, fun c hc => by rw [show (Rs.bad i : Rs Kd).end_ = i from rfl, seg_self] at hc; exact absurd hc List.not_mem_nil, fun k j e => nomatch e⟩
theorem rdK_rd {t : List Nat} : ∀ {d i : Nat} {r : Rs Kd}, rdK t d i = some r → i ≤ t.length → Rd t i Kd.kt r
  | 0, _, _, h, _ => by simp [rdK] at h
  | d + 1, i, r, h, hi => by
    unfold rdK at h
    cases q1 : rdA t d i with
    | none => simp [q1] at h
    | some r1 =>
      have R1 := rdA_rd q1 hi
      rw [q1] at h
      cases r1 with
      | bad j => cases h; exact ⟨R1.le, R1.len, R1.kcs, fun k j e => by cases e⟩
      | ok l1 j =>
        have g1 : i ≤ j := R1.le
        have g2 : j ≤ t.length := R1.len
        have e1 := (R1.ok _ _ rfl)
        simp only at h
        split at h
        · rename_i h0
          cases h
          refine ⟨g1, g2, R1.kcs, fun k' j' e => ?_⟩
          cases e
          refine ⟨e1.1, ?_⟩
          rw [e1.2]
          cases l1 with
          | c m => rfl
          | f a b =>
            exfalso
            have z := e1.2
            have z0 : (seg t i j)[0]? = some 40 := by rw [z]; rfl
            unfold seg at z0
            rw [List.getElem?_take_of_lt (by omega), List.getElem?_drop] at z0
            exact h0.2 z0
        · cases q2 : sg t arr j with
          | bad k =>
            rw [q2] at h; cases h
            exact ⟨by have := (sg_bad q2).1; show i ≤ k; omega, bad_le q2 g2, kcs_app (by omega) (sg_bad q2).1 R1.kcs fun c hc => kc_arr c (seg_bad q2 c hc), fun k j e => by cases e⟩
          | ok u j2 =>
            rw [q2] at h
            simp only at h
            have g3 := (sg_ok q2).1
            have g4 := sg_le q2 g2
            have s2 := seg_sg q2
            have k3 : ∀ c ∈ seg t i j2, kc c := kcs_app (j := j) (by omega) (by omega) R1.kcs fun c hc => by rw [s2] at hc; exact kc_arr c hc
            cases q3 : rdK t d j2 with
            | none => simp [q3] at h
            | some r2 =>
              have R2 := rdK_rd q3 g4
              rw [q3] at h
              cases r2 with
              | bad k => cases h; exact ⟨by have := R2.le; show i ≤ k; have : j2 ≤ k := this; omega, R2.len, kcs_app (by omega) R2.le k3 R2.kcs, fun k j e => by cases e⟩
              | ok r2 k =>
                cases h
                have g5 : j2 ≤ k := R2.le
                refine ⟨by show i ≤ k; omega, R2.len, kcs_app (by omega) g5 k3 R2.kcs, fun k' j' e => ?_⟩
                cases e
                refine ⟨by have := e1.1; omega, ?_⟩
                have e2 := (R2.ok _ _ rfl).2
                rw [seg_app g1 (show j ≤ k by omega), seg_app (show j ≤ j2 by omega) (show j2 ≤ k by omega), e1.2, s2, e2, kt_f]
end
/-- fuel enough -/
theorem rd_enough (t : List Nat) : ∀ (m i : Nat), i ≤ t.length → t.length - i ≤ m →
    (∃ d r, rdA t d i = some r ∧ d ≤ 1 + up (seg t i r.end_)) ∧ ∃ d r, rdK t d i = some r ∧ d ≤ 2 + up (seg t i r.end_) := by
  intro m
  induction m with
  | zero =>
    intro i hi hm
    have e : t[i]? = none := by rw [List.getElem?_eq_none]; omega
    have ea : rdA t 1 i = some (.bad i) := by simp [rdA, e]
    exact ⟨⟨1, _, ea, by omega⟩, 2, .bad i, by simp [rdK, ea], by omega⟩
  | succ m ih =>
    intro i hi hm
    have A : ∃ d r, rdA t d i = some r ∧ d ≤ 1 + up (seg t i r.end_) := by
      cases e : t[i]? with
      | none => exact ⟨1, .bad i, by simp [rdA, e], by omega⟩
      | some c =>
        have l := (List.getElem?_eq_some_iff.mp e).1
        by_cases h40 : c = 40
        · subst h40
          have s1 := seg_one e
          obtain ⟨⟨d1, r1, q1, b1⟩, _⟩ := ih (i + 1) (by omega) (by omega)
          have R1 := rdA_rd q1 (by omega)
          have up1 : ∀ {e : Nat}, i + 1 ≤ e → up (seg t i e) = 1 + up (seg t (i + 1) e) := fun {e} h => by rw [seg_app (show i ≤ i + 1 by omega) h, s1, up_app]; rfl
          cases r1 with
          | bad j =>
            refine ⟨d1 + 1, .bad j, by simp [rdA, e, q1], ?_⟩
            have := up1 R1.le
            have b1 : d1 ≤ 1 + up (seg t (i + 1) j) := b1
            show d1 + 1 ≤ 1 + up (seg t i j)
            have this : up (seg t i j) = 1 + up (seg t (i + 1) j) := this
            omega
          | ok l1 j =>
            have g1 : i + 1 ≤ j := R1.le
            have g2 : j ≤ t.length := R1.len
            have b1 : d1 ≤ 1 + up (seg t (i + 1) j) := b1
            cases q2 : sg t arr j with
            | bad k =>
              refine ⟨d1 + 1, .bad k, by simp [rdA, e, q1, q2], ?_⟩
              have g3 := (sg_bad q2).1
              have u1 := up1 (show i + 1 ≤ k by omega)
              have u2 : up (seg t (i + 1) k) = up (seg t (i + 1) j) + up (seg t j k) := by rw [seg_app g1 g3, up_app]
              show d1 + 1 ≤ 1 + up (seg t i k)
              omega
            | ok u j2 =>
              have g3 := (sg_ok q2).1
              have g4 := sg_le q2 g2
              have s2 := seg_sg q2
              simp [arr] at g3
              obtain ⟨_, ⟨d2, r2, q3, b2⟩⟩ := ih j2 g4 (by omega)
              have R2 := rdK_rd q3 g4
              have m1 := rdA_mono q1 (Nat.le_max_left d1 d2)
              have m2 := rdK_mono q3 (Nat.le_max_right d1 d2)
              have u3 : ∀ {e : Nat}, j2 ≤ e → up (seg t i e) = 2 + up (seg t (i + 1) j) + up (seg t j2 e) := fun {e} h => by
                rw [up1 (by omega), seg_app g1 (show j ≤ e by omega), seg_app (show j ≤ j2 by omega) h, s2, up_app, up_app]
                have : up arr = 1 := rfl
                omega
              cases r2 with
              | bad k =>
                refine ⟨max d1 d2 + 1, .bad k, by simp [rdA, e, m1, q2, m2], ?_⟩
                have := u3 R2.le
                have b2 : d2 ≤ 2 + up (seg t j2 k) := b2
                have this : up (seg t i k) = 2 + up (seg t (i + 1) j) + up (seg t j2 k) := this
                show max d1 d2 + 1 ≤ 1 + up (seg t i k)
                omega
              | ok r2 k =>
                have g5 : j2 ≤ k := R2.le
                have b2 : d2 ≤ 2 + up (seg t j2 k) := b2
                have u4 := u3 g5
                cases q4 : sg t [41] k with
                | bad m' =>
                  refine ⟨max d1 d2 + 1, .bad m', by simp [rdA, e, m1, q2, m2, q4], ?_⟩
                  have g6 := (sg_bad q4).1
                  have u5 : up (seg t i m') = up (seg t i k) + up (seg t k m') := by rw [seg_app (show i ≤ k by omega) g6, up_app]
                  show max d1 d2 + 1 ≤ 1 + up (seg t i m')
                  omega
                | ok u2 m' =>
                  refine ⟨max d1 d2 + 1, .ok (.f l1 r2) m', by simp [rdA, e, m1, q2, m2, q4], ?_⟩
                  have g6 := (sg_ok q4).1
                  have u5 : up (seg t i m') = up (seg t i k) + up (seg t k m') := by rw [seg_app (show i ≤ k by omega) (show k ≤ m' by omega), up_app]
                  show max d1 d2 + 1 ≤ 1 + up (seg t i m')
                  omega
        · by_cases hs : isSm c = true
          · exact ⟨1, .ok (.c (smF c hs)) (i + 1), by simp [rdA, e, h40, hs], by omega⟩
          · exact ⟨1, .bad i, by simp [rdA, e, h40, hs], by omega⟩
    refine ⟨A, ?_⟩
    obtain ⟨d1, r1, q1, b1⟩ := A
    have R1 := rdA_rd q1 hi
    cases r1 with
    | bad j => exact ⟨d1 + 1, .bad j, by simp [rdK, q1], by show d1 + 1 ≤ 2 + up (seg t i j); have b1 : d1 ≤ 1 + up (seg t i j) := b1; omega⟩
    | ok l1 j =>
      have g1 : i < j := (R1.ok _ _ rfl).1
      have g2 : j ≤ t.length := R1.len
      have b1 : d1 ≤ 1 + up (seg t i j) := b1
      by_cases h0 : t[j]? ≠ some 32 ∧ t[i]? ≠ some 40
      · exact ⟨d1 + 1, .ok l1 j, by simp only [rdK, q1, if_pos h0], by show d1 + 1 ≤ 2 + up (seg t i j); omega⟩
      · cases q2 : sg t arr j with
        | bad k =>
          refine ⟨d1 + 1, .bad k, by simp only [rdK, q1, if_neg h0, q2], ?_⟩
          have g3 := (sg_bad q2).1
          have u2 : up (seg t i k) = up (seg t i j) + up (seg t j k) := by rw [seg_app (by omega) g3, up_app]
          show d1 + 1 ≤ 2 + up (seg t i k)
          omega
        | ok u j2 =>
          have g3 := (sg_ok q2).1
          have g4 := sg_le q2 g2
          have s2 := seg_sg q2
          simp [arr] at g3
          obtain ⟨_, ⟨d2, r2, q3, b2⟩⟩ := ih j2 g4 (by omega)
          have R2 := rdK_rd q3 g4
          have m1 := rdA_mono q1 (Nat.le_max_left d1 d2)
          have m2 := rdK_mono q3 (Nat.le_max_right d1 d2)
          have u3 : ∀ {e : Nat}, j2 ≤ e → up (seg t i e) = 1 + up (seg t i j) + up (seg t j2 e) := fun {e} h => by
            rw [seg_app (show i ≤ j by omega) (show j ≤ e by omega), seg_app (show j ≤ j2 by omega) h, s2, up_app, up_app]
            have : up arr = 1 := rfl
            omega
          cases r2 with
          | bad k =>
            refine ⟨max d1 d2 + 1, .bad k, by simp only [rdK, m1, if_neg h0, q2, m2], ?_⟩
            have this : up (seg t i k) = 1 + up (seg t i j) + up (seg t j2 k) := u3 R2.le
            have b2 : d2 ≤ 2 + up (seg t j2 k) := b2
            show max d1 d2 + 1 ≤ 2 + up (seg t i k)
            omega
          | ok r2 k =>
            refine ⟨max d1 d2 + 1, .ok (.f l1 r2) k, by simp only [rdK, m1, if_neg h0, q2, m2], ?_⟩
            have this : up (seg t i k) = 1 + up (seg t i j) + up (seg t j2 k) := u3 R2.le
            have b2 : d2 ≤ 2 + up (seg t j2 k) := b2
            show max d1 d2 + 1 ≤ 2 + up (seg t i k)
            omega
end U
/-! R2: the law's reader of kinds. -/
namespace U
def signAt (t : List Nat) (i : Nat) : List Nat := (t.drop i).take 1
theorem signAt_some {t : List Nat} {i c : Nat} (h : t[i]? = some c) : signAt t i = [c] := by
  obtain ⟨l, e⟩ := List.getElem?_eq_some_iff.mp h
  unfold signAt
  rw [List.drop_eq_getElem_cons l, e]; rfl
theorem signAt_none {t : List Nat} {i : Nat} (h : t[i]? = none) : signAt t i = [] := by
  unfold signAt
  rw [List.drop_eq_nil_of_le (by simpa using h)]; rfl
theorem signAt_eq (t : List Nat) (i c : Nat) : (signAt t i == [c]) = decide (t[i]? = some c) := by
  cases e : t[i]? with
  | none => rw [signAt_none e]; rfl
  | some x => rw [signAt_some e]; by_cases h : x = c <;> simp [h]
theorem cut_at (t : List Nat) (i : Nat) (h : i ≤ t.length) : cut t (some (i : Int)) (some ((i : Int) + 1)) = signAt t i := cut_sign t i h
theorem negI (j : Nat) : -(j : Int) - 1 = -((j : Int) + 1) := by omega
theorem negL (j : Nat) : decide (-((j : Int) + 1) < 0) = true := by simp
theorem posL (j : Nat) : decide ((j : Int) < 0) = false := by simp
theorem cmQ_lt (a b : Int) (s : S) : cmpV .lt (.p (.int a)) (.p (.int b)) s = some (decide (a < b)) := rfl
theorem cmQ_is (s : S) : cmpV .is_ (.p .non) (.p .non) s = some true := rfl
theorem cmQ_isK (k : Kd) (s : S) : cmpV .is_ (.p k.v) (.p .non) s = some false := by cases k <;> rfl
/-- what the law's reader returns -/
def rsV {α : Type} (f : α → PV) : Rs α → PV
  | .ok a j => .tup [f a, .int (j : Int)]
  | .bad j => .tup [.non, .int (-((j : Int) + 1))]
def sgV : Rs Unit → PV
  | .ok _ j => .int (j : Int)
  | .bad j => .int (-((j : Int) + 1))
section
variable {n : Nat} {t : List Nat}
theorem l_signs (hn : 0 ≤ n) {v : Option Val} {w : Option Val} {s : S} : ∀ (cs : List Nat) (i : Nat) (x0 : Option Val), i ≤ t.length →
    (∀ u j, sg t cs i = .ok u j → ∃ x1, forS (CN prog n) [] (forT w__law_signs_0) (forB w__law_signs_0) (cs.map fun c => .p (.str [c])) [some (.p (.str t)), some (.p (.int (i : Int))), w, x0] s = .next [some (.p (.str t)), some (.p (.int (j : Int))), w, x1] s) ∧
    (∀ j, sg t cs i = .bad j → forS (CN prog n) [] (forT w__law_signs_0) (forB w__law_signs_0) (cs.map fun c => .p (.str [c])) [some (.p (.str t)), some (.p (.int (i : Int))), w, x0] s = .ret (.p (.int (-((j : Int) + 1)))) s)
  | [], i, x0, _ => by
    refine ⟨fun u j h => ?_, fun j h => ?_⟩
    · simp only [sg] at h; cases h; exact ⟨x0, for_nil rfl⟩
    · simp [sg] at h
  | c :: cs, i, x0, hi => by
    have hc := cut_at t i hi
    have hq := signAt_eq t i c
    simp only [sg]
    by_cases e : t[i]? = some c
    · simp only [e, if_true]
      have l := (List.getElem?_eq_some_iff.mp e).1
      obtain ⟨ih1, ih2⟩ := l_signs hn (s := s) (v := v) (w := w) cs (i + 1) (some (.p (.str [c]))) (by omega)
      rw [e] at hq
      simp at hq
      have step : exs (CN prog n) (forB w__law_signs_0) [some (.p (.str t)), some (.p (.int (i : Int))), w, some (.p (.str [c]))] s = .next [some (.p (.str t)), some (.p (.int ((i + 1 : Nat) : Int))), w, some (.p (.str [c]))] s := by
        simp -dsimp [forB, w__law_signs_0, binop, binP, slcV, hc, cmpV, cmpP, PV.dep, PV.eq, hq]
      refine ⟨fun u j h => ?_, fun j h => ?_⟩
      · obtain ⟨x1, q⟩ := ih1 u j h
        exact ⟨x1, (for_cons rfl rfl step).trans q⟩
      · exact (for_cons rfl rfl step).trans (ih2 j h)
    · simp only [e, if_false]
      rw [decide_eq_false e] at hq
      refine ⟨nofun, fun j h => ?_⟩
      cases h
      refine for_ret rfl rfl ?_
      simp -dsimp [forB, w__law_signs_0, binop, binP, slcV, hc, cmpV, cmpP, PV.dep, PV.eq, hq, negI]
theorem s_signs {cs : List Nat} {i : Nat} {s : S} (hn : 2 ≤ n) (hi : i ≤ t.length) : FN prog n F__law_signs [.p (.str t), .p (.int (i : Int)), .p (.str cs)] s = .ok (.p (sgV (sg t cs i))) s := by
  obtain ⟨h1, h2⟩ := l_signs (n := n - 2) (t := t) (v := none) (w := some (.p (.str cs))) (s := ⟨[], s.d, s.sc⟩) (by omega) cs i none hi
  refine callQ (h := []) (sc := s.sc) hn rfl rfl rfl rfl rfl ?_
  cases e : sg t cs i with
  | ok u j =>
    obtain ⟨x1, q⟩ := h1 u j e
    have q := for_start (s := ⟨[], s.d, s.sc⟩) (env := [some (.p (.str t)), some (.p (.int (i : Int))), some (.p (.str cs)), none]) rfl (by simp -dsimp [forI, w__law_signs_0, itemsOf, guardOf]) q
    simp -dsimp [m__law_signs, q, sgV]
  | bad j =>
    have q := h2 j e
    have q := for_start (s := ⟨[], s.d, s.sc⟩) (env := [some (.p (.str t)), some (.p (.int (i : Int))), some (.p (.str cs)), none]) rfl (by simp -dsimp [forI, w__law_signs_0, itemsOf, guardOf]) q
    simp -dsimp [m__law_signs, q, sgV]
theorem cmQ_ne (a b : List Nat) (s : S) : cmpV .ne (.p (.str a)) (.p (.str b)) s = some (!(a == b)) := by simp [cmpV, cmpP, PV.dep, PV.eq]
theorem cmQ_eq (a b : List Nat) (s : S) : cmpV .eq (.p (.str a)) (.p (.str b)) s = some (a == b) := by simp [cmpV, cmpP, PV.dep, PV.eq]
def smallL : List Nat := [97, 98, 99, 100, 101, 102, 103, 104, 105, 106, 107, 108, 109, 110, 111, 112, 113, 114, 115, 116, 117, 118, 119, 120, 121, 122]
theorem flat_small : allFlat (smallL.map fun c => Val.p (.str [c])) = some (smallL.map fun c => PV.str [c]) := by rfl
theorem in_sl (t : List Nat) (i : Nat) : ((smallL.map fun c => PV.str [c]).any fun y => y.eq (.str (signAt t i))) = smH (t.drop i) := by
  cases e : t[i]? with
  | none =>
    rw [signAt_none e, List.drop_eq_nil_of_le (by simpa using e)]
    decide
  | some c =>
    obtain ⟨l, e2⟩ := List.getElem?_eq_some_iff.mp e
    rw [signAt_some e, List.drop_eq_getElem_cons l, e2]
    show _ = isSm c
    rw [← isSm_eq c, Bool.eq_iff_iff, List.any_eq_true, decide_eq_true_eq]
    constructor
    · rintro ⟨y, hy, h⟩
      obtain ⟨x, hx, rfl⟩ := List.mem_map.mp hy
      have : x = c := by simpa [PV.eq] using h
      subst this
      exact hx
    · intro h
      exact ⟨.str [c], List.mem_map_of_mem (f := fun c => PV.str [c]) h, by simp [PV.eq]⟩
def smallV : List Val := smallL.map fun c => Val.p (.str [c])
theorem bi_small (s : S) : biV .list [.p (.str [97, 98, 99, 100, 101, 102, 103, 104, 105, 106, 107, 108, 109, 110, 111, 112, 113, 114, 115, 116, 117, 118, 119, 120, 121, 122])] s = new (.list smallV) s := rfl
theorem in_sv {t : List Nat} {i a : Nat} {s : S} (h : s.h[a]? = some (.list smallV)) : cmpV .in_ (.p (.str (signAt t i))) (.r a) s = some (smH (t.drop i)) := by
  simp only [cmpV, h]
  rw [show (PV.str (signAt t i)).flat = true from rfl, if_pos rfl, show allFlat smallV = some (smallL.map fun c => PV.str [c]) from flat_small, ← in_sl t i]
  rfl
theorem smH_some {c i : Nat} (h : t[i]? = some c) : smH (t.drop i) = isSm c := by
  obtain ⟨l, e⟩ := List.getElem?_eq_some_iff.mp h
  rw [List.drop_eq_getElem_cons l, e]; rfl
theorem smH_none {i : Nat} (h : t[i]? = none) : smH (t.drop i) = false := by
  rw [List.drop_eq_nil_of_le (by simpa using h)]; rfl
theorem at_nth {i c : Nat} (h : t[i]? = some c) : atI t (i : Int) = some c := atI_nth h
theorem find_sm {c : Nat} (h : isSm c = true) : findC c smallL 0 = some (smF c h).val := by
  have := find_small (smF c h)
  have h2 : 97 + (smF c h).val = c := by simp [smF]; simp [isSm] at h; omega
  rw [h2] at this
  exact this
def rkV : Option (Rs Kd) → PV
  | some r => rsV Kd.v r
  | none => .non
theorem Kd.v_not_non (k : Kd) (s : S) : cmpP .is_ k.v .non = some false := by cases k <;> rfl
mutual
theorem s_atom : ∀ (d : Nat) {i : Nat} {r : Rs Kd}, rdA t d i = some r → i ≤ t.length → ∀ {n : Nat} {s : S}, d + 3 ≤ n → FN prog n F__law_read_atom [.p (.str t), .p (.int (i : Int))] s = .ok (.p (rsV Kd.v r)) s
  | 0, _, _, h, _, _, _, _ => by simp [rdA] at h
  | d + 1, i, r, h, hi, n, s, hn => by
    have hc := cut_at t i hi
    have hq := signAt_eq t i 40
    unfold rdA at h
    cases e : t[i]? with
    | none =>
      simp only [e] at h
      cases h
      rw [e, decide_eq_false (by simp)] at hq
      have hsm := fun d sc => in_sv (t := t) (i := i) (a := 0) (s := ⟨[.list smallV], d, sc⟩) rfl
      rw [smH_none e] at hsm
      refine callQ (h := [.list smallV]) (sc := s.sc) (by omega) rfl rfl rfl rfl rfl ?_
      simp -dsimp [m__law_read_atom, binop, binP, slcV, hc, cmQ_ne, hq, bi_small, new, hsm, negI, rsV]
    | some c =>
      have l := (List.getElem?_eq_some_iff.mp e).1
      simp only [e] at h
      have hi1 : ((i + 1 : Nat) : Int) = (i : Int) + 1 := by omega
      by_cases h40 : c = 40
      · subst h40
        simp only [if_true] at h
        rw [e] at hq
        simp only [decide_true] at hq
        cases q1 : rdA t d (i + 1) with
        | none => simp [q1] at h
        | some r1 =>
          rw [q1] at h
          have f1 := fun s => s_atom d q1 (by omega) (n := n - 2 + 1) (s := s) (by omega)
          simp only [hi1] at f1
          cases r1 with
          | bad j =>
            simp only at h
            cases h
            refine callQ (h := []) (sc := s.sc) (by omega) rfl rfl rfl rfl rfl ?_
            simp -dsimp [m__law_read_atom, binop, binP, slcV, hc, cmQ_ne, hq, f1, rsV, cmQ_is]
          | ok k1 j =>
            have hj : j ≤ t.length := (rdA_rd q1 (by omega)).len
            have f2 := fun s => s_signs (n := n - 2 + 1) (t := t) (cs := [32, 62, 32]) (i := j) (s := s) (by omega) hj
            simp only at h
            cases q2 : sg t arr j with
            | bad k =>
              rw [q2] at h
              simp only at h
              cases h
              simp only [show sg t [32, 62, 32] j = .bad k from q2, sgV] at f2
              refine callQ (h := []) (sc := s.sc) (by omega) rfl rfl rfl rfl rfl ?_
              simp -dsimp [m__law_read_atom, binop, binP, slcV, hc, cmQ_ne, hq, f1, f2, rsV, cmQ_isK, cmQ_lt, negL]
            | ok u j2 =>
              rw [q2] at h
              simp only at h
              simp only [show sg t [32, 62, 32] j = .ok u j2 from q2, sgV] at f2
              have hj2 := sg_le q2 hj
              cases q3 : rdK t d j2 with
              | none => simp [q3] at h
              | some r2 =>
                rw [q3] at h
                have f3 := fun s => s_rkind d q3 hj2 (n := n - 2 + 1) (s := s) (by omega)
                cases r2 with
                | bad k =>
                  simp only at h
                  cases h
                  refine callQ (h := []) (sc := s.sc) (by omega) rfl rfl rfl rfl rfl ?_
                  simp -dsimp [m__law_read_atom, binop, binP, slcV, hc, cmQ_ne, hq, f1, f2, f3, rsV, cmQ_isK, cmQ_is, cmQ_lt, posL]
                | ok k2 k =>
                  have hk : k ≤ t.length := (rdK_rd q3 hj2).len
                  have f4 := fun s => s_signs (n := n - 2 + 1) (t := t) (cs := [41]) (i := k) (s := s) (by omega) hk
                  simp only at h
                  cases q4 : sg t [41] k with
                  | bad m =>
                    rw [q4] at h
                    simp only at h
                    cases h
                    simp only [q4, sgV] at f4
                    refine callQ (h := []) (sc := s.sc) (by omega) rfl rfl rfl rfl rfl ?_
                    simp -dsimp [m__law_read_atom, binop, binP, slcV, hc, cmQ_ne, hq, f1, f2, f3, f4, rsV, cmQ_isK, cmQ_is, cmQ_lt, posL, negL]
                  | ok u2 m =>
                    rw [q4] at h
                    simp only at h
                    cases h
                    simp only [q4, sgV] at f4
                    refine callQ (h := []) (sc := s.sc) (by omega) rfl rfl rfl rfl rfl ?_
                    simp -dsimp [m__law_read_atom, binop, binP, slcV, hc, cmQ_ne, hq, f1, f2, f3, f4, rsV, cmQ_isK, cmQ_is, cmQ_lt, posL, negL, Kd.v]
      · rw [if_neg h40] at h
        rw [e, decide_eq_false (by simpa using h40)] at hq
        have hsm := fun d sc => in_sv (t := t) (i := i) (a := 0) (s := ⟨[.list smallV], d, sc⟩) rfl
        rw [smH_some e] at hsm
        refine callQ (h := [.list smallV]) (sc := s.sc) (by omega) rfl rfl rfl rfl rfl ?_
        by_cases hs : isSm c = true
        · rw [dif_pos hs] at h
          cases h
          simp only [hs] at hsm
          have h5 := at_nth e
          have h6 := find_sm hs
          simp only [smallL] at h6
          simp -dsimp [m__law_read_atom, binop, binP, slcV, hc, cmQ_ne, hq, bi_small, new, hsm, rsV, idxV, h5, bmV, h6, Kd.v, bmTag]
        · rw [dif_neg hs] at h
          cases h
          simp only [Bool.eq_false_iff.mpr hs] at hsm
          simp -dsimp [m__law_read_atom, binop, binP, slcV, hc, cmQ_ne, hq, bi_small, new, hsm, negI, rsV]
theorem s_rkind : ∀ (d : Nat) {i : Nat} {r : Rs Kd}, rdK t d i = some r → i ≤ t.length → ∀ {n : Nat} {s : S}, d + 3 ≤ n → FN prog n F__law_read_kind [.p (.str t), .p (.int (i : Int))] s = .ok (.p (rsV Kd.v r)) s
  | 0, _, _, h, _, _, _, _ => by simp [rdK] at h
  | d + 1, i, r, h, hi, n, s, hn => by
    have hc := cut_at t i hi
    have hq := signAt_eq t i 40
    unfold rdK at h
    cases q1 : rdA t d i with
    | none => simp [q1] at h
    | some r1 =>
      rw [q1] at h
      have f1 := fun s => s_atom d q1 hi (n := n - 2 + 1) (s := s) (by omega)
      cases r1 with
      | bad j =>
        simp only at h
        cases h
        refine callQ (h := []) (sc := s.sc) (by omega) rfl rfl rfl rfl rfl ?_
        simp -dsimp [m__law_read_kind, binop, binP, slcV, hc, f1, rsV, cmQ_is]
      | ok k1 j =>
        have hj : j ≤ t.length := (rdA_rd q1 hi).len
        have hcj := cut_at t j hj
        have hqj := signAt_eq t j 32
        have f2 := fun s => s_signs (n := n - 2 + 1) (t := t) (cs := [32, 62, 32]) (i := j) (s := s) (by omega) hj
        simp only at h
        split at h
        · rename_i h0
          cases h
          rw [decide_eq_false (by simpa using h0.1)] at hqj
          rw [decide_eq_false (by simpa using h0.2)] at hq
          refine callQ (h := []) (sc := s.sc) (by omega) rfl rfl rfl rfl rfl ?_
          simp -dsimp [m__law_read_kind, binop, binP, slcV, hc, hcj, f1, rsV, cmQ_isK, cmQ_ne, hq, hqj]
        · rename_i h0
          have e0 : ∀ (a b : Unit → U.R Bool) [Frz a] [Frz b] (s1 : S), a () = .ok (!(signAt t i == [40])) s1 → b () = .ok false s1 → br (!(signAt t j == [32])) a b = .ok false s1 := fun a b _ _ s1 ha hb => by
            rw [hqj]
            by_cases e : t[j]? = some 32
            · rw [decide_eq_true e]; exact hb
            · rw [decide_eq_false e]
              have : t[i]? = some 40 := Decidable.byContradiction fun z => h0 ⟨e, z⟩
              rw [hq, decide_eq_true this] at ha
              exact ha
          cases q2 : sg t arr j with
          | bad k =>
            rw [q2] at h
            simp only at h
            cases h
            simp only [show sg t [32, 62, 32] j = .bad k from q2, sgV] at f2
            refine callQ (h := []) (sc := s.sc) (by omega) rfl rfl rfl rfl rfl ?_
            simp -dsimp [m__law_read_kind, binop, binP, slcV, hc, hcj, f1, f2, rsV, cmQ_isK, cmQ_ne]
            rw [e0 _ _ _ (by simp -dsimp [cmQ_ne]) rfl]
            simp -dsimp [f2, cmQ_lt, negL]
          | ok u j2 =>
            rw [q2] at h
            simp only at h
            simp only [show sg t [32, 62, 32] j = .ok u j2 from q2, sgV] at f2
            have hj2 := sg_le q2 hj
            cases q3 : rdK t d j2 with
            | none => simp [q3] at h
            | some r2 =>
              rw [q3] at h
              have f3 := fun s => s_rkind d q3 hj2 (n := n - 2 + 1) (s := s) (by omega)
              cases r2 with
              | bad k =>
                simp only at h
                cases h
                refine callQ (h := []) (sc := s.sc) (by omega) rfl rfl rfl rfl rfl ?_
                simp -dsimp [m__law_read_kind, binop, binP, slcV, hc, hcj, f1, f2, rsV, cmQ_isK, cmQ_ne]
                rw [e0 _ _ _ (by simp -dsimp [cmQ_ne]) rfl]
                simp -dsimp [f2, f3, rsV, cmQ_lt, posL, cmQ_is]
              | ok k2 k =>
                simp only at h
                cases h
                refine callQ (h := []) (sc := s.sc) (by omega) rfl rfl rfl rfl rfl ?_
                simp -dsimp [m__law_read_kind, binop, binP, slcV, hc, hcj, f1, f2, rsV, cmQ_isK, cmQ_ne]
                rw [e0 _ _ _ (by simp -dsimp [cmQ_ne]) rfl]
                simp -dsimp [f2, f3, rsV, cmQ_lt, posL, cmQ_isK, Kd.v]
end
end
end U
/-! R3: programs read by descent, in plain functions. -/
namespace U
def nmAt (t : List Nat) (i : Nat) : List Nat := ((t.drop i).takeWhile isSm).take 8
theorem tw_all (p : Nat → Bool) : ∀ (l : List Nat) (c : Nat), c ∈ l.takeWhile p → p c = true
  | [], c, h => by simp at h
  | x :: l, c, h => by
    rw [List.takeWhile_cons] at h
    split at h
    · rcases List.mem_cons.mp h with rfl | h
      · assumption
      · exact tw_all p l c h
    · simp at h
theorem dw_head (p : Nat → Bool) : ∀ (l : List Nat) (c : Nat) (r : List Nat), l.dropWhile p = c :: r → p c = false
  | [], c, r, h => by simp at h
  | x :: l, c, r, h => by
    rw [List.dropWhile_cons] at h
    split at h
    · exact dw_head p l c r h
    · rename_i hx
      cases h
      simpa using hx
theorem nmAt_sm {t : List Nat} {i c : Nat} (h : c ∈ nmAt t i) : isSm c = true := by
  unfold nmAt at h
  have := List.mem_of_mem_take h
  exact tw_all _ _ _ this
theorem nmAt_len (t : List Nat) (i : Nat) : (nmAt t i).length ≤ 8 := by unfold nmAt; simp; omega
theorem tw_pre {α : Type} (p : α → Bool) : ∀ l : List α, l.takeWhile p ++ l.dropWhile p = l
  | [] => rfl
  | x :: l => by
    by_cases h : p x = true
    · simp [List.takeWhile_cons, List.dropWhile_cons, h, tw_pre p l]
    · simp [List.takeWhile_cons, List.dropWhile_cons, h]
theorem nmAt_drop (t : List Nat) (i : Nat) : ∃ r, t.drop i = nmAt t i ++ r ∧ ((nmAt t i).length = 8 ∨ smH r = false) := by
  refine ⟨((t.drop i).takeWhile isSm).drop 8 ++ (t.drop i).dropWhile isSm, ?_, ?_⟩
  · unfold nmAt
    rw [← List.append_assoc, List.take_append_drop, tw_pre]
  · by_cases h : 8 ≤ ((t.drop i).takeWhile isSm).length
    · left; unfold nmAt; simp; omega
    · right
      rw [List.drop_eq_nil_of_le (by omega), List.nil_append]
      cases e : (t.drop i).dropWhile isSm with
      | nil => rfl
      | cons c r =>
        exact dw_head _ _ _ _ e
theorem nmAt_le {t : List Nat} {i : Nat} (hi : i ≤ t.length) : i + (nmAt t i).length ≤ t.length := by
  obtain ⟨r, h, _⟩ := nmAt_drop t i
  have := congrArg List.length h
  simp at this; omega
def rdN (t : List Nat) (i : Nat) : Rs Nm := if h : nmAt t i = [] then .bad i else .ok ⟨nmAt t i, List.length_pos_iff.mpr h, nmAt_len t i, fun _ hc => nmAt_sm hc⟩ (i + (nmAt t i).length)
theorem rdN_ok {t : List Nat} {i j : Nat} {x : Nm} (h : rdN t i = .ok x j) : x.s = nmAt t i ∧ j = i + x.s.length ∧ i < j ∧ seg t i j = x.s := by
  unfold rdN at h
  split at h
  · cases h
  · rename_i h0
    cases h
    have := List.length_pos_iff.mpr h0
    refine ⟨rfl, rfl, by omega, ?_⟩
    obtain ⟨r, hr, _⟩ := nmAt_drop t i
    unfold seg
    rw [hr, show i + (nmAt t i).length - i = (nmAt t i).length by omega]; simp
theorem rdN_bad {t : List Nat} {i j : Nat} (h : rdN t i = .bad j) : j = i ∧ nmAt t i = [] := by
  unfold rdN at h
  split at h
  · rename_i h0; cases h; exact ⟨rfl, h0⟩
  · cases h
def rdW (t : List Nat) : Nat → Nat → Option (Rs Pg)
  | 0, _ => none
  | d + 1, i => if t[i]? = some 91 then (match rdN t (i + 1) with
      | .bad j => some (.bad j)
      | .ok x j => match sg t [58] j with
        | .bad k => some (.bad k)
        | .ok _ j2 => match rdK t d j2 with
          | none => none
          | some (.bad k) => some (.bad k)
          | some (.ok k1 k) => match sg t [93, 32] k with
            | .bad m => some (.bad m)
            | .ok _ m => match rdW t d m with
              | none => none
              | some (.bad q) => some (.bad q)
              | some (.ok b q) => some (.ok (.tk x k1 b) q))
    else if t[i]? = some 40 then (match rdW t d (i + 1) with
      | none => none
      | some (.bad j) => some (.bad j)
      | some (.ok f j) => match sg t [32] j with
        | .bad k => some (.bad k)
        | .ok _ j2 => match rdW t d j2 with
          | none => none
          | some (.bad k) => some (.bad k)
          | some (.ok a k) => match sg t [41] k with
            | .bad m => some (.bad m)
            | .ok _ m => some (.ok (.us f a) m))
    else match rdN t i with
      | .bad j => some (.bad j)
      | .ok x j => some (.ok (.nm x) j)
theorem rdW_mono {t : List Nat} : ∀ {d e i : Nat} {r : Rs Pg}, rdW t d i = some r → d ≤ e → rdW t e i = some r
  | 0, _, _, _, h, _ => by simp [rdW] at h
  | d + 1, 0, _, _, _, l => by omega
  | d + 1, e + 1, i, r, h, l => by
    have ih : ∀ {i : Nat} {r : Rs Pg}, rdW t d i = some r → rdW t e i = some r := fun h => rdW_mono h (by omega)
    have ihK : ∀ {i : Nat} {r : Rs Kd}, rdK t d i = some r → rdK t e i = some r := fun h => rdK_mono h (by omega)
    unfold rdW at h ⊢
    split at h
    · rename_i h91
      rw [if_pos h91]
      cases q1 : rdN t (i + 1) with
      | bad j => rw [q1] at h; exact h
      | ok x j =>
        rw [q1] at h
        simp only at h ⊢
        cases q2 : sg t [58] j with
        | bad k => rw [q2] at h; exact h
        | ok u j2 =>
          rw [q2] at h
          simp only at h ⊢
          cases q3 : rdK t d j2 with
          | none => simp [q3] at h
          | some r2 =>
            rw [q3] at h; rw [ihK q3]
            cases r2 with
            | bad k => exact h
            | ok k1 k =>
              simp only at h ⊢
              cases q4 : sg t [93, 32] k with
              | bad m => rw [q4] at h; exact h
              | ok u2 m =>
                rw [q4] at h
                simp only at h ⊢
                cases q5 : rdW t d m with
                | none => simp [q5] at h
                | some r3 => rw [q5] at h; rw [ih q5]; exact h
    · rename_i h91
      rw [if_neg h91]
      split at h
      · rename_i h40
        rw [if_pos h40]
        cases q1 : rdW t d (i + 1) with
        | none => simp [q1] at h
        | some r1 =>
          rw [q1] at h; rw [ih q1]
          cases r1 with
          | bad j => exact h
          | ok f j =>
            simp only at h ⊢
            cases q2 : sg t [32] j with
            | bad k => rw [q2] at h; exact h
            | ok u j2 =>
              rw [q2] at h
              simp only at h ⊢
              cases q3 : rdW t d j2 with
              | none => simp [q3] at h
              | some r2 => rw [q3] at h; rw [ih q3]; exact h
      · rename_i h40
        rw [if_neg h40]; exact h
structure Rw (t : List Nat) (i : Nat) (r : Rs Pg) : Prop where
  le : i ≤ r.end_
  len : r.end_ ≤ t.length
  ok : ∀ k j, r = .ok k j → i < j ∧ seg t i j = k.pt
theorem rdW_rw {t : List Nat} : ∀ {d i : Nat} {r : Rs Pg}, rdW t d i = some r → i ≤ t.length → Rw t i r
  | 0, _, _, h, _ => by simp [rdW] at h
  | d + 1, i, r, h, hi => by
    unfold rdW at h
    split at h
    · rename_i h91
      have l := (List.getElem?_eq_some_iff.mp h91).1
      have s1 := seg_one h91
      cases q1 : rdN t (i + 1) with
      | bad j => rw [q1] at h; cases h; obtain ⟨e, _⟩ := rdN_bad q1; exact ⟨by show i ≤ j; omega, by show j ≤ _; omega, fun k j e => nomatch e⟩
      | ok x j =>
        rw [q1] at h
        obtain ⟨x1, x2, x3, x4⟩ := rdN_ok q1
        have g1 : j ≤ t.length := by rw [x2, x1]; exact nmAt_le (by omega)
        simp only at h
        cases q2 : sg t [58] j with
        | bad k => rw [q2] at h; cases h; exact ⟨by have := (sg_bad q2).1; show i ≤ k; omega, bad_le q2 g1, fun k j e => nomatch e⟩
        | ok u j2 =>
          rw [q2] at h
          simp only at h
          have g2 := sg_le q2 g1
          have g3 := (sg_ok q2).1
          have s2 := seg_sg q2
          simp at g3
          cases q3 : rdK t d j2 with
          | none => simp [q3] at h
          | some r2 =>
            have R2 := rdK_rd q3 g2
            rw [q3] at h
            cases r2 with
            | bad k => cases h; exact ⟨by have := R2.le; show i ≤ k; have : j2 ≤ k := this; omega, R2.len, fun k j e => nomatch e⟩
            | ok k1 k =>
              have g4 : j2 ≤ k := R2.le
              have g5 : k ≤ t.length := R2.len
              simp only at h
              cases q4 : sg t [93, 32] k with
              | bad m => rw [q4] at h; cases h; exact ⟨by have := (sg_bad q4).1; show i ≤ m; omega, bad_le q4 g5, fun k j e => nomatch e⟩
              | ok u2 m =>
                rw [q4] at h
                simp only at h
                have g6 := sg_le q4 g5
                have g7 := (sg_ok q4).1
                have s4 := seg_sg q4
                simp at g7
                cases q5 : rdW t d m with
                | none => simp [q5] at h
                | some r3 =>
                  have R3 := rdW_rw q5 g6
                  rw [q5] at h
                  cases r3 with
                  | bad q => cases h; exact ⟨by have := R3.le; show i ≤ q; have : m ≤ q := this; omega, R3.len, fun k j e => nomatch e⟩
                  | ok b q =>
                    cases h
                    have g8 : m ≤ q := R3.le
                    refine ⟨by show i ≤ q; omega, R3.len, fun k' j' e => ?_⟩
                    cases e
                    refine ⟨by omega, ?_⟩
                    rw [seg_app (show i ≤ i + 1 by omega) (show i + 1 ≤ q by omega), seg_app (show i + 1 ≤ j by omega) (show j ≤ q by omega), seg_app (show j ≤ j2 by omega) (show j2 ≤ q by omega), seg_app (show j2 ≤ k by omega) (show k ≤ q by omega), seg_app (show k ≤ m by omega) g8, s1, x4, s2, (R2.ok _ _ rfl).2, s4, (R3.ok _ _ rfl).2]
                    simp [Pg.pt]
    · split at h
      · rename_i h40
        have l := (List.getElem?_eq_some_iff.mp h40).1
        have s1 := seg_one h40
        cases q1 : rdW t d (i + 1) with
        | none => simp [q1] at h
        | some r1 =>
          have R1 := rdW_rw q1 (by omega)
          rw [q1] at h
          cases r1 with
          | bad j => cases h; exact ⟨by have := R1.le; show i ≤ j; have : i + 1 ≤ j := this; omega, R1.len, fun k j e => nomatch e⟩
          | ok f j =>
            have g1 : i + 1 ≤ j := R1.le
            have g2 : j ≤ t.length := R1.len
            simp only at h
            cases q2 : sg t [32] j with
            | bad k => rw [q2] at h; cases h; exact ⟨by have := (sg_bad q2).1; show i ≤ k; omega, bad_le q2 g2, fun k j e => nomatch e⟩
            | ok u j2 =>
              rw [q2] at h
              simp only at h
              have g3 := (sg_ok q2).1
              have g4 := sg_le q2 g2
              have s2 := seg_sg q2
              simp at g3
              cases q3 : rdW t d j2 with
              | none => simp [q3] at h
              | some r2 =>
                have R2 := rdW_rw q3 g4
                rw [q3] at h
                cases r2 with
                | bad k => cases h; exact ⟨by have := R2.le; show i ≤ k; have : j2 ≤ k := this; omega, R2.len, fun k j e => nomatch e⟩
                | ok a k =>
                  have g5 : j2 ≤ k := R2.le
                  have g6 : k ≤ t.length := R2.len
                  simp only at h
                  cases q4 : sg t [41] k with
                  | bad m => rw [q4] at h; cases h; exact ⟨by have := (sg_bad q4).1; show i ≤ m; omega, bad_le q4 g6, fun k j e => nomatch e⟩
                  | ok u2 m =>
                    rw [q4] at h
                    cases h
                    have g7 := (sg_ok q4).1
                    have s4 := seg_sg q4
                    simp at g7
                    refine ⟨by show i ≤ m; omega, sg_le q4 g6, fun k' j' e => ?_⟩
                    cases e
                    refine ⟨by omega, ?_⟩
                    rw [seg_app (show i ≤ i + 1 by omega) (show i + 1 ≤ m by omega), seg_app g1 (show j ≤ m by omega), seg_app (show j ≤ j2 by omega) (show j2 ≤ m by omega), seg_app g5 (show k ≤ m by omega), s1, (R1.ok _ _ rfl).2, s2, (R2.ok _ _ rfl).2, s4]
                    simp [Pg.pt]
      · cases q1 : rdN t i with
        | bad j => rw [q1] at h; cases h; obtain ⟨e, _⟩ := rdN_bad q1; exact ⟨by show i ≤ j; omega, by show j ≤ _; omega, fun k j e => nomatch e⟩
        | ok x j =>
          rw [q1] at h
          cases h
          obtain ⟨x1, x2, x3, x4⟩ := rdN_ok q1
          refine ⟨by show i ≤ j; omega, by show j ≤ _; rw [x2, x1]; exact nmAt_le hi, fun k' j' e => ?_⟩
          cases e
          exact ⟨x3, x4⟩
/-- ( and [ -/
def cb (l : List Nat) : Nat := (l.filter fun c => c == 40 || c == 91).length
def cg (l : List Nat) : Nat := (l.filter fun c => c == 62).length
theorem cb_app (a b : List Nat) : cb (a ++ b) = cb a + cb b := by simp [cb]
theorem cg_app (a b : List Nat) : cg (a ++ b) = cg a + cg b := by simp [cg]
theorem up_le (l : List Nat) : up l ≤ cb l + cg l := by
  induction l with
  | nil => simp [up]
  | cons c l ih =>
    simp only [up, cb, cg, List.filter_cons] at ih ⊢
    by_cases h1 : c = 40
    · subst h1; simp; omega
    · by_cases h2 : c = 62
      · subst h2; simp; omega
      · have a1 : (c == 40) = false := by simpa using h1
        have a2 : (c == 62) = false := by simpa using h2
        rw [a1, a2]
        by_cases h3 : c = 91
        · subst h3; simp; omega
        · have a3 : (c == 91) = false := by simpa using h3
          rw [a3]; simpa using ih
theorem rw_enough (t : List Nat) (M : Nat) (hM : ∀ i j, (∀ c ∈ seg t i j, kc c) → cg (seg t i j) ≤ M) : ∀ (m i : Nat), i ≤ t.length → t.length - i ≤ m →
    ∃ d r, rdW t d i = some r ∧ d ≤ 3 + cb (seg t i r.end_) + M := by
  intro m
  induction m with
  | zero =>
    intro i hi hm
    have e : t[i]? = none := by rw [List.getElem?_eq_none]; omega
    have e2 : nmAt t i = [] := by unfold nmAt; rw [List.drop_eq_nil_of_le (by omega)]; rfl
    exact ⟨1, .bad i, by simp [rdW, e, rdN, e2], by omega⟩
  | succ m ih =>
    intro i hi hm
    by_cases h91 : t[i]? = some 91
    · have l := (List.getElem?_eq_some_iff.mp h91).1
      have s1 := seg_one h91
      have c1 : ∀ {e : Nat}, i + 1 ≤ e → cb (seg t i e) = 1 + cb (seg t (i + 1) e) := fun {e} h => by rw [seg_app (show i ≤ i + 1 by omega) h, s1, cb_app]; rfl
      cases q1 : rdN t (i + 1) with
      | bad j => exact ⟨1, .bad j, by simp [rdW, h91, q1], by omega⟩
      | ok x j =>
        obtain ⟨x1, x2, x3, x4⟩ := rdN_ok q1
        have g1 : j ≤ t.length := by rw [x2, x1]; exact nmAt_le (by omega)
        cases q2 : sg t [58] j with
        | bad k => exact ⟨1, .bad k, by simp [rdW, h91, q1, q2], by omega⟩
        | ok u j2 =>
          have g2 := sg_le q2 g1
          have g3 := (sg_ok q2).1
          simp at g3
          obtain ⟨_, d2, r2, q3, b2⟩ := rd_enough t t.length j2 g2 (by omega)
          have R2 := rdK_rd q3 g2
          have k2 := hM j2 r2.end_ R2.kcs
          have u2 := up_le (seg t j2 r2.end_)
          have c2 : ∀ {e : Nat}, r2.end_ ≤ e → 1 + cb (seg t j2 r2.end_) + cb (seg t r2.end_ e) ≤ cb (seg t i e) := fun {e} h => by
            have := R2.le
            rw [c1 (by omega), seg_app (show i + 1 ≤ j2 by omega) (show j2 ≤ e by omega), cb_app, seg_app R2.le h, cb_app]; omega
          cases r2 with
          | bad k =>
            refine ⟨d2 + 1, .bad k, by simp [rdW, h91, q1, q2, q3], ?_⟩
            have c2 := c2 (Nat.le_refl _)
            try simp only [Rs.end_] at *
            omega
          | ok k1 k =>
            have g4 : j2 ≤ k := R2.le
            have g5 : k ≤ t.length := R2.len
            cases q4 : sg t [93, 32] k with
            | bad m' =>
              refine ⟨d2 + 1, .bad m', by simp [rdW, h91, q1, q2, q3, q4], ?_⟩
              have c2 := c2 (e := m') (sg_bad q4).1
              try simp only [Rs.end_] at *
              omega
            | ok u2' m' =>
              have g6 := sg_le q4 g5
              have g7 := (sg_ok q4).1
              simp at g7
              obtain ⟨d3, r3, q5, b3⟩ := ih m' g6 (by omega)
              have R3 := rdW_rw q5 g6
              have mK := rdK_mono q3 (Nat.le_max_left d2 d3)
              have mW := rdW_mono q5 (Nat.le_max_right d2 d3)
              have c3 : cb (seg t k r3.end_) = cb (seg t k m') + cb (seg t m' r3.end_) := by rw [seg_app (show k ≤ m' by omega) R3.le, cb_app]
              have c2 := c2 (e := r3.end_) (by have := R3.le; show k ≤ _; omega)
              try simp only [Rs.end_] at c2 k2 b2 u2
              cases r3 with
              | bad q =>
                refine ⟨max d2 d3 + 1, .bad q, by simp [rdW, h91, q1, q2, mK, q4, mW], ?_⟩
                try simp only [Rs.end_] at *
                omega
              | ok b q =>
                refine ⟨max d2 d3 + 1, .ok (.tk x k1 b) q, by simp [rdW, h91, q1, q2, mK, q4, mW], ?_⟩
                try simp only [Rs.end_] at *
                omega
    · by_cases h40 : t[i]? = some 40
      · have l := (List.getElem?_eq_some_iff.mp h40).1
        have s1 := seg_one h40
        have c1 : ∀ {e : Nat}, i + 1 ≤ e → cb (seg t i e) = 1 + cb (seg t (i + 1) e) := fun {e} h => by rw [seg_app (show i ≤ i + 1 by omega) h, s1, cb_app]; rfl
        obtain ⟨d1, r1, q1, b1⟩ := ih (i + 1) (by omega) (by omega)
        have R1 := rdW_rw q1 (by omega)
        cases r1 with
        | bad j =>
          refine ⟨d1 + 1, .bad j, by simp [rdW, h40, q1], ?_⟩
          have := c1 (e := j) R1.le
          try simp only [Rs.end_] at *
          omega
        | ok f j =>
          have g1 : i + 1 ≤ j := R1.le
          have g2 : j ≤ t.length := R1.len
          have c2 : ∀ {e : Nat}, j ≤ e → cb (seg t i e) = 1 + cb (seg t (i + 1) j) + cb (seg t j e) := fun {e} h => by rw [c1 (by omega), seg_app g1 h, cb_app]; omega
          cases q2 : sg t [32] j with
          | bad k =>
            refine ⟨d1 + 1, .bad k, by simp [rdW, h40, q1, q2], ?_⟩
            have := c2 (sg_bad q2).1
            try simp only [Rs.end_] at *
            omega
          | ok u j2 =>
            have g3 := (sg_ok q2).1
            have g4 := sg_le q2 g2
            simp at g3
            obtain ⟨d2, r2, q3, b2⟩ := ih j2 g4 (by omega)
            have R2 := rdW_rw q3 g4
            have m1 := rdW_mono q1 (Nat.le_max_left d1 d2)
            have m2 := rdW_mono q3 (Nat.le_max_right d1 d2)
            have c3 : ∀ {e : Nat}, r2.end_ ≤ e → 1 + cb (seg t (i + 1) j) + cb (seg t j2 r2.end_) ≤ cb (seg t i e) := fun {e} h => by
              have := R2.le
              rw [c2 (by omega), seg_app (show j ≤ j2 by omega) (show j2 ≤ e by omega), cb_app, seg_app R2.le h, cb_app]; omega
            cases r2 with
            | bad k =>
              refine ⟨max d1 d2 + 1, .bad k, by simp [rdW, h40, m1, q2, m2], ?_⟩
              have c3 := c3 (Nat.le_refl _)
              try simp only [Rs.end_] at *
              omega
            | ok a k =>
              have g6 : k ≤ t.length := R2.len
              cases q4 : sg t [41] k with
              | bad m' =>
                refine ⟨max d1 d2 + 1, .bad m', by simp [rdW, h40, m1, q2, m2, q4], ?_⟩
                have c3 := c3 (e := m') (sg_bad q4).1
                try simp only [Rs.end_] at *
                omega
              | ok u2 m' =>
                refine ⟨max d1 d2 + 1, .ok (.us f a) m', by simp [rdW, h40, m1, q2, m2, q4], ?_⟩
                have g7 := (sg_ok q4).1
                have c3 := c3 (e := m') (by show k ≤ m'; omega)
                try simp only [Rs.end_] at *
                omega
      · cases q1 : rdN t i with
        | bad j => exact ⟨1, .bad j, by simp [rdW, h91, h40, q1], by omega⟩
        | ok x j => exact ⟨1, .ok (.nm x) j, by simp [rdW, h91, h40, q1], by omega⟩
end U
/-! R4: the law's reader of programs. -/
namespace U
section
variable {n : Nat} {t : List Nat}
theorem get_end {α : Type} (h : List α) (x : α) : (h ++ [x])[h.length]? = some x := by simp
theorem drop_cons_get {α : Type} {t : List α} {i : Nat} {c : α} {r : List α} (h : t.drop i = c :: r) : t[i]? = some c := by
  have := congrArg (fun l => l[0]?) h
  simpa using this
theorem l_lname (b : Nat) {d : Option Hand} {sc : List Int} : ∀ (cs r : List Nat) (i : Nat) (h : List Obj), t.drop i = cs ++ r → i ≤ t.length → (∀ c ∈ cs, isSm c = true) → b ≤ i → i + cs.length ≤ b + 8 → (i + cs.length = b + 8 ∨ smH r = false) →
    ∃ h2, ex (CN prog n) w__law_read_name_0 [some (.p (.str t)), some (.p (.int (b : Int))), some (.p (.int (i : Int)))] ⟨h, d, sc⟩ = .next [some (.p (.str t)), some (.p (.int (b : Int))), some (.p (.int ((i + cs.length : Nat) : Int)))] ⟨h2, d, sc⟩
  | [], r, i, h, hd, hi, _, hb, hl, hr => by
    have hc := cut_at t i hi
    simp at hd
    by_cases h8 : i < b + 8
    · refine ⟨h ++ [.list smallV], whl_done rfl ?_⟩
      have hsm := in_sv (t := t) (i := i) (a := h.length) (s := ⟨h ++ [.list smallV], d, sc⟩) (get_end _ _)
      have e : smH (t.drop i) = false := by rw [hd]; rcases hr with hr | hr; simp at hr; omega; exact hr
      rw [e] at hsm
      have h8' : (i : Int) < (b : Int) + 8 := by omega
      simp -dsimp [whlC, w__law_read_name_0, binop, binP, cmQ_lt, h8', slcV, hc, bi_small, new, hsm]
    · refine ⟨h, whl_done rfl ?_⟩
      have h8' : ¬ (i : Int) < (b : Int) + 8 := by omega
      simp -dsimp [whlC, w__law_read_name_0, binop, binP, cmQ_lt, h8']
  | c :: cs, r, i, h, hd, hi, hs, hb, hl, hr => by
    obtain ⟨hd2, hlt⟩ := drop_tail hd
    obtain ⟨h2, ih⟩ := l_lname b (d := d) (sc := sc) cs r (i + 1) (h ++ [.list smallV]) hd2 (by omega) (fun c m => hs c (List.mem_cons_of_mem _ m)) (by omega) (by simp at hl; omega) (by simp at hr; rcases hr with hr | hr; exact .inl (by omega); exact .inr hr)
    refine ⟨h2, Eq.trans ?_ (ih.trans ?_)⟩
    · have hc := cut_at t i hi
      have hsm := in_sv (t := t) (i := i) (a := h.length) (s := ⟨h ++ [.list smallV], d, sc⟩) (get_end _ _)
      have e : smH (t.drop i) = true := by rw [smH_some (drop_cons_get hd)]; exact hs c List.mem_cons_self
      rw [e] at hsm
      have h8' : (i : Int) < (b : Int) + 8 := by simp at hl; omega
      refine whl_next (s1 := ⟨h ++ [.list smallV], d, sc⟩) rfl ?_ ?_
      · simp -dsimp [whlC, w__law_read_name_0, binop, binP, cmQ_lt, h8', slcV, hc, bi_small, new, hsm]
      · simp -dsimp [whlB, w__law_read_name_0, binop, binP]
    · rw [show i + 1 + cs.length = i + (c :: cs).length by simp; omega]
theorem cmQ_gt (a b : Int) (s : S) : cmpV .gt (.p (.int a)) (.p (.int b)) s = some (decide (b < a)) := rfl
theorem s_lname {i : Nat} {s : S} (hn : 2 ≤ n) (hi : i ≤ t.length) : FN prog n F__law_read_name [.p (.str t), .p (.int (i : Int))] s = .ok (.p (rsV (fun x : Nm => .str x.s) (rdN t i))) s := by
  obtain ⟨r, hd, hr⟩ := nmAt_drop t i
  have hle := nmAt_le hi
  obtain ⟨h2, q⟩ := l_lname (n := n - 2) (t := t) i (d := s.d) (sc := s.sc) (nmAt t i) r i [] hd hi (fun c hc => nmAt_sm hc) (Nat.le_refl _) (by have := nmAt_len t i; omega) (by rcases hr with hr | hr; exact .inl (by omega); exact .inr hr)
  refine callQ (h := h2) (sc := s.sc) hn rfl rfl rfl rfl rfl ?_
  simp -dsimp [m__law_read_name, q, cmQ_gt]
  by_cases h0 : nmAt t i = []
  · simp -dsimp [h0, rdN, rsV, negI, binop, binP]
  · have hp := List.length_pos_iff.mpr h0
    have e1 : decide ((i : Int) < (i : Int) + ((nmAt t i).length : Int)) = true := decide_eq_true (by omega)
    have e2 := cut_some t i (i + (nmAt t i).length) (by omega) hle
    rw [hd] at e2
    simp at e2
    have e3 : (0 : Int) < (nmAt t i).length := by omega
    simp -dsimp [h0, rdN, rsV, slcV, e1, e2]
def rdT (t : List Nat) (d i : Nat) : Option (Rs (Nm × Kd)) := match rdN t i with
  | .bad j => some (.bad j)
  | .ok x j => match sg t [58] j with
    | .bad k => some (.bad k)
    | .ok _ j2 => match rdK t d j2 with
      | none => none
      | some (.bad k) => some (.bad k)
      | some (.ok k1 k) => match sg t [93, 32] k with
        | .bad m => some (.bad m)
        | .ok _ m => some (.ok (x, k1) m)
def tkV (q : Nm × Kd) : PV := .tup [.str q.1.s, q.2.v]
theorem cmQ_isS (l : List Nat) (s : S) : cmpV .is_ (.p (.str l)) (.p .non) s = some false := rfl
theorem cmQ_isT (l : List PV) (s : S) : cmpV .is_ (.p (.tup l)) (.p .non) s = some false := rfl
theorem s_take {d i : Nat} {r : Rs (Nm × Kd)} {s : S} (h : rdT t d i = some r) (hi : i ≤ t.length) (hn : d + 6 ≤ n) : FN prog n F__law_read_take [.p (.str t), .p (.int (i : Int))] s = .ok (.p (rsV tkV r)) s := by
  have f1 := fun s => s_lname (n := n - 2 + 1) (t := t) (i := i) (s := s) (by omega) hi
  unfold rdT at h
  cases q1 : rdN t i with
  | bad j =>
    rw [q1] at h; cases h
    simp only [q1] at f1
    refine callQ (h := []) (sc := s.sc) (by omega) rfl rfl rfl rfl rfl ?_
    simp -dsimp [m__law_read_take, f1, rsV, cmQ_is]
  | ok x j =>
    rw [q1] at h
    simp only [q1] at f1
    obtain ⟨x1, x2, x3, x4⟩ := rdN_ok q1
    have g1 : j ≤ t.length := by rw [x2, x1]; exact nmAt_le hi
    have f2 := fun s => s_signs (n := n - 2 + 1) (t := t) (cs := [58]) (i := j) (s := s) (by omega) g1
    simp only at h
    cases q2 : sg t [58] j with
    | bad k =>
      rw [q2] at h; cases h
      simp only [q2, sgV] at f2
      refine callQ (h := []) (sc := s.sc) (by omega) rfl rfl rfl rfl rfl ?_
      simp -dsimp [m__law_read_take, f1, f2, rsV, cmQ_isS, cmQ_lt, negL]
    | ok u j2 =>
      rw [q2] at h
      simp only [q2, sgV] at f2
      simp only at h
      have g2 := sg_le q2 g1
      cases q3 : rdK t d j2 with
      | none => simp [q3] at h
      | some r2 =>
        rw [q3] at h
        have f3 := fun s => s_rkind d q3 g2 (n := n - 2 + 1) (s := s) (by omega)
        cases r2 with
        | bad k =>
          cases h
          refine callQ (h := []) (sc := s.sc) (by omega) rfl rfl rfl rfl rfl ?_
          simp -dsimp [m__law_read_take, f1, f2, f3, rsV, cmQ_isS, cmQ_lt, posL, cmQ_is]
        | ok k1 k =>
          have g5 : k ≤ t.length := (rdK_rd q3 g2).len
          have f4 := fun s => s_signs (n := n - 2 + 1) (t := t) (cs := [93, 32]) (i := k) (s := s) (by omega) g5
          simp only at h
          cases q4 : sg t [93, 32] k with
          | bad m =>
            rw [q4] at h; cases h
            simp only [q4, sgV] at f4
            refine callQ (h := []) (sc := s.sc) (by omega) rfl rfl rfl rfl rfl ?_
            simp -dsimp [m__law_read_take, f1, f2, f3, f4, rsV, cmQ_isS, cmQ_lt, posL, negL, cmQ_isK]
          | ok u2 m =>
            rw [q4] at h; cases h
            simp only [q4, sgV] at f4
            refine callQ (h := []) (sc := s.sc) (by omega) rfl rfl rfl rfl rfl ?_
            simp -dsimp [m__law_read_take, f1, f2, f3, f4, rsV, cmQ_isS, cmQ_lt, posL, negL, cmQ_isK, tkV]
theorem ws_pt : ∀ p : Pg, p.ws.length ≤ p.pt.length
  | .nm x => by have := x.h1; simp -dsimp [Pg.ws, Pg.pt]; omega
  | .tk x k b => by have := ws_pt b; simp -dsimp [Pg.ws, Pg.pt]; omega
  | .us f a => by have := ws_pt f; have := ws_pt a; simp -dsimp [Pg.ws, Pg.pt]; omega
theorem ws_seg {p : Pg} {i j : Nat} (h : seg t i j = p.pt) : p.ws.length ≤ t.length := by
  have h1 := ws_pt p
  have h2 := congrArg List.length h
  unfold seg at h2
  simp at h2
  omega
theorem s_words (ht : t.length ≤ 1000000) : ∀ (d : Nat) {i : Nat} {r : Rs Pg}, rdW t d i = some r → i ≤ t.length → ∀ {n : Nat} {s : S}, d + 8 ≤ n → FN prog n F__law_read_words [.p (.str t), .p (.int (i : Int))] s = .ok (.p (rsV Pg.v r)) s
  | 0, _, _, h, _, _, _, _ => by simp [rdW] at h
  | d + 1, i, r, h, hi, n, s, hn => by
    have hc := cut_at t i hi
    have hq4 := signAt_eq t i 40
    have hq9 := signAt_eq t i 91
    have hi1 : ((i + 1 : Nat) : Int) = (i : Int) + 1 := by omega
    unfold rdW at h
    split at h
    · rename_i h91
      have l := (List.getElem?_eq_some_iff.mp h91).1
      rw [decide_eq_true h91] at hq9
      have take : ∀ {r1 : Rs (Nm × Kd)}, rdT t d (i + 1) = some r1 → ∀ s, FN prog (n - 2 + 1) F__law_read_take [.p (.str t), .p (.int ((i : Int) + 1))] s = .ok (.p (rsV tkV r1)) s := fun {r1} hr s => by
        rw [← hi1]; exact s_take hr (by omega) (by omega)
      have done : ∀ {j : Nat}, rdT t d (i + 1) = some (.bad j) → FN prog n F__law_read_words [.p (.str t), .p (.int (i : Int))] s = .ok (.p (rsV Pg.v (.bad j))) s := fun {j} hr => by
        have f1 := take hr
        refine callQ (h := []) (sc := s.sc) (by omega) rfl rfl rfl rfl rfl ?_
        simp -dsimp [m__law_read_words, binop, binP, slcV, hc, cmQ_eq, hq9, f1, rsV, cmQ_is]
      cases q1 : rdN t (i + 1) with
      | bad j => rw [q1] at h; cases h; exact done (by simp [rdT, q1])
      | ok x j =>
        rw [q1] at h
        obtain ⟨x1, x2, x3, x4⟩ := rdN_ok q1
        have g1 : j ≤ t.length := by rw [x2, x1]; exact nmAt_le (by omega)
        simp only at h
        cases q2 : sg t [58] j with
        | bad k => rw [q2] at h; cases h; exact done (by simp [rdT, q1, q2])
        | ok u j2 =>
          rw [q2] at h
          simp only at h
          have g2 := sg_le q2 g1
          cases q3 : rdK t d j2 with
          | none => simp [q3] at h
          | some r2 =>
            rw [q3] at h
            cases r2 with
            | bad k => cases h; exact done (by simp [rdT, q1, q2, q3])
            | ok k1 k =>
              have g5 : k ≤ t.length := (rdK_rd q3 g2).len
              simp only at h
              cases q4 : sg t [93, 32] k with
              | bad m => rw [q4] at h; cases h; exact done (by simp [rdT, q1, q2, q3, q4])
              | ok u2 m =>
                rw [q4] at h
                simp only at h
                have f1 := take (r1 := .ok (x, k1) m) (by simp [rdT, q1, q2, q3, q4])
                have g6 := sg_le q4 g5
                cases q5 : rdW t d m with
                | none => simp [q5] at h
                | some r3 =>
                  rw [q5] at h
                  have f2 := fun s => s_words ht d q5 g6 (n := n - 2 + 1) (s := s) (by omega)
                  cases r3 with
                  | bad q =>
                    cases h
                    refine callQ (h := []) (sc := s.sc) (by omega) rfl rfl rfl rfl rfl ?_
                    simp -dsimp [m__law_read_words, binop, binP, slcV, hc, cmQ_eq, hq9, f1, f2, rsV, tkV, cmQ_is, cmQ_isT]
                  | ok b q =>
                    cases h
                    have hb := bnd (m := b.ws.length) (by have := ws_seg ((rdW_rw q5 g6).ok _ _ rfl).2; omega)
                    have b1 : 1 + b.ws.length ≤ 16777216 := by omega
                    refine callQ (h := []) (sc := s.sc) (by omega) rfl rfl rfl rfl rfl ?_
                    simp -dsimp [m__law_read_words, binop, binP, slcV, hc, cmQ_eq, hq9, f1, f2, rsV, tkV, cmQ_isT, Pg.v, Pg.ws, hb, b1, Wrd.v]
    · rename_i h91
      rw [decide_eq_false h91] at hq9
      split at h
      · rename_i h40
        have l := (List.getElem?_eq_some_iff.mp h40).1
        rw [decide_eq_true h40] at hq4
        cases q1 : rdW t d (i + 1) with
        | none => simp [q1] at h
        | some r1 =>
          rw [q1] at h
          have f1 := fun s => s_words ht d q1 (by omega) (n := n - 2 + 1) (s := s) (by omega)
          simp only [hi1] at f1
          cases r1 with
          | bad j =>
            cases h
            refine callQ (h := []) (sc := s.sc) (by omega) rfl rfl rfl rfl rfl ?_
            simp -dsimp [m__law_read_words, binop, binP, slcV, hc, cmQ_eq, cmQ_ne, hq9, hq4, f1, rsV, cmQ_is]
          | ok f j =>
            have g2 : j ≤ t.length := (rdW_rw q1 (by omega)).len
            have f2 := fun s => s_signs (n := n - 2 + 1) (t := t) (cs := [32]) (i := j) (s := s) (by omega) g2
            simp only at h
            cases q2 : sg t [32] j with
            | bad k =>
              rw [q2] at h; cases h
              simp only [q2, sgV] at f2
              refine callQ (h := []) (sc := s.sc) (by omega) rfl rfl rfl rfl rfl ?_
              simp -dsimp [m__law_read_words, binop, binP, slcV, hc, cmQ_eq, cmQ_ne, hq9, hq4, f1, f2, rsV, Pg.v, cmQ_isT, cmQ_lt, negL]
            | ok u j2 =>
              rw [q2] at h
              simp only [q2, sgV] at f2
              simp only at h
              have g4 := sg_le q2 g2
              cases q3 : rdW t d j2 with
              | none => simp [q3] at h
              | some r2 =>
                rw [q3] at h
                have f3 := fun s => s_words ht d q3 g4 (n := n - 2 + 1) (s := s) (by omega)
                cases r2 with
                | bad k =>
                  cases h
                  refine callQ (h := []) (sc := s.sc) (by omega) rfl rfl rfl rfl rfl ?_
                  simp -dsimp [m__law_read_words, binop, binP, slcV, hc, cmQ_eq, cmQ_ne, hq9, hq4, f1, f2, f3, rsV, Pg.v, cmQ_isT, cmQ_is, cmQ_lt, posL]
                | ok a k =>
                  have g6 : k ≤ t.length := (rdW_rw q3 g4).len
                  have f4 := fun s => s_signs (n := n - 2 + 1) (t := t) (cs := [41]) (i := k) (s := s) (by omega) g6
                  simp only at h
                  cases q4 : sg t [41] k with
                  | bad m =>
                    rw [q4] at h; cases h
                    simp only [q4, sgV] at f4
                    refine callQ (h := []) (sc := s.sc) (by omega) rfl rfl rfl rfl rfl ?_
                    simp -dsimp [m__law_read_words, binop, binP, slcV, hc, cmQ_eq, cmQ_ne, hq9, hq4, f1, f2, f3, f4, rsV, Pg.v, cmQ_isT, cmQ_is, cmQ_lt, posL, negL]
                  | ok u2 m =>
                    rw [q4] at h; cases h
                    simp only [q4, sgV] at f4
                    have l1 := ws_seg ((rdW_rw q1 (by omega)).ok _ _ rfl).2
                    have l2 := ws_seg ((rdW_rw q3 g4).ok _ _ rfl).2
                    have b1 : f.ws.length + 1 ≤ 16777216 := by omega
                    have b2 : f.ws.length + 1 + a.ws.length ≤ 16777216 := by omega
                    have b3 : 1 + f.ws.length ≤ 16777216 := by omega
                    refine callQ (h := []) (sc := s.sc) (by omega) rfl rfl rfl rfl rfl ?_
                    simp -dsimp [m__law_read_words, binop, binP, slcV, hc, cmQ_eq, cmQ_ne, hq9, hq4, f1, f2, f3, f4, rsV, Pg.v, cmQ_isT, cmQ_is, cmQ_lt, posL, negL, b1, b2, b3, Pg.ws, Wrd.v]
      · rename_i h40
        rw [decide_eq_false h40] at hq4
        have f1 := fun s => s_lname (n := n - 2 + 1) (t := t) (i := i) (s := s) (by omega) hi
        cases q1 : rdN t i with
        | bad j =>
          rw [q1] at h; cases h
          simp only [q1] at f1
          refine callQ (h := []) (sc := s.sc) (by omega) rfl rfl rfl rfl rfl ?_
          simp -dsimp [m__law_read_words, binop, binP, slcV, hc, cmQ_eq, cmQ_ne, hq9, hq4, f1, rsV, cmQ_is]
        | ok x j =>
          rw [q1] at h; cases h
          simp only [q1] at f1
          refine callQ (h := []) (sc := s.sc) (by omega) rfl rfl rfl rfl rfl ?_
          simp -dsimp [m__law_read_words, binop, binP, slcV, hc, cmQ_eq, cmQ_ne, hq9, hq4, f1, rsV, cmQ_isS, Pg.v, Pg.ws, Wrd.v]
end
end U
/-! R5: the package's reader on any text: signs, names, letters. -/
namespace U
def badE (j : Nat) : Exc := ⟨1, [(2, .int (j : Int))]⟩
@[simp] theorem fin_exc (e : Exc) (s : S) : fin (.exc e s) = .exc e s := rfl
@[simp] theorem seq_exc (e : Exc) (s : S) (f : Env → S → X) [Frz f] : (X.exc e s).seq f = .exc e s := rfl
def asP (v : Val) (f : PV → X) [Frz f] : X := match v with
  | .p u => f u
  | _ => .bot
@[simp] theorem asP_p (u : PV) (f : PV → X) [Frz f] : asP (.p u) f = f u := rfl
@[simp] theorem x_raiseF (C : Calls) (env : Env) (s : S) (c f : Nat) (e : Ex) : ex C (.raiseF c f e) env s = (ev C e env s).th fun v s => asP v fun u => .exc ⟨c, [(f, u)]⟩ s := by
  simp only [ex, R.th]; rfl
theorem callX1 {P : Prog} {n f : Nat} {F : Fn} {as : List Val} {s : S} {a : Nat} {o : Obj} {e : Exc} {o' : Obj} {h : List Obj} {d : Option Hand} {sc : List Int} (hn : 2 ≤ n) (ho : s.h[a]? = some o) (hf : P.fns[f]? = some F) (hraw : F.raw = false) (hr : refs as = [a]) (ha : as.all flatA = true) (hl : as.length = F.ps) (hp : o.pure = true) (hp' : o'.pure = true)
    (hb : fin (exs (CN P (n - 2)) F.body ((renum 0 as).map some ++ List.replicate (F.ns - F.ps) none) ⟨[o], s.d, s.sc⟩) = .exc e ⟨o' :: h, d, sc⟩) : FN P n f as s = .exc e ⟨s.h.set a o', d, s.sc⟩ := by
  obtain ⟨m, rfl⟩ : ∃ m, n = m + 2 := ⟨n - 2, by omega⟩
  simp only [Nat.add_sub_cancel] at hb
  have hl' : (renum 0 as).length = F.ps := (renum_len 0 as).trans hl
  have hB : footB as s = true := by
    unfold footB
    rw [hr]
    simp [gather, ho, ha, hp]
  unfold FN fnOf
  rw [hf]
  simp only [hraw, hB, Bool.not_true, Bool.and_false, Bool.or_self, Bool.false_eq_true, if_false]
  unfold foot
  simp only [hr, gather, ho, Option.bind_some, Option.map_some, nodup, ha, List.contains_nil, Bool.not_false, List.all_cons, hp, List.all_nil, Bool.and_self, if_true, runG_eq, body_eq hf hl', hb, List.length_cons, List.length_nil]
  simp [hp', scatter]
theorem callX0 {P : Prog} {n f : Nat} {F : Fn} {as : List Val} {s : S} {e : Exc} {h : List Obj} {sc : List Int} (hn : 2 ≤ n) (hf : P.fns[f]? = some F) (hraw : F.raw = false) (hr : refs as = []) (ha : as.all flatA = true) (hl : as.length = F.ps)
    (hb : fin (exs (CN P (n - 2)) F.body (as.map some ++ List.replicate (F.ns - F.ps) none) ⟨[], s.d, s.sc⟩) = .exc e ⟨h, s.d, sc⟩) : FN P n f as s = .exc e s := by
  obtain ⟨m, rfl⟩ : ∃ m, n = m + 2 := ⟨n - 2, by omega⟩
  simp only [Nat.add_sub_cancel] at hb
  have hB : footB as s = true := by
    unfold footB
    rw [hr]
    simp [gather, ha]
  unfold FN fnOf
  rw [hf]
  simp only [hraw, hB, Bool.not_true, Bool.and_false, Bool.or_self, Bool.false_eq_true, if_false]
  unfold foot
  simp only [hr, gather, nodup, ha, List.all_nil, Bool.and_self, if_true, renum_nil 0 hr, runG_eq, body_eq hf hl, hb, List.length_nil]
  simp [scatter]
theorem loop_exc {c : Env → S → R Bool} {b : Env → S → X} {env : Env} {s s1 s2 : S} {e : Exc} (h : c env s = .ok true s1) (h' : b env s1 = .exc e s2) : loop c b env s = .exc e s2 := by
  rw [loop_unfold, h]; dsimp only; rw [h']
theorem whl_exc {P : Prog} {n : Nat} {W : St} {env : Env} {s s1 s2 : S} {e : Exc} (hw : W = .whl (whlC W) (whlB W)) (h : evT (CN P n) (whlC W) env s = .ok true s1) (h2 : exs (CN P n) (whlB W) env s1 = .exc e s2) : ex (CN P n) W env s = .exc e s2 := by
  rw [hw, x_whl]; exact loop_exc h h2
theorem for_exc {C : Calls} {g : List (Nat × List Val)} {t : Tg} {b : Bk} {v : Val} {e : Exc} {xs : List Val} {env e1 : Env} {s s2 : S} (h : still s g = true) (h1 : t.bind v env = some e1) (h2 : exs C b e1 s = .exc e s2) : forS C g t b (v :: xs) env s = .exc e s2 := by
  unfold forS
  rw [forL, if_pos h, h1]
  dsimp only
  rw [h2]
section
variable {n : Nat} {t : List Nat}
theorem l_needX (hn : 2 ≤ n) {v : Option Val} {d : Option Hand} {sc : List Int} : ∀ (cs : List Nat) (i j : Nat) (x0 : Option Val), sg t cs i = .bad j → i ≤ t.length →
    forS (CN prog n) [] (forT w_Reader_need_0) (forB w_Reader_need_0) (cs.map fun c => .p (.str [c])) [some (.r 0), v, x0] ⟨[rdo t i], d, sc⟩ = .exc (badE j) ⟨[rdo t j], d, sc⟩
  | [], i, j, x0, h, hi => by simp [sg] at h
  | c :: cs, i, j, x0, h, hi => by
    have h1 := fun d sc => s_sign (n := n + 1) (s := ⟨[rdo t i], d, sc⟩) (a := 0) (t := t) (i := i) (by omega) rfl hi
    have hq := signAt_eq t i c
    simp only [← show signAt t i = (t.drop i).take 1 from rfl] at h1
    simp only [sg] at h
    by_cases e : t[i]? = some c
    · rw [if_pos e] at h
      have l := (List.getElem?_eq_some_iff.mp e).1
      have ih := l_needX hn (v := v) (d := d) (sc := sc) cs (i + 1) j (some (.p (.str [c]))) h (by omega)
      rw [e] at hq
      simp at hq
      simp only [rdo] at h1
      refine (for_cons rfl rfl ?_).trans ih
      simp -dsimp [forB, w_Reader_need_0, isOf, rdo, h1, cmQ_ne, hq, fldV, fget, augop, binP, clsOf, fsetV, fput, setO]
    · rw [if_neg e] at h
      cases h
      rw [decide_eq_false e] at hq
      simp only [rdo] at h1
      refine for_exc rfl rfl ?_
      simp -dsimp [forB, w_Reader_need_0, isOf, rdo, h1, cmQ_ne, hq, fldV, fget, badE]
theorem s_needX {s : S} {a i j : Nat} {cs : List Nat} (hn : 4 ≤ n) (ho : s.h[a]? = some (rdo t i)) (hi : i ≤ t.length) (h : sg t cs i = .bad j) : FN prog n F_Reader_need [.r a, .p (.str cs)] s = .exc (badE j) ⟨s.h.set a (rdo t j), s.d, s.sc⟩ := by
  have h := l_needX (n := n - 2) (by omega) (v := some (.p (.str cs))) (d := s.d) (sc := s.sc) cs i j none h hi
  refine callX1 (o := rdo t i) (o' := rdo t j) (h := []) (sc := s.sc) (by omega) ho rfl rfl rfl rfl rfl rfl rfl ?_
  have h := for_start (s := ⟨[rdo t i], s.d, s.sc⟩) (env := [some (.r 0), some (.p (.str cs)), none]) rfl (by simp -dsimp [forI, w_Reader_need_0, itemsOf, guardOf]) h
  simp -dsimp [m_Reader_need, refs, renum, h]
theorem s_needK {s : S} {a i j : Nat} {cs : List Nat} {u : Unit} (hn : 4 ≤ n) (ho : s.h[a]? = some (rdo t i)) (hi : i ≤ t.length) (h : sg t cs i = .ok u j) : FN prog n F_Reader_need [.r a, .p (.str cs)] s = .ok (.p .non) ⟨s.h.set a (rdo t j), s.d, s.sc⟩ := by
  obtain ⟨h1, h2⟩ := sg_ok h
  rw [h1]
  rw [h1] at h2
  exact s_need hn ho hi h2
theorem s_nameX {s : S} {a i j : Nat} (hn : 5 ≤ n) (ho : s.h[a]? = some (rdo t i)) (hi : i ≤ t.length) (h : rdN t i = .bad j) : FN prog n F_Reader_name [.r a] s = .exc (badE j) ⟨s.h.set a (rdo t j), s.d, s.sc⟩ := by
  obtain ⟨rfl, h0⟩ := rdN_bad h
  obtain ⟨r, hd, hr⟩ := nmAt_drop t j
  rw [h0] at hd hr
  have h := l_name (n := n - 2) (by omega) (d := s.d) (sc := s.sc) (t := t) (b := j) [] r j hd hi (by simp) (Nat.le_refl _) (by simp) (by simpa using hr)
  refine callX1 (o := rdo t j) (o' := rdo t j) (h := []) (sc := s.sc) (by omega) ho rfl rfl rfl rfl rfl rfl rfl ?_
  simp only [rdo] at h
  simp at h
  simp -dsimp [m_Reader_name, refs, renum, rdo, h, fldV, fget, cmpV, cmpP, PV.dep, PV.eq, badE]
theorem s_nameK {s : S} {a i j : Nat} {x : Nm} (hn : 5 ≤ n) (ho : s.h[a]? = some (rdo t i)) (hi : i ≤ t.length) (h : rdN t i = .ok x j) : FN prog n F_Reader_name [.r a] s = .ok (.p (.str x.s)) ⟨s.h.set a (rdo t j), s.d, s.sc⟩ := by
  obtain ⟨h1, h2, _⟩ := rdN_ok h
  obtain ⟨r, hd, hr⟩ := nmAt_drop t i
  rw [← h1] at hd hr
  rw [h2]
  exact s_name hn ho hi hd x.hs x.h1 x.h8 hr
theorem s_letterX {s : S} {a i : Nat} (hn : 4 ≤ n) (ho : s.h[a]? = some (rdo t i)) (hi : i ≤ t.length) (h : smH (t.drop i) = false) : FN prog n F_Reader_letter [.r a] s = .exc (badE i) ⟨s.h.set a (rdo t i), s.d, s.sc⟩ := by
  refine callX1 (o := rdo t i) (o' := rdo t i) (h := []) (sc := s.sc) (by omega) ho rfl rfl rfl rfl rfl rfl rfl ?_
  have h1 := fun d sc => s_is_small (n := n - 2 + 1) (s := ⟨[rdo t i], d, sc⟩) (a := 0) (t := t) (i := i) (by omega) rfl hi
  rw [h] at h1
  simp only [rdo] at h1
  simp -dsimp [m_Reader_letter, refs, renum, isOf, rdo, h1, truth, PV.truth, fldV, fget, badE]
theorem s_finishX {s : S} {a i : Nat} (hn : 4 ≤ n) (ho : s.h[a]? = some (rdo t i)) (hi : i < t.length) : FN prog n F_Reader_finish [.r a] s = .exc (badE i) ⟨s.h.set a (rdo t i), s.d, s.sc⟩ := by
  refine callX1 (o := rdo t i) (o' := rdo t i) (h := []) (sc := s.sc) (by omega) ho rfl rfl rfl rfl rfl rfl rfl ?_
  have h1 := fun d sc => s_sign (n := n - 2 + 1) (s := ⟨[rdo t i], d, sc⟩) (a := 0) (t := t) (i := i) (by omega) rfl (by omega)
  rw [List.drop_eq_getElem_cons hi, List.take_succ_cons, List.take_zero] at h1
  simp only [rdo] at h1
  simp -dsimp [m_Reader_finish, refs, renum, isOf, rdo, h1, cmpV, cmpP, PV.dep, PV.eq, fldV, fget, badE]
end
end U
/-! R6: kinds the package does not read to the end. -/
namespace U
/-- a walk's bad end -/
def EndX (x : X) (t : List Nat) (j : Nat) (d : Option Hand) (sc : List Int) : Prop := ∃ h2, x = .exc (badE j) ⟨h2, d, sc⟩ ∧ h2[0]? = some (rdo t j)
theorem sg_one {t : List Nat} {c i : Nat} (h : t[i]? ≠ some c) : sg t [c] i = .bad i := by simp [sg, h]
theorem sg_hd {t : List Nat} {c i : Nat} {cs : List Nat} (h : t[i]? ≠ some c) : sg t (c :: cs) i = .bad i := by simp [sg, h]
theorem take1_eq (t : List Nat) (i c : Nat) : ((t.drop i).take 1 == [c]) = decide (t[i]? = some c) := signAt_eq t i c
section
variable {n : Nat} {d : Option Hand} {sc : List Int} {t : List Nat}
theorem set0 {h : List Obj} {i j : Nat} (z : h[0]? = some (rdo t i)) : (h.set 0 (rdo t j))[0]? = some (rdo t j) := by
  rw [get_set, if_pos ⟨rfl, lt_of_get z⟩]
theorem kin_nl (hn : 4 ≤ n) {i : Nat} {h : List Obj} {Rs : List (Nat × List Kd)} {a : Nat} {r : List Kd} (k : KSt t i h (Rs ++ [(a, r)])) (hi : i ≤ t.length) (h40 : t[i]? ≠ some 40) (hs : smH (t.drop i) = false) (x : Option Val) :
    EndX (ex (CN prog n) w_kind_in_1 [some (.r 0), some (.r 2), x] ⟨h, d, sc⟩) t i d sc := by
  have h1 := s_sign (n := n + 1) (s := ⟨h, d, sc⟩) (a := 0) (t := t) (i := i) (by omega) k.rd hi
  have hq := take1_eq t i 40
  rw [decide_eq_false h40] at hq
  have h3 := s_letterX (n := n + 1) (s := ⟨h, d, sc⟩) (a := 0) (t := t) (i := i) (by omega) k.rd hi hs
  have h0 := k.rd
  have l0 := k.ls
  obtain ⟨a0, _, _⟩ := k.at_ (a, r) (by simp)
  have hL := atI_last (rws Rs) (.r a)
  simp only [List.map_append, List.map_cons, List.map_nil] at l0
  simp only [rws] at hL
  have z := set0 (j := i) k.rd
  obtain ⟨g, eg⟩ : ∃ g, g = h.set 0 (rdo t i) := ⟨_, rfl⟩
  rw [← eg] at h3 z
  simp only [rdo] at h0
  have hin : ex (CN prog n) w_kind_in_0 [some (.r 0), some (.r 2), x] ⟨h, d, sc⟩ = .next [some (.r 0), some (.r 2), x] ⟨h, d, sc⟩ := by
    refine whl_done rfl ?_
    simp -dsimp [whlC, w_kind_in_0, isOf, h0, h1, cmQ_eq, hq]
  refine ⟨g, whl_exc rfl (kin_more hn k x) ?_, z⟩
  simp -dsimp [whlB, w_kind_in_1, hin, idxV, l0, hL, a0, bmTag, isOf, h0, h3]
theorem kin_onX (hn : 4 ≤ n) {i j : Nat} {h : List Obj} {Rs : List (Nat × List Kd)} {a : Nat} {r : List Kd} {m : Fin 26} {rest : List Nat} (k : KSt t i h (Rs ++ [(a, r)])) (e : t.drop i = (97 + m.val) :: rest) (hl : r.length ≤ 1000000) (x : Option Val) (hb : sg t arr (i + 1) = .bad j) (hc : t[i + 1]? = some 32 ∨ (r = [] ∧ Rs ≠ [])) :
    EndX (ex (CN prog n) w_kind_in_1 [some (.r 0), some (.r 2), x] ⟨h, d, sc⟩) t j d sc := by
  have hi : i + 1 ≤ t.length := by have := (drop_tail e).2; omega
  obtain ⟨h2, q, k2⟩ := kin_letter (n := n) (d := d) (sc := sc) hn k e hl x (match whlB w_kind_in_1 with
    | .cons _ (.cons _ b) => b
    | _ => .nil)
  have s2 := s_sign (n := n + 1) (s := ⟨h2, d, sc⟩) (a := 0) (t := t) (i := i + 1) (by omega) k2.rd hi
  have n2 := s_needX (n := n + 1) (s := ⟨h2, d, sc⟩) (a := 0) (t := t) (i := i + 1) (cs := arr) (by omega) k2.rd hi hb
  have hq := take1_eq t (i + 1) 32
  have z := set0 (j := j) k2.rd
  obtain ⟨g, eg⟩ : ∃ g, g = h2.set 0 (rdo t j) := ⟨_, rfl⟩
  rw [← eg] at n2 z
  have r2 := k2.rd
  have l2 := k2.ls
  obtain ⟨a2, _, _⟩ := k2.at_ (a, r ++ [.c m]) (by simp)
  simp only [rdo] at r2
  simp only [arr] at n2
  refine ⟨g, whl_exc rfl (kin_more hn k x) (Eq.trans q ?_), z⟩
  have hL2 := atI_last (rws Rs) (.r a)
  simp only [rws, List.map_append, List.map_cons, List.map_nil] at l2 hL2
  by_cases e32 : t[i + 1]? = some 32
  · rw [decide_eq_true e32] at hq
    simp -dsimp [whlB, w_kind_in_1, isOf, r2, s2, n2, cmQ_ne, hq]
  · rw [decide_eq_false e32] at hq
    obtain ⟨rfl, hR⟩ := hc.resolve_left e32
    have hp : 0 < Rs.length := List.length_pos_iff.mpr hR
    have c1 : (1 : Int) < (Rs.length : Int) + 1 := by omega
    have c3 : ((Rs.length : Int) == 0) = false := by rw [beq_eq_false_iff_ne]; omega
    have c4 : ((Rs.length : Int) + 1 == 1) = false := by rw [beq_eq_false_iff_ne]; omega
    have c5 : Rs ≠ [] := hR
    have c2 : (kvs [Kd.c m]).length = 1 := by simp -dsimp [kvs]
    simp -dsimp [whlB, w_kind_in_1, isOf, r2, s2, n2, cmQ_ne, hq, l2, biV, lenV, cmQ_gt, idxV, hL2, a2, c1, c2, c3, c4, c5, cmpV, cmpP, PV.dep, PV.eq]
theorem kin_popX (hn : 4 ≤ n) {i : Nat} {h : List Obj} {Rs : List (Nat × List Kd)} {a : Nat} {r : List Kd} {m : Fin 26} {rest : List Nat} (k : KSt t i h (Rs ++ [(a, r)])) (hR : Rs ≠ []) (e : t.drop i = (97 + m.val) :: rest) (h0 : r ≠ []) (hl : r.length ≤ 1000000) (h32 : t[i + 1]? ≠ some 32) (h41 : t[i + 1]? ≠ some 41) (x : Option Val) :
    EndX (ex (CN prog n) w_kind_in_1 [some (.r 0), some (.r 2), x] ⟨h, d, sc⟩) t (i + 1) d sc := by
  have hi : i + 1 ≤ t.length := by have := (drop_tail e).2; omega
  obtain ⟨h2, q, k2⟩ := kin_letter (n := n) (d := d) (sc := sc) hn k e hl x (match whlB w_kind_in_1 with
    | .cons _ (.cons _ b) => b
    | _ => .nil)
  have s2 := s_sign (n := n + 1) (s := ⟨h2, d, sc⟩) (a := 0) (t := t) (i := i + 1) (by omega) k2.rd hi
  have n2 := s_needX (n := n + 1) (s := ⟨h2, d, sc⟩) (a := 0) (t := t) (i := i + 1) (cs := [41]) (by omega) k2.rd hi (sg_one h41)
  have hq := take1_eq t (i + 1) 32
  rw [decide_eq_false h32] at hq
  have z := set0 (j := i + 1) k2.rd
  obtain ⟨g, eg⟩ : ∃ g, g = h2.set 0 (rdo t (i + 1)) := ⟨_, rfl⟩
  rw [← eg] at n2 z
  have r2 := k2.rd
  have l2 := k2.ls
  obtain ⟨a2, _, _⟩ := k2.at_ (a, r ++ [.c m]) (by simp)
  simp only [rdo] at r2
  refine ⟨g, whl_exc rfl (kin_more hn k x) (Eq.trans q ?_), z⟩
  have hL2 := atI_last (rws Rs) (.r a)
  simp only [rws, List.map_append, List.map_cons, List.map_nil] at l2 hL2
  have hp : 0 < Rs.length := List.length_pos_iff.mpr hR
  have hpos : 0 < r.length := List.length_pos_iff.mpr h0
  have c1 : (1 : Int) < (Rs.length : Int) + 1 := by omega
  have c2 : (1 : Int) < (r.length : Int) + 1 := by omega
  have hlen : (kvs (r ++ [.c m])).length = r.length + 1 := by simp -dsimp [kvs]
  simp -dsimp [whlB, w_kind_in_1, isOf, r2, s2, n2, cmQ_ne, hq, l2, biV, lenV, cmQ_gt, idxV, hL2, a2, c1, c2, hp, hpos, hlen]
theorem kin_popY (hn : 4 ≤ n) {i j : Nat} {h : List Obj} {Rs : List (Nat × List Kd)} {a a' : Nat} {r r' : List Kd} {m : Fin 26} {rest : List Nat} (k : KSt t i h (Rs ++ [(a', r')] ++ [(a, r)])) (e : t.drop i = (97 + m.val) :: 41 :: rest) (hb : sg t arr (i + 1 + 1) = .bad j) (h0 : r ≠ []) (hl : r.length ≤ 1000000) (hl' : r'.length ≤ 1000000) (x : Option Val) :
    EndX (ex (CN prog n) w_kind_in_1 [some (.r 0), some (.r 2), x] ⟨h, d, sc⟩) t j d sc := by
  have e1 := (drop_tail e).1
  have hi : i + 1 ≤ t.length := by have := (drop_tail e).2; omega
  have hi2 : i + 1 + 1 ≤ t.length := by have := (drop_tail e1).2; omega
  obtain ⟨h2, q, k2⟩ := kin_letter (n := n) (d := d) (sc := sc) hn k e hl x (match whlB w_kind_in_1 with
    | .cons _ (.cons _ b) => b
    | _ => .nil)
  have s2 := s_sign (n := n + 1) (s := ⟨h2, d, sc⟩) (a := 0) (t := t) (i := i + 1) (by omega) k2.rd hi
  have n2 := s_need (n := n + 1) (s := ⟨h2, d, sc⟩) (a := 0) (t := t) (i := i + 1) (cs := [41]) (r := rest) (by omega) k2.rd hi e1
  obtain ⟨a2, _, _⟩ := k2.at_ (a, r ++ [.c m]) (by simp)
  have r2 := k2.rd
  have l2 := k2.ls
  have k3 := k2.move (j := i + 1 + 1)
  obtain ⟨a3, _, ne3⟩ := k3.at_ (a, r ++ [.c m]) (by simp)
  have l3 := k3.ls
  have k4 := k3.drop
  obtain ⟨h3, eh3⟩ : ∃ g, g = h2.set 0 (rdo t (i + 1 + 1)) := ⟨_, rfl⟩
  simp only [List.length_cons, List.length_nil, ← eh3] at n2 k3 a3 l3 k4
  have a4 : (h3.set 2 (Obj.list (rws (Rs ++ [(a', r')]))))[a]? = some (.list (kvs (r ++ [.c m]))) := by rw [get_set, if_neg (by omega)]; exact a3
  have l4 := k4.ls
  obtain ⟨a4', _, _⟩ := k4.at_ (a', r') (by simp)
  have k5 := k4.add (joinK r (.c m))
  obtain ⟨h4, eh4⟩ : ∃ g, g = h3.set 2 (Obj.list (rws (Rs ++ [(a', r')]))) := ⟨_, rfl⟩
  simp only [← eh4] at a4 l4 k4 a4' k5
  have j4 := s_joined (n := n + 1) (s := ⟨h4, d, sc⟩) (a := a) (ls := r) (k := .c m) (by omega) a4
  obtain ⟨h5, eh5⟩ : ∃ g, g = h4.set a' (Obj.list (kvs (r' ++ [joinK r (.c m)]))) := ⟨_, rfl⟩
  simp only [← eh5] at k5
  have n5 := s_needX (n := n + 1) (s := ⟨h5, d, sc⟩) (a := 0) (t := t) (i := i + 1 + 1) (cs := arr) (by omega) k5.rd hi2 hb
  have z := set0 (j := j) k5.rd
  have r5 := k5.rd
  obtain ⟨g, eg⟩ : ∃ g, g = h5.set 0 (rdo t j) := ⟨_, rfl⟩
  rw [← eg] at n5 z
  simp only [rdo] at r2 r5
  simp only [arr] at n5
  simp only [e1, List.take_succ_cons, List.take_zero] at s2
  have hL2 := atI_last (rws (Rs ++ [(a', r')])) (.r a)
  have hL4 := atI_last (rws Rs) (.r a')
  have hlen : (kvs (r ++ [.c m])).length = r.length + 1 := by simp -dsimp [kvs]
  have hpos : 0 < r.length := List.length_pos_iff.mpr h0
  have hk' : (kvs r').length < 16777216 := by simp -dsimp [kvs]; omega
  simp only [kvs_app] at eh5
  simp only [rws, List.map_append, List.map_cons, List.map_nil, List.append_assoc, List.cons_append, List.nil_append] at l2 l3 l4 hL2 hL4 eh4
  refine ⟨g, whl_exc rfl (kin_more hn k x) (Eq.trans q ?_), z⟩
  have hd : (Rs.map (fun q => Val.r q.1) ++ [Val.r a', Val.r a]).dropLast = Rs.map (fun q => Val.r q.1) ++ [Val.r a'] := by
    rw [show Rs.map (fun q => Val.r q.1) ++ [Val.r a', Val.r a] = (Rs.map (fun q => Val.r q.1) ++ [Val.r a']) ++ [Val.r a] by simp]
    rw [List.dropLast_concat]
  have c1 : (1 : Int) < (Rs.length : Int) + 2 := by omega
  have c2 : (1 : Int) < (r.length : Int) + 1 := by omega
  simp -dsimp [whlB, w_kind_in_1, isOf, r2, s2, l2, cmpV, cmpP, PV.dep, PV.eq, biV, lenV, idxV, hL2, a2, hlen, c1, c2, n2, l3, bmTag, bmV, hd, setO, ← eh4, j4, l4, hL4, a4', hk', ← eh5, r5, n5]
/-- a kind read, then a wrong sign -/
def KX (n : Nat) (d : Option Hand) (sc : List Int) (t : List Nat) (Rs : List (Nat × List Kd)) (r : List Kd) (k : Kd) (i : Nat) (h : List Obj) (x : Option Val) : Prop :=
  (Rs ≠ [] → t[i + k.kt.length]? ≠ some 32 → t[i + k.kt.length]? ≠ some 41 → (r ≠ [] ∨ k.isF = true) → EndX (ex (CN prog n) w_kind_in_1 [some (.r 0), some (.r 2), x] ⟨h, d, sc⟩) t (i + k.kt.length) d sc) ∧
  (∀ R' a' r' j, Rs = R' ++ [(a', r')] → t[i + k.kt.length]? = some 41 → sg t arr (i + k.kt.length + 1) = .bad j → r'.length ≤ 1000000 → (r ≠ [] ∨ k.isF = true) → EndX (ex (CN prog n) w_kind_in_1 [some (.r 0), some (.r 2), x] ⟨h, d, sc⟩) t j d sc)
theorem KX.step {Rs : List (Nat × List Kd)} {r r2 : List Kd} {k k2 : Kd} {i i2 : Nat} {h h2 : List Obj} {x x2 : Option Val} (hd : KX n d sc t Rs r2 k2 i2 h2 x2) (he : ex (CN prog n) w_kind_in_1 [some (.r 0), some (.r 2), x] ⟨h, d, sc⟩ = ex (CN prog n) w_kind_in_1 [some (.r 0), some (.r 2), x2] ⟨h2, d, sc⟩)
    (hi : i2 + k2.kt.length = i + k.kt.length) (h0 : r2 ≠ []) : KX n d sc t Rs r k i h x := by
  obtain ⟨d1, d2⟩ := hd
  rw [hi] at d1 d2
  exact ⟨fun a b c _ => by rw [he]; exact d1 a b c (.inl h0), fun R' a' r' j e1 e2 e3 e4 _ => by rw [he]; exact d2 R' a' r' j e1 e2 e3 e4 (.inl h0)⟩
theorem kin_allX (hn : 4 ≤ n) (k : Kd) : ∀ {i : Nat} {h : List Obj} {Rs : List (Nat × List Kd)} {a : Nat} {r : List Kd} {rest : List Nat} (x : Option Val), KSt t i h (Rs ++ [(a, r)]) → t.drop i = k.kt ++ rest → r.length + k.lets ≤ 1000000 → Rs.length + k.lets ≤ 1000000 → KX n d sc t Rs r k i h x := by
  intro i h Rs a r rest x ks e hl hR
  match k with
  | .c m =>
    have e : t.drop i = (97 + m.val) :: rest := e
    have e1 := (drop_tail e).1
    refine ⟨fun e1 h32 h41 h0 => ?_, fun R' a' r' j e2 h41 hb hl' h0 => ?_⟩
    · exact kin_popX hn ks e1 e (by simpa [Kd.isF] using h0) (by omega) h32 h41 x
    · subst e2
      have h41 : t[i + 1]? = some 41 := h41
      obtain ⟨l, e41⟩ := List.getElem?_eq_some_iff.mp h41
      have e3 : t.drop i = (97 + m.val) :: 41 :: t.drop (i + 1 + 1) := by
        rw [e, ← e1]
        congr 1
        show t.drop (i + 1) = _
        rw [List.drop_eq_getElem_cons l, e41]
      exact kin_popY hn ks e3 hb (by simpa [Kd.isF] using h0) (by omega) hl' x
  | .f (.c m) b =>
    simp only [Kd.lets] at hl hR
    have hb := b.lets_pos
    have e : t.drop i = (97 + m.val) :: 32 :: 62 :: 32 :: (b.kt ++ rest) := e
    obtain ⟨h2, q, z⟩ := kin_on (n := n) (d := d) (sc := sc) hn ks e (by omega) x
    have e2 : t.drop (i + 4) = b.kt ++ rest := drop_more (a := [97 + m.val, 32, 62, 32]) e
    have ih := kin_allX hn b x z e2 (by simp; omega) (by omega)
    exact ih.step q (by simp -dsimp [Kd.kt]; omega) (by simp)
  | .f (.f u w) b =>
    simp only [Kd.lets] at hl hR
    have hb := b.lets_pos
    have hu := u.lets_pos
    have e : t.drop i = 40 :: ((Kd.f u w).kt ++ 41 :: 32 :: 62 :: 32 :: (b.kt ++ rest)) := by rw [e]; simp -dsimp [Kd.kt]
    obtain ⟨e1, hlt⟩ := drop_tail e
    obtain ⟨h2, q, z⟩ := kin_open (n := n) (d := d) (sc := sc) hn ks (by omega) e (by omega) x
    have ih1 := kin_all (n := n) (d := d) (sc := sc) hn (.f u w) x z e1 (by simp -dsimp [Kd.lets]; omega) (by simp -dsimp [Kd.lets]; omega)
    obtain ⟨h3, x3, q3, z3⟩ := ih1.2 Rs a r (b.kt ++ rest) rfl rfl (by omega) (.inr rfl)
    have e3 : t.drop (i + 1 + (Kd.f u w).kt.length + 4) = b.kt ++ rest := by
      have := drop_more e1
      exact drop_more (a := [41, 32, 62, 32]) this
    have ih2 := kin_allX hn b x3 z3 e3 (by simp; omega) (by omega)
    refine ih2.step (q.trans q3) (by simp -dsimp [Kd.kt]; omega) (by simp)
termination_by k.sz
decreasing_by all_goals simp -dsimp [Kd.sz] <;> omega
end
end U
/-! R7: a kind read by the package, whatever the text. -/
namespace U
theorem Kd.lets_kt : ∀ k : Kd, k.lets ≤ k.kt.length
  | .c _ => by simp -dsimp [Kd.kt, Kd.lets]
  | .f (.c n) b => by have := b.lets_kt; simp -dsimp [Kd.kt, Kd.lets]; omega
  | .f (.f a b) e => by have h1 := (Kd.f a b).lets_kt; have h2 := e.lets_kt; simp only [Kd.kt, Kd.lets, List.length_cons, List.length_append] at *; omega
theorem Kd.lets_atx (k : Kd) : k.lets ≤ k.atx.length := by
  have := k.lets_kt
  unfold Kd.atx
  split
  · simp; omega
  · exact this
theorem seg_drop {t : List Nat} {i j : Nat} {u : List Nat} (h : seg t i j = u) (hi : i ≤ j) (hj : j ≤ t.length) : t.drop i = u ++ t.drop j ∧ j = i + u.length := by
  subst h
  unfold seg
  constructor
  · have := List.take_append_drop (j - i) (t.drop i)
    rw [List.drop_drop, show i + (j - i) = j by omega] at this
    exact this.symm
  · simp; omega
theorem rdK_end {t : List Nat} : ∀ {d i j : Nat} {k : Kd}, rdK t d i = some (.ok k j) → t[j]? ≠ some 32
  | 0, i, j, k, h => by simp [rdK] at h
  | d + 1, i, j, k, h => by
    unfold rdK at h
    cases q1 : rdA t d i with
    | none => simp [q1] at h
    | some r1 =>
      rw [q1] at h
      cases r1 with
      | bad j => cases h
      | ok l1 j1 =>
        simp only at h
        split at h
        · rename_i h0
          cases h
          exact h0.1
        · cases q2 : sg t arr j1 with
          | bad k => rw [q2] at h; cases h
          | ok u j2 =>
            rw [q2] at h
            simp only at h
            cases q3 : rdK t d j2 with
            | none => simp [q3] at h
            | some r2 =>
              rw [q3] at h
              cases r2 with
              | bad k => cases h
              | ok r2 k =>
                cases h
                exact rdK_end q3
section
variable {n : Nat} {d : Option Hand} {sc : List Int} {t : List Nat}
theorem kin_step (hn : 4 ≤ n) {f i j j2 : Nat} {l : Kd} {u : Unit} {h : List Obj} {Rs : List (Nat × List Kd)} {a : Nat} {r : List Kd} (k : KSt t i h (Rs ++ [(a, r)])) (hi : i ≤ t.length) (q1 : rdA t f i = some (.ok l j)) (q2 : sg t arr j = .ok u j2) (hl : r.length + (t.length - i) ≤ 900000) (hR : Rs.length + (t.length - i) ≤ 900000) (x : Option Val) :
    ∃ h2 x2, ex (CN prog n) w_kind_in_1 [some (.r 0), some (.r 2), x] ⟨h, d, sc⟩ = ex (CN prog n) w_kind_in_1 [some (.r 0), some (.r 2), x2] ⟨h2, d, sc⟩ ∧ KSt t j2 h2 (Rs ++ [(a, r ++ [l])]) := by
  have R1 := rdA_rd q1 hi
  obtain ⟨lt, es⟩ := R1.ok _ _ rfl
  have jl : j ≤ t.length := R1.len
  obtain ⟨e1, ej⟩ := seg_drop es (by omega) jl
  obtain ⟨ej2, e2⟩ := sg_ok q2
  simp [arr] at ej2
  rw [e2] at e1
  have ll := l.lets_atx
  cases l with
  | c m =>
    have e : t.drop i = (97 + m.val) :: 32 :: 62 :: 32 :: t.drop j2 := e1
    obtain ⟨h2, q, z⟩ := kin_on (n := n) (d := d) (sc := sc) hn k e (by omega) x
    have : j2 = i + 4 := by rw [ej2, ej]; simp -dsimp [Kd.atx, Kd.isF, Kd.kt]
    rw [← this] at z
    exact ⟨h2, x, q, z⟩
  | f v w =>
    have e : t.drop i = 40 :: ((Kd.f v w).kt ++ 41 :: 32 :: 62 :: 32 :: t.drop j2) := by rw [e1]; simp -dsimp [Kd.atx, Kd.isF, arr]
    obtain ⟨h2, q, z⟩ := kin_open (n := n) (d := d) (sc := sc) hn k hi e (by omega) x
    obtain ⟨h3, x3, q3, z3⟩ := (kin_all (n := n) (d := d) (sc := sc) hn (.f v w) x z (drop_tail e).1 (by simp; omega) (by simp; omega)).2 Rs a r (t.drop j2) rfl rfl (by omega) (.inr rfl)
    refine ⟨h3, x3, q.trans q3, ?_⟩
    have : j2 = i + 1 + (Kd.f v w).kt.length + 4 := by rw [ej2, ej]; simp -dsimp [Kd.atx, Kd.isF]; omega
    rw [this]
    exact z3
theorem kin_stepX (hn : 4 ≤ n) {f i j m : Nat} {l : Kd} {h : List Obj} {Rs : List (Nat × List Kd)} {a : Nat} {r : List Kd} (k : KSt t i h (Rs ++ [(a, r)])) (hi : i ≤ t.length) (q1 : rdA t f i = some (.ok l j)) (q2 : sg t arr j = .bad m) (hl : r.length + (t.length - i) ≤ 900000) (hR : Rs.length + (t.length - i) ≤ 900000) (x : Option Val) (hc : l.isF = true ∨ t[j]? = some 32 ∨ (r = [] ∧ Rs ≠ [])) :
    EndX (ex (CN prog n) w_kind_in_1 [some (.r 0), some (.r 2), x] ⟨h, d, sc⟩) t m d sc := by
  have R1 := rdA_rd q1 hi
  obtain ⟨lt, es⟩ := R1.ok _ _ rfl
  have jl : j ≤ t.length := R1.len
  obtain ⟨e1, ej⟩ := seg_drop es (by omega) jl
  have ll := l.lets_atx
  cases l with
  | c v =>
    have e : t.drop i = (97 + v.val) :: t.drop j := e1
    have : j = i + 1 := by rw [ej]; simp -dsimp [Kd.atx, Kd.isF, Kd.kt]
    subst this
    exact kin_onX hn k e (by omega) x q2 (by simpa [Kd.isF] using hc)
  | f v w =>
    have e : t.drop i = 40 :: ((Kd.f v w).kt ++ 41 :: t.drop j) := by rw [e1]; simp -dsimp [Kd.atx, Kd.isF]
    obtain ⟨h2, q, z⟩ := kin_open (n := n) (d := d) (sc := sc) hn k hi e (by omega) x
    have ej' : j = i + 1 + (Kd.f v w).kt.length + 1 := by rw [ej]; simp -dsimp [Kd.atx, Kd.isF]; omega
    have e41 : t[i + 1 + (Kd.f v w).kt.length]? = some 41 := drop_cons_get (drop_more (drop_tail e).1)
    rw [ej'] at q2
    have := (kin_allX (n := n) (d := d) (sc := sc) hn (.f v w) x z (drop_tail e).1 (by simp; omega) (by simp; omega)).2 Rs a r m rfl e41 q2 (by omega) (.inr rfl)
    rw [q]
    exact this
theorem kin_close (hn : 4 ≤ n) {f i j m : Nat} {l : Kd} {h : List Obj} {Rs : List (Nat × List Kd)} {a : Nat} {r : List Kd} (k : KSt t i h (Rs ++ [(a, r)])) (hi : i ≤ t.length) (q1 : rdK t f i = some (.ok l j)) (q2 : sg t [41] j = .bad m) (hl : r.length + (t.length - i) ≤ 900000) (hR : Rs.length + (t.length - i) ≤ 900000) (x : Option Val) (hr : r ≠ []) (hRs : Rs ≠ []) :
    EndX (ex (CN prog n) w_kind_in_1 [some (.r 0), some (.r 2), x] ⟨h, d, sc⟩) t m d sc := by
  have R1 := rdK_rd q1 hi
  obtain ⟨lt, es⟩ := R1.ok _ _ rfl
  have jl : j ≤ t.length := R1.len
  obtain ⟨e1, ej⟩ := seg_drop es (by omega) jl
  have ll := l.lets_kt
  have h32 := rdK_end q1
  have h41 : t[j]? ≠ some 41 := fun e => by simp [sg, e] at q2
  have hm : m = j := by simp [sg, h41] at q2; exact q2.symm
  subst hm
  rw [ej] at h32 h41
  have := (kin_allX (n := n) (d := d) (sc := sc) hn l x k e1 (by omega) (by omega)).1 hRs h32 h41 (.inl hr)
  rw [← ej] at this
  exact this
mutual
theorem kin_A (hn : 4 ≤ n) : ∀ (f : Nat) {i j : Nat} {h : List Obj} {Rs : List (Nat × List Kd)} {a : Nat} {r : List Kd} (x : Option Val), KSt t i h (Rs ++ [(a, r)]) → i ≤ t.length → rdA t f i = some (.bad j) → r.length + (t.length - i) ≤ 900000 → Rs.length + (t.length - i) ≤ 900000 →
    EndX (ex (CN prog n) w_kind_in_1 [some (.r 0), some (.r 2), x] ⟨h, d, sc⟩) t j d sc
  | 0, i, j, h, Rs, a, r, x, k, hi, q, hl, hR => by simp [rdA] at q
  | f + 1, i, j, h, Rs, a, r, x, k, hi, q, hl, hR => by
    unfold rdA at q
    split at q
    · rename_i e
      cases q
      exact kin_nl hn k hi (by rw [e]; nofun) (smH_none e) x
    · rename_i c hc
      have l := (List.getElem?_eq_some_iff.mp hc).1
      split at q
      · rename_i e40
        subst e40
        have e : t.drop i = 40 :: t.drop (i + 1) := by
          obtain ⟨l, e⟩ := List.getElem?_eq_some_iff.mp hc
          rw [List.drop_eq_getElem_cons l, e]
        obtain ⟨h2, q0, z⟩ := kin_open (n := n) (d := d) (sc := sc) hn k hi e (by omega) x
        rw [q0]
        have b1 : ([] : List Kd).length + (t.length - (i + 1)) ≤ 900000 := by simp; omega
        have b2 : (Rs ++ [(a, r)]).length + (t.length - (i + 1)) ≤ 900000 := by simp; omega
        cases q1 : rdA t f (i + 1) with
        | none => simp [q1] at q
        | some r1 =>
          rw [q1] at q
          cases r1 with
          | bad j1 =>
            cases q
            exact kin_A hn f x z (by omega) q1 b1 b2
          | ok l1 j1 =>
            simp only at q
            have R1 := rdA_rd q1 (by omega)
            have lt1 := (R1.ok _ _ rfl).1
            have jl : j1 ≤ t.length := R1.len
            cases q2 : sg t arr j1 with
            | bad m =>
              rw [q2] at q
              cases q
              exact kin_stepX hn z (by omega) q1 q2 b1 b2 x (.inr (.inr ⟨rfl, by simp⟩))
            | ok u j2 =>
              rw [q2] at q
              simp only at q
              have g3 := (sg_ok q2).1
              have g4 := sg_le q2 jl
              simp [arr] at g3
              obtain ⟨h3, x3, q5, z3⟩ := kin_step (n := n) (d := d) (sc := sc) hn z (by omega) q1 q2 b1 b2 x
              rw [q5]
              have b3 : ([] ++ [l1]).length + (t.length - j2) ≤ 900000 := by simp; omega
              have b4 : (Rs ++ [(a, r)]).length + (t.length - j2) ≤ 900000 := by simp; omega
              cases q3 : rdK t f j2 with
              | none => simp [q3] at q
              | some r2 =>
                rw [q3] at q
                cases r2 with
                | bad m =>
                  cases q
                  exact kin_K hn f x3 z3 g4 q3 b3 b4
                | ok l2 k2 =>
                  simp only at q
                  cases q4 : sg t [41] k2 with
                  | bad m =>
                    rw [q4] at q
                    cases q
                    exact kin_close hn z3 g4 q3 q4 b3 b4 x3 (by simp) (by simp)
                  | ok u2 m => rw [q4] at q; cases q
      · split at q
        · cases q
        · rename_i h40 hs
          cases q
          exact kin_nl hn k hi (by rw [hc]; simpa using h40) (by rw [smH_some hc]; simpa using hs) x
theorem kin_K (hn : 4 ≤ n) : ∀ (f : Nat) {i j : Nat} {h : List Obj} {Rs : List (Nat × List Kd)} {a : Nat} {r : List Kd} (x : Option Val), KSt t i h (Rs ++ [(a, r)]) → i ≤ t.length → rdK t f i = some (.bad j) → r.length + (t.length - i) ≤ 900000 → Rs.length + (t.length - i) ≤ 900000 →
    EndX (ex (CN prog n) w_kind_in_1 [some (.r 0), some (.r 2), x] ⟨h, d, sc⟩) t j d sc
  | 0, i, j, h, Rs, a, r, x, k, hi, q, hl, hR => by simp [rdK] at q
  | f + 1, i, j, h, Rs, a, r, x, k, hi, q, hl, hR => by
    unfold rdK at q
    cases q1 : rdA t f i with
    | none => simp [q1] at q
    | some r1 =>
      rw [q1] at q
      cases r1 with
      | bad j1 =>
        cases q
        exact kin_A hn f x k hi q1 hl hR
      | ok l1 j1 =>
        simp only at q
        have R1 := rdA_rd q1 hi
        have lt1 := R1.ok _ _ rfl
        have jl : j1 ≤ t.length := R1.len
        split at q
        · cases q
        · rename_i h0
          cases q2 : sg t arr j1 with
          | bad m =>
            rw [q2] at q
            cases q
            refine kin_stepX hn k hi q1 q2 hl hR x ?_
            by_cases e32 : t[j1]? = some 32
            · exact .inr (.inl e32)
            · left
              have e40 : t[i]? = some 40 := Classical.byContradiction fun z => h0 ⟨e32, z⟩
              obtain ⟨e1, _⟩ := seg_drop lt1.2 (by omega) jl
              cases l1 with
              | f _ _ => rfl
              | c v =>
                have e : t.drop i = (97 + v.val) :: t.drop j1 := e1
                have := drop_cons_get e
                rw [e40] at this
                simp at this
                omega
          | ok u j2 =>
            rw [q2] at q
            simp only at q
            have g3 := (sg_ok q2).1
            have g4 := sg_le q2 jl
            simp [arr] at g3
            obtain ⟨h3, x3, q5, z3⟩ := kin_step (n := n) (d := d) (sc := sc) hn k hi q1 q2 hl hR x
            rw [q5]
            cases q3 : rdK t f j2 with
            | none => simp [q3] at q
            | some r2 =>
              rw [q3] at q
              cases r2 with
              | bad m =>
                cases q
                exact kin_K hn f x3 z3 g4 q3 (by simp; omega) (by omega)
              | ok l2 k2 => cases q
end
end
/-- a reader's answer: what is read, or the exception -/
def ansR {α : Type} (g : α → PV) (a : Nat) (t : List Nat) (s : S) : Rs α → R Val
  | .ok x j => .ok (.p (g x)) ⟨s.h.set a (rdo t j), s.d, s.sc⟩
  | .bad j => .exc (badE j) ⟨s.h.set a (rdo t j), s.d, s.sc⟩
theorem s_kinG {n : Nat} {s : S} {a f : Nat} {t : List Nat} {i : Nat} {r : Rs Kd} (hn : 6 ≤ n) (ho : s.h[a]? = some (rdo t i)) (hi : i ≤ t.length) (ht : t.length ≤ 800000) (h : rdK t f i = some r) :
    FN prog n F_kind_in [.r a] s = ansR Kd.v a t s r := by
  cases r with
  | ok k j =>
    have R1 := rdK_rd h hi
    obtain ⟨lt, es⟩ := R1.ok _ _ rfl
    have jl : j ≤ t.length := R1.len
    obtain ⟨e1, ej⟩ := seg_drop es (by omega) jl
    have ll := k.lets_kt
    have h32 := rdK_end h
    have := s_kin (n := n) (s := s) (a := a) (t := t) (i := i) (k := k) hn ho hi e1 (by rw [List.head?_drop]; exact h32) (by omega)
    rw [this, ej]
    rfl
  | bad j =>
    have k0 : KSt t i [rdo t i, .list [], .list [.r 1]] [(1, [])] := ⟨rfl, rfl, by simp, fun q hq => by simp at hq; subst hq; exact ⟨rfl, by decide, by decide⟩⟩
    obtain ⟨h2, q, z0⟩ := kin_K (n := n - 2) (d := s.d) (sc := s.sc) (t := t) (by omega) f (Rs := []) none k0 hi h (by simp; omega) (by simp; omega)
    obtain ⟨hh, ht, rfl⟩ : ∃ o l, h2 = o :: l := by
      cases h2 with
      | nil => simp at z0
      | cons o l => exact ⟨_, _, rfl⟩
    simp only [List.getElem?_cons_zero, Option.some.injEq] at z0
    subst z0
    refine callX1 (o := rdo t i) (o' := rdo t j) (h := ht) (sc := s.sc) (by omega) ho rfl rfl rfl rfl rfl rfl rfl ?_
    simp -dsimp [m_kind_in, refs, renum, new, q]
end U
/-! R8: the package's readers on any text. -/
namespace U
/-- read to the end -/
def Rs.whole {α : Type} (L : Nat) : Rs α → Rs α
  | .ok a j => if j = L then .ok a j else .bad j
  | .bad j => .bad j
def ansF {α : Type} (g : α → PV) (s : S) : Rs α → R Val
  | .ok a _ => .ok (.p (g a)) s
  | .bad j => .exc (badE j) s
theorem Rs.whole_ok {α : Type} {L : Nat} {r : Rs α} {a : α} {j : Nat} (h : r.whole L = .ok a j) : r = .ok a j ∧ j = L := by
  cases r with
  | bad _ => cases h
  | ok b k =>
    simp only [Rs.whole] at h
    split at h
    · cases h; exact ⟨rfl, by assumption⟩
    · cases h
section
variable {n : Nat} {t : List Nat}
theorem c0 : ((0 : Nat) : Int) = 0 := rfl
theorem rdo_eq (t : List Nat) (i : Nat) : rdo t i = .inst 4 [(1, .p (.str t)), (0, .p (.int i))] := rfl
theorem s_wholeK {s : S} {f : Nat} {r : Rs Kd} (hn : 9 ≤ n) (ht : t.length ≤ 800000) (h : rdK t f 0 = some r) : FN prog n F_whole_kind [.p (.str t)] s = ansF Kd.v s (r.whole t.length) := by
  have h1 := fun s => s_init (n := n - 2) (s := s) (t := t) (by omega)
  have h2 := s_kinG (n := n - 2 + 1) (s := ⟨[rdo t 0], s.d, s.sc⟩) (a := 0) (t := t) (i := 0) (by omega) rfl (by omega) ht h
  have R1 := rdK_rd h (Nat.zero_le _)
  cases r with
  | bad j =>
    simp only [ansR, List.set_cons_zero] at h2
    simp only [Rs.whole, ansF]
    refine callX0 (h := [rdo t j]) (sc := s.sc) (by omega) rfl rfl rfl rfl rfl ?_
    simp only [rdo_eq, c0] at h1 h2
    simp -dsimp [m_whole_kind, h1, h2, rdo_eq]
  | ok k j =>
    simp only [ansR, List.set_cons_zero] at h2
    have jl : j ≤ t.length := R1.len
    simp only [Rs.whole]
    by_cases e : j = t.length
    · rw [if_pos e]
      simp only [ansF]
      have h3 := s_finish (n := n - 2 + 1) (s := ⟨[rdo t j], s.d, s.sc⟩) (a := 0) (t := t) (by omega) rfl e
      refine callQ (h := [rdo t j]) (sc := s.sc) (by omega) rfl rfl rfl rfl rfl ?_
      simp only [rdo_eq, c0] at h1 h2 h3
      simp -dsimp [m_whole_kind, h1, h2, h3, isOf, rdo_eq]
    · rw [if_neg e]
      simp only [ansF]
      have h3 := s_finishX (n := n - 2 + 1) (s := ⟨[rdo t j], s.d, s.sc⟩) (a := 0) (t := t) (by omega) rfl (by omega)
      refine callX0 (h := [rdo t j]) (sc := s.sc) (by omega) rfl rfl rfl rfl rfl ?_
      simp only [rdo_eq, c0, List.set_cons_zero] at h1 h2 h3
      simp -dsimp [m_whole_kind, h1, h2, h3, isOf, rdo_eq]
theorem s_readK {s : S} {f : Nat} {r : Rs Kd} (hn : 11 ≤ n) (ht : t.length ≤ 800000) (h : rdK t f 0 = some r) (hk : ∀ k, r = .ok k t.length → k.th) : FN prog n F_read_kind [.p (.str t)] s = ansF Kd.v s (r.whole t.length) := by
  have h1 := fun s => s_wholeK (n := n - 2 + 1) (s := s) (by omega) ht h
  cases q : r.whole t.length with
  | bad j =>
    rw [q] at h1
    simp only [ansF] at h1 ⊢
    refine callX0 (h := []) (sc := s.sc) (by omega) rfl rfl rfl rfl rfl ?_
    simp -dsimp [m_read_kind, h1]
  | ok k j =>
    rw [q] at h1
    simp only [ansF] at h1 ⊢
    obtain ⟨e1, e2⟩ := Rs.whole_ok q
    subst e2
    have h2 := fun s => s_there (n := n - 2 + 1) (s := s) (k := k) (by omega) (hk k e1)
    refine callQ (h := []) (sc := s.sc) (by omega) rfl rfl rfl rfl rfl ?_
    simp -dsimp [m_read_kind, h1, h2, truth, PV.truth]
section
variable {d : Option Hand} {sc : List Int} {v x o : Option Val}
theorem r_afterX (hn : 4 ≤ n) (F : List Wrd) : ∀ (W : List Bool) (i j : Nat), sg t (clo W).1 i = .bad j → i ≤ t.length → W.length ≤ 100000 →
    ∃ h2, exs (CN prog n) tlWP [v, some (.r 0), some (.r 1), some (.r 2), o, x] (pst t i F W d sc) = .exc (badE j) ⟨h2, d, sc⟩
  | [], i, j, h, hi, hl => by simp [clo, sg] at h
  | false :: W', i, j, h, hi, hl => by
    simp only [clo] at h
    have hL := atI_last (stkB W') (.p (.str [32]))
    have hc : ex (CN prog n) w_whole_program_0 [v, some (.r 0), some (.r 1), some (.r 2), o, x] (pst t i F (false :: W') d sc) = .next [v, some (.r 0), some (.r 1), some (.r 2), o, x] (pst t i F (false :: W') d sc) := by
      refine whl_done rfl ?_
      simp -dsimp [whlC, w_whole_program_0, biV, lenV, cmpV, cmpP, stkB, idxV, hL, PV.dep, PV.eq]
    have h3 := s_needX (n := n + 1) (s := pst t i F W' d sc) (a := 0) (t := t) (i := i) (cs := [32]) (by omega) rfl hi h
    simp at hl
    simp only [rdo, pst, List.set_cons_zero, stkB, Bool.false_eq_true, if_false] at h3 hc
    refine ⟨[rdo t j, .list (F.map wv), .list (stkB W')], ?_⟩
    · unfold tlWP
      simp -dsimp [hc, pst, rdo, biV, lenV, cmpV, cmpP, stkB, truth, PV.truth, bmTag, bmV, setO, stkB_len, isOf, h3]
  | true :: W', i, j, h, hi, hl => by
    simp only [clo, sg] at h
    have hL := atI_last (stkB W') (.p (.str [41]))
    have hC : evT (CN prog n) (whlC w_whole_program_0) [v, some (.r 0), some (.r 1), some (.r 2), o, x] (pst t i F (true :: W') d sc) = .ok true (pst t i F (true :: W') d sc) := by
      simp -dsimp [whlC, w_whole_program_0, biV, lenV, cmpV, cmpP, stkB, idxV, hL, PV.dep, PV.eq]
    by_cases e : t[i]? = some 41
    · rw [if_pos e] at h
      have l := (List.getElem?_eq_some_iff.mp e).1
      obtain ⟨h2, ih⟩ := r_afterX hn F W' (i + 1) j h (by omega) (by simp at hl; omega)
      refine ⟨h2, ?_⟩
      have h3 := s_needK (n := n + 1) (s := pst t i F W' d sc) (a := 0) (t := t) (i := i) (j := i + 1) (cs := [41]) (u := ()) (by omega) rfl hi (by simp [sg, e])
      have hw : ex (CN prog n) w_whole_program_0 [v, some (.r 0), some (.r 1), some (.r 2), o, x] (pst t i F (true :: W') d sc) = ex (CN prog n) w_whole_program_0 [v, some (.r 0), some (.r 1), some (.r 2), o, x] (pst t (i + 1) F W' d sc) := by
        refine whl_next rfl hC ?_
        simp only [rdo, pst, List.set_cons_zero] at h3
        simp -dsimp [whlB, w_whole_program_0, bmTag, bmV, setO, stkB, isOf, pst, rdo, h3]
      rw [← ih]
      unfold tlWP
      rw [exs_cons, hw]
      rfl
    · have h3 := s_needX (n := n + 1) (s := pst t i F W' d sc) (a := 0) (t := t) (i := i) (cs := [41]) (by omega) rfl hi (sg_one e)
      rw [if_neg e] at h
      cases h
      have hw : ex (CN prog n) w_whole_program_0 [v, some (.r 0), some (.r 1), some (.r 2), o, x] (pst t i F (true :: W') d sc) = .exc (badE i) (pst t i F W' d sc) := by
        refine whl_exc rfl hC ?_
        simp only [rdo, pst, List.set_cons_zero] at h3
        simp -dsimp [whlB, w_whole_program_0, bmTag, bmV, setO, stkB, isOf, pst, rdo, h3]
      refine ⟨(pst t i F W' d sc).h, ?_⟩
      · unfold tlWP
        rw [exs_cons, hw]
        rfl
theorem r_afterK (hn : 4 ≤ n) (F : List Wrd) (W : List Bool) (i j : Nat) (u : Unit) (h : sg t (clo W).1 i = .ok u j) (hi : i ≤ t.length) (hl : W.length ≤ 100000) :
    exs (CN prog n) tlWP [v, some (.r 0), some (.r 1), some (.r 2), o, x] (pst t i F W d sc) = .next [v, some (.r 0), some (.r 1), some (.r 2), some (.p (.bool (!(clo W).2.isEmpty))), x] (pst t j F (clo W).2 d sc) := by
  obtain ⟨e1, e2⟩ := sg_ok h
  rw [e1] at e2 ⊢
  exact r_after hn F W i _ e2 hi hl
end
end
end U
/-! R9: a program read by the package, whatever the text. -/
namespace U
section
variable {n : Nat} {d : Option Hand} {sc : List Int} {t : List Nat} {v : Option Val}
theorem seq_nil (C : Calls) (x : X) : (x.seq fun e s => exs C .nil e s) = x := by cases x <;> simp [X.seq]
/-- what the walk over a program's part says -/
def WA (n : Nat) (d : Option Hand) (sc : List Int) (t : List Nat) (v : Option Val) (i : Nat) (F : List Wrd) (W : List Bool) (x0 : Option Val) : Rs Pg → Prop
  | .bad j => ∃ h2, ex (CN prog n) w_whole_program_1 [v, some (.r 0), some (.r 1), some (.r 2), some (.p (.bool true)), x0] (pst t i F W d sc) = .exc (badE j) ⟨h2, d, sc⟩
  | .ok p j => (∀ m, sg t (clo W).1 j = .bad m → ∃ h2, ex (CN prog n) w_whole_program_1 [v, some (.r 0), some (.r 1), some (.r 2), some (.p (.bool true)), x0] (pst t i F W d sc) = .exc (badE m) ⟨h2, d, sc⟩) ∧
    (∀ u j2, sg t (clo W).1 j = .ok u j2 → ∃ x1, ex (CN prog n) w_whole_program_1 [v, some (.r 0), some (.r 1), some (.r 2), some (.p (.bool true)), x0] (pst t i F W d sc) =
      ex (CN prog n) w_whole_program_1 [v, some (.r 0), some (.r 1), some (.r 2), some (.p (.bool (!(clo W).2.isEmpty))), x1] (pst t j2 (F ++ p.ws) (clo W).2 d sc))
theorem WA.step {i i2 : Nat} {F F2 : List Wrd} {W : List Bool} {x0 x2 : Option Val} {p p2 : Pg} {j : Nat} (h : WA n d sc t v i2 F2 W x2 (.ok p2 j)) (he : ex (CN prog n) w_whole_program_1 [v, some (.r 0), some (.r 1), some (.r 2), some (.p (.bool true)), x0] (pst t i F W d sc) = ex (CN prog n) w_whole_program_1 [v, some (.r 0), some (.r 1), some (.r 2), some (.p (.bool true)), x2] (pst t i2 F2 W d sc)) (hw : F2 ++ p2.ws = F ++ p.ws) : WA n d sc t v i F W x0 (.ok p j) := by
  obtain ⟨h1, h2⟩ := h
  refine ⟨fun m e => ?_, fun u j2 e => ?_⟩
  · rw [he]; exact h1 m e
  · rw [he, ← hw]; exact h2 u j2 e
theorem wp_open (i : Nat) (F : List Wrd) (W : List Bool) (x0 : Option Val) : evT (CN prog n) (whlC w_whole_program_1) [v, some (.r 0), some (.r 1), some (.r 2), some (.p (.bool true)), x0] (pst t i F W d sc) = .ok true (pst t i F W d sc) := by
  simp -dsimp [whlC, w_whole_program_1, truth, PV.truth]
def nmR : Rs Nm → Rs Pg
  | .bad j => .bad j
  | .ok x j => .ok (.nm x) j
theorem wp_nm (hn : 7 ≤ n) {i : Nat} {r : Rs Nm} {F : List Wrd} {W : List Bool} (x0 : Option Val) (h91 : t[i]? ≠ some 91) (h40 : t[i]? ≠ some 40) (q : rdN t i = r) (hi : i ≤ t.length) (hw : W.length ≤ 90000) (hf : F.length ≤ 90000) :
    WA n d sc t v i F W x0 (nmR r) := by
  have h1 := s_sign (n := n + 1) (s := pst t i F W d sc) (a := 0) (t := t) (i := i) (by omega) rfl hi
  have q40 := take1_eq t i 40
  have q91 := take1_eq t i 91
  rw [decide_eq_false h40] at q40
  rw [decide_eq_false h91] at q91
  have hb := bnd (m := F.length) (by omega)
  cases r with
  | bad j =>
    have h2 := s_nameX (n := n + 1) (s := pst t i F W d sc) (a := 0) (t := t) (i := i) (by omega) rfl hi q
    simp only [rdo, pst, List.set_cons_zero] at h1 h2
    refine ⟨(pst t j F W d sc).h, whl_exc rfl (wp_open i F W x0) ?_⟩
    rw [whlB_wp]
    simp -dsimp [pst, rdo, isOf, h1, cmQ_eq, q40, q91, bmTag, h2, wv, Wrd.v]
  | ok y j =>
    have h2 := s_nameK (n := n + 1) (s := pst t i F W d sc) (a := 0) (t := t) (i := i) (by omega) rfl hi q
    obtain ⟨e1, e2, e3, e4⟩ := rdN_ok q
    have hj : j ≤ t.length := by rw [e2, e1]; exact nmAt_le hi
    simp only [rdo, pst, List.set_cons_zero] at h1 h2
    have stp : ∀ x, exs (CN prog n) tlWP [v, some (.r 0), some (.r 1), some (.r 2), some (.p (.bool true)), x0] (pst t j (F ++ [.nm y]) W d sc) = x → exs (CN prog n) (whlB w_whole_program_1) [v, some (.r 0), some (.r 1), some (.r 2), some (.p (.bool true)), x0] (pst t i F W d sc) = x := by
      rintro x rfl
      rw [whlB_wp]
      simp -dsimp [pst, rdo, isOf, h1, cmQ_eq, q40, q91, bmTag, h2, bmV, hb, setO, wv, Wrd.v]
      rw [seq_nil, seq_nil]
    refine ⟨fun m e => ?_, fun u j2 e => ?_⟩
    · obtain ⟨h2, z⟩ := r_afterX (n := n) (d := d) (sc := sc) (v := v) (x := x0) (o := some (.p (.bool true))) (by omega) (F ++ [.nm y]) W j m e hj (by omega)
      exact ⟨h2, whl_exc rfl (wp_open i F W x0) (stp _ z)⟩
    · have z := r_afterK (n := n) (d := d) (sc := sc) (v := v) (x := x0) (o := some (.p (.bool true))) (by omega) (F ++ [.nm y]) W j j2 u e hj (by omega)
      exact ⟨x0, whl_next rfl (wp_open i F W x0) (stp _ z)⟩
theorem wp_us (hn : 7 ≤ n) {i : Nat} {F : List Wrd} {W : List Bool} (x0 : Option Val) (h40 : t[i]? = some 40) (hw : W.length ≤ 90000) (hf : F.length ≤ 90000) :
    ex (CN prog n) w_whole_program_1 [v, some (.r 0), some (.r 1), some (.r 2), some (.p (.bool true)), x0] (pst t i F W d sc) = ex (CN prog n) w_whole_program_1 [v, some (.r 0), some (.r 1), some (.r 2), some (.p (.bool true)), x0] (pst t (i + 1) (F ++ [.us]) (false :: W) d sc) := by
  have hi := (List.getElem?_eq_some_iff.mp h40).1
  have h1 := s_sign (n := n + 1) (s := pst t i F W d sc) (a := 0) (t := t) (i := i) (by omega) rfl (by omega)
  have n1 := s_needK (n := n + 1) (s := pst t i F W d sc) (a := 0) (t := t) (i := i) (j := i + 1) (cs := [40]) (u := ()) (by omega) rfl (by omega) (by simp [sg, h40])
  have q40 := take1_eq t i 40
  rw [decide_eq_true h40] at q40
  have hb := bnd (m := F.length) (by omega)
  have hb2 := bnd (m := W.length) (by omega)
  simp only [rdo, pst, List.set_cons_zero] at h1 n1
  refine whl_next rfl (wp_open i F W x0) ?_
  rw [whlB_wp]
  simp -dsimp [pst, rdo, isOf, h1, cmQ_eq, q40, bmTag, n1, bmV, hb, hb2, setO, stkB, stkB_len, wv, Wrd.v]
theorem wp_tk (hn : 7 ≤ n) {f i z : Nat} (hz : z = i + 1) {r : Rs (Nm × Kd)} {F : List Wrd} {W : List Bool} (x0 : Option Val) (h91 : t[i]? = some 91) (hq : rdT t f z = some r) (ht : t.length ≤ 800000) (hf : F.length ≤ 90000) :
    match r with
    | .bad j => ∃ h2, ex (CN prog n) w_whole_program_1 [v, some (.r 0), some (.r 1), some (.r 2), some (.p (.bool true)), x0] (pst t i F W d sc) = .exc (badE j) ⟨h2, d, sc⟩
    | .ok q j => j ≤ t.length ∧ z ≤ j ∧ ∃ x1, ex (CN prog n) w_whole_program_1 [v, some (.r 0), some (.r 1), some (.r 2), some (.p (.bool true)), x0] (pst t i F W d sc) = ex (CN prog n) w_whole_program_1 [v, some (.r 0), some (.r 1), some (.r 2), some (.p (.bool true)), x1] (pst t j (F ++ [.tk q.1 q.2]) W d sc) := by
  have hi := (List.getElem?_eq_some_iff.mp h91).1
  have h1 := s_sign (n := n + 1) (s := pst t i F W d sc) (a := 0) (t := t) (i := i) (by omega) rfl (by omega)
  have n1 := s_needK (n := n + 1) (s := pst t i F W d sc) (a := 0) (t := t) (i := i) (j := z) (cs := [91]) (u := ()) (by omega) rfl (by omega) (by simp [sg, h91, hz])
  have q40 := take1_eq t i 40
  have q91 := take1_eq t i 91
  rw [decide_eq_true h91] at q91
  rw [decide_eq_false (by rw [h91]; simp)] at q40
  have hb := bnd (m := F.length) (by omega)
  unfold rdT at hq
  cases e1 : rdN t z with
  | bad j =>
    rw [e1] at hq
    cases hq
    have n2 := s_nameX (n := n + 1) (s := pst t z F W d sc) (a := 0) (t := t) (i := z) (by omega) rfl (by omega) e1
    simp only [rdo, pst, List.set_cons_zero] at h1 n1 n2
    refine ⟨(pst t j F W d sc).h, whl_exc rfl (wp_open i F W x0) ?_⟩
    rw [whlB_wp]
    simp -dsimp [pst, rdo, isOf, h1, cmQ_eq, q40, q91, bmTag, n1, n2, wv, Wrd.v]
  | ok y j =>
    rw [e1] at hq
    simp only at hq
    have n2 := s_nameK (n := n + 1) (s := pst t z F W d sc) (a := 0) (t := t) (i := z) (by omega) rfl (by omega) e1
    obtain ⟨x1, x2, x3, x4⟩ := rdN_ok e1
    have hj : j ≤ t.length := by rw [x2, x1]; exact nmAt_le (by omega)
    cases e2 : sg t [58] j with
    | bad k =>
      rw [e2] at hq
      cases hq
      have n3 := s_needX (n := n + 1) (s := pst t j F W d sc) (a := 0) (t := t) (i := j) (by omega) rfl hj e2
      simp only [rdo, pst, List.set_cons_zero] at h1 n1 n2 n3
      refine ⟨(pst t k F W d sc).h, whl_exc rfl (wp_open i F W x0) ?_⟩
      rw [whlB_wp]
      simp -dsimp [pst, rdo, isOf, h1, cmQ_eq, q40, q91, bmTag, n1, n2, n3, wv, Wrd.v]
    | ok u j2 =>
      rw [e2] at hq
      simp only at hq
      have n3 := s_needK (n := n + 1) (s := pst t j F W d sc) (a := 0) (t := t) (i := j) (by omega) rfl hj e2
      have g2 := sg_le e2 hj
      have g3 := (sg_ok e2).1
      cases e3 : rdK t f j2 with
      | none => simp [e3] at hq
      | some rk =>
        rw [e3] at hq
        have n4 := s_kinG (n := n + 1) (s := pst t j2 F W d sc) (a := 0) (t := t) (i := j2) (by omega) rfl g2 ht e3
        have R2 := rdK_rd e3 g2
        cases rk with
        | bad k =>
          cases hq
          simp only [rdo, pst, List.set_cons_zero, ansR] at h1 n1 n2 n3 n4
          refine ⟨(pst t k F W d sc).h, whl_exc rfl (wp_open i F W x0) ?_⟩
          rw [whlB_wp]
          simp -dsimp [pst, rdo, isOf, h1, cmQ_eq, q40, q91, bmTag, n1, n2, n3, n4, wv, Wrd.v]
        | ok k1 k =>
          simp only at hq
          have g4 : k ≤ t.length := R2.len
          have g5 : j2 ≤ k := R2.le
          cases e4 : sg t [93, 32] k with
          | bad m =>
            rw [e4] at hq
            cases hq
            have n5 := s_needX (n := n + 1) (s := pst t k (F ++ [.tk y k1]) W d sc) (a := 0) (t := t) (i := k) (by omega) rfl g4 e4
            simp only [rdo, pst, List.set_cons_zero, ansR, List.map_append, List.map_cons, List.map_nil, wv, Wrd.v] at h1 n1 n2 n3 n4 n5
            refine ⟨(pst t m (F ++ [.tk y k1]) W d sc).h, whl_exc rfl (wp_open i F W x0) ?_⟩
            rw [whlB_wp]
            simp -dsimp [pst, rdo, isOf, h1, cmQ_eq, q40, q91, bmTag, n1, n2, n3, n4, bmV, hb, setO, wv, n5, wv, Wrd.v]
          | ok u2 m =>
            rw [e4] at hq
            cases hq
            have n5 := s_needK (n := n + 1) (s := pst t k (F ++ [.tk y k1]) W d sc) (a := 0) (t := t) (i := k) (by omega) rfl g4 e4
            have g6 := sg_le e4 g4
            have g7 := (sg_ok e4).1
            refine ⟨g6, by omega, some (.p (.str y.s)), whl_next rfl (wp_open i F W x0) ?_⟩
            simp only [rdo, pst, List.set_cons_zero, ansR, List.map_append, List.map_cons, List.map_nil, wv, Wrd.v] at h1 n1 n2 n3 n4 n5
            rw [whlB_wp]
            simp -dsimp [pst, rdo, isOf, h1, cmQ_eq, q40, q91, bmTag, n1, n2, n3, n4, bmV, hb, setO, wv, n5, Wrd.v]
end
end U
/-! R10: whole programs. -/
namespace U
section
variable {n : Nat} {d : Option Hand} {sc : List Int} {t : List Nat} {v : Option Val}
theorem rdW_tk {f i : Nat} (h91 : t[i]? = some 91) : rdW t (f + 1) i = match rdT t f (i + 1) with
    | none => none
    | some (.bad j) => some (.bad j)
    | some (.ok q m) => match rdW t f m with
      | none => none
      | some (.bad q) => some (.bad q)
      | some (.ok b e) => some (.ok (.tk q.1 q.2 b) e) := by
  unfold rdT
  rw [rdW, if_pos h91]
  cases e1 : rdN t (i + 1) with
  | bad j => rfl
  | ok x j =>
    simp only
    cases e2 : sg t [58] j with
    | bad k => rfl
    | ok u j2 =>
      simp only
      rcases e3 : rdK t f j2 with _ | _ | _
      · rfl
      · simp only
        cases e4 : sg t [93, 32] _ with
        | bad m => rfl
        | ok u2 m => rfl
      · rfl
theorem wp_all (hn : 7 ≤ n) (ht : t.length ≤ 80000) : ∀ (f : Nat) {i : Nat} {r : Rs Pg} {F : List Wrd} {W : List Bool} (x0 : Option Val), rdW t f i = some r → i ≤ t.length → W.length + (t.length - i) ≤ 90000 → F.length + (t.length - i) ≤ 90000 → WA n d sc t v i F W x0 r
  | 0, i, r, F, W, x0, h, hi, hw, hf => by simp [rdW] at h
  | f + 1, i, r, F, W, x0, h, hi, hw, hf => by
    by_cases h91 : t[i]? = some 91
    · rw [rdW_tk h91] at h
      cases q : rdT t f (i + 1) with
      | none => simp [q] at h
      | some rt =>
        have T := wp_tk (n := n) (d := d) (sc := sc) (t := t) (v := v) (W := W) (F := F) hn rfl x0 h91 q (by omega) (by omega)
        rw [q] at h
        cases rt with
        | bad j => cases h; exact T
        | ok tk m =>
          obtain ⟨m1, m2, x1, T⟩ := T
          simp only at h
          cases q2 : rdW t f m with
          | none => simp [q2] at h
          | some r2 =>
            have B := wp_all hn ht f (F := F ++ [.tk tk.1 tk.2]) (W := W) x1 q2 m1 (by omega) (by simp; omega)
            rw [q2] at h
            cases r2 with
            | bad j =>
              cases h
              obtain ⟨h2, B⟩ := B
              exact ⟨h2, T.trans B⟩
            | ok b j =>
              cases h
              exact B.step T (by simp [Pg.ws])
    · by_cases h40 : t[i]? = some 40
      · have l := (List.getElem?_eq_some_iff.mp h40).1
        have T := wp_us (n := n) (d := d) (sc := sc) (t := t) (v := v) (W := W) (F := F) hn x0 h40 (by omega) (by omega)
        rw [rdW, if_neg h91, if_pos h40] at h
        cases q1 : rdW t f (i + 1) with
        | none => simp [q1] at h
        | some r1 =>
          have A := wp_all hn ht f (F := F ++ [.us]) (W := false :: W) x0 q1 (by omega) (by simp; omega) (by simp; omega)
          have R1 := rdW_rw q1 (by omega)
          rw [q1] at h
          cases r1 with
          | bad j =>
            cases h
            obtain ⟨h2, A⟩ := A
            exact ⟨h2, T.trans A⟩
          | ok p j =>
            obtain ⟨A1, A2⟩ := A
            have g1 : i + 1 ≤ j := R1.le
            have g2 : j ≤ t.length := R1.len
            simp only [clo] at A1 A2
            simp only at h
            cases q2 : sg t [32] j with
            | bad k =>
              rw [q2] at h
              cases h
              obtain ⟨h2, A⟩ := A1 _ q2
              exact ⟨h2, T.trans A⟩
            | ok u j2 =>
              obtain ⟨x1, A⟩ := A2 _ _ q2
              rw [q2] at h
              simp only at h
              have g3 := (sg_ok q2).1
              have g4 := sg_le q2 g2
              simp at g3
              have wl : p.ws.length ≤ j - (i + 1) := by
                have e := (R1.ok _ _ rfl).2
                have := ws_pt p
                have z := congrArg List.length e
                unfold seg at z
                simp at z
                omega
              cases q3 : rdW t f j2 with
              | none => simp [q3] at h
              | some r2 =>
                have B := wp_all hn ht f (F := F ++ [.us] ++ p.ws) (W := true :: W) x1 q3 g4 (by simp; omega) (by simp; omega)
                have R2 := rdW_rw q3 g4
                have T2 := T.trans A
                rw [q3] at h
                cases r2 with
                | bad k =>
                  cases h
                  obtain ⟨h2, B⟩ := B
                  exact ⟨h2, T2.trans B⟩
                | ok a k =>
                  obtain ⟨B1, B2⟩ := B
                  have g6 : k ≤ t.length := R2.len
                  simp only [clo, sg] at B1 B2
                  simp only [sg] at h
                  by_cases e41 : t[k]? = some 41
                  · simp only [e41, if_true] at B1 B2 h
                    cases h
                    refine ⟨fun m e => ?_, fun u j2 e => ?_⟩
                    · obtain ⟨h2, B⟩ := B1 m e
                      exact ⟨h2, T2.trans B⟩
                    · obtain ⟨x2, B⟩ := B2 u j2 e
                      exact ⟨x2, T2.trans (B.trans (by simp [Pg.ws]))⟩
                  · simp only [e41, if_false] at B1 B2 h
                    cases h
                    obtain ⟨h2, B⟩ := B1 _ rfl
                    exact ⟨h2, T2.trans B⟩
      · have hr : r = nmR (rdN t i) := by
          rw [rdW, if_neg h91, if_neg h40] at h
          cases q1 : rdN t i with
          | bad j => rw [q1] at h; cases h; rfl
          | ok x j => rw [q1] at h; cases h; rfl
        rw [hr]
        exact wp_nm (W := W) (F := F) hn x0 h91 h40 rfl hi (by omega) (by omega)
end
section
variable {n : Nat} {t : List Nat}
theorem tup_ws (p : Pg) : mkTup (p.ws.map wv) = .p p.v := by
  have : allP (p.ws.map wv) = some (p.ws.map Wrd.v) := by
    generalize p.ws = l
    induction l with
    | nil => rfl
    | cons w l ih => simp only [List.map_cons, wv, allP] at ih ⊢; rw [ih]; rfl
  unfold mkTup; rw [this]; rfl
theorem s_wholeP {s : S} {f : Nat} {r : Rs Pg} (hn : 10 ≤ n) (ht : t.length ≤ 80000) (h : rdW t f 0 = some r) : FN prog n F_whole_program [.p (.str t)] s = ansF Pg.v s (r.whole t.length) := by
  have h1 := fun s => s_init (n := n - 2) (s := s) (t := t) (by omega)
  have A := wp_all (n := n - 2) (d := s.d) (sc := s.sc) (t := t) (v := some (.p (.str t))) (by omega) ht f (F := []) (W := []) none h (Nat.zero_le _) (by simp; omega) (by simp; omega)
  have R1 := rdW_rw h (Nat.zero_le _)
  cases r with
  | bad j =>
    obtain ⟨h2, A⟩ := A
    simp only [Rs.whole, ansF]
    simp only [pst, stkB, List.map_nil] at A
    refine callX0 (h := h2) (sc := s.sc) (by omega) rfl rfl rfl rfl rfl ?_
    simp only [rdo_eq, c0] at h1 A
    simp -dsimp [m_whole_program, h1, A, rdo_eq, new]
  | ok p j =>
    have jl : j ≤ t.length := R1.len
    obtain ⟨_, A⟩ := A
    obtain ⟨x1, A⟩ := A () j rfl
    simp only [clo, List.isEmpty_nil, Bool.not_true, List.nil_append] at A
    have h9 : ex (CN prog (n - 2)) w_whole_program_1 [some (.p (.str t)), some (.r 0), some (.r 1), some (.r 2), some (.p (.bool false)), x1] (pst t j p.ws [] s.d s.sc) = .next [some (.p (.str t)), some (.r 0), some (.r 1), some (.r 2), some (.p (.bool false)), x1] (pst t j p.ws [] s.d s.sc) := whl_done rfl (by simp -dsimp [whlC, w_whole_program_1, truth, PV.truth])
    rw [h9] at A
    have wl : p.ws.length ≤ 80000 := by
      have := ws_seg (R1.ok _ _ rfl).2
      omega
    simp only [Rs.whole]
    by_cases e : j = t.length
    · rw [if_pos e]
      simp only [ansF]
      have h3 := s_finish (n := n - 2 + 1) (s := pst t j p.ws [] s.d s.sc) (a := 0) (t := t) (by omega) rfl e
      have h4 := tup_ws p
      refine callQ (h := (pst t j p.ws [] s.d s.sc).h) (sc := s.sc) (by omega) rfl rfl rfl rfl rfl ?_
      simp only [pst, stkB, rdo_eq, c0, List.map_nil] at h1 A h3
      simp -dsimp [m_whole_program, h1, new, A, isOf, h3, biV, h4, rdo_eq, pst, stkB]
    · rw [if_neg e]
      simp only [ansF]
      have h3 := s_finishX (n := n - 2 + 1) (s := pst t j p.ws [] s.d s.sc) (a := 0) (t := t) (by omega) rfl (by omega)
      refine callX0 (h := (pst t j p.ws [] s.d s.sc).h) (sc := s.sc) (by omega) rfl rfl rfl rfl rfl ?_
      simp only [pst, stkB, rdo_eq, c0, List.map_nil, List.set_cons_zero] at h1 A h3
      simp -dsimp [m_whole_program, h1, new, A, isOf, h3, rdo_eq, pst, stkB]
theorem s_readP {s : S} {f : Nat} {r : Rs Pg} (hn : 12 ≤ n) (ht : t.length ≤ 80000) (h : rdW t f 0 = some r) (hk : ∀ p, r = .ok p t.length → p.th ∧ p.ws.length ≤ 400) : FN prog n F_read_program [.p (.str t)] s = ansF Pg.v s (r.whole t.length) := by
  have h1 := fun s => s_wholeP (n := n - 2 + 1) (s := s) (by omega) ht h
  cases q : r.whole t.length with
  | bad j =>
    rw [q] at h1
    simp only [ansF] at h1 ⊢
    refine callX0 (h := []) (sc := s.sc) (by omega) rfl rfl rfl rfl rfl ?_
    simp -dsimp [m_read_program, h1]
  | ok p j =>
    rw [q] at h1
    simp only [ansF] at h1 ⊢
    obtain ⟨e1, e2⟩ := Rs.whole_ok q
    subst e2
    obtain ⟨k1, k2⟩ := hk p e1
    have h2 := fun s => s_program_there (n := n - 2 + 1) (s := s) k1 k2 (by omega)
    refine callQ (h := []) (sc := s.sc) (by omega) rfl rfl rfl rfl rfl ?_
    simp -dsimp [m_read_program, h1, h2, truth, PV.truth]
end
end U
/-! R11: what is no text; the law's own looks at what is told. -/
namespace U
def badM : Exc := ⟨1, [(2, .int (-1))]⟩
/-- no text -/
def NS (v : Val) (s : S) : Prop := match v with
  | .p (.str _) => False
  | .p _ => True
  | .r a => (∃ xs, s.h[a]? = some (.list xs)) ∨ ∃ xs, s.h[a]? = some (.dict xs)
  | _ => False
theorem NS.isi {v : Val} {s : S} (h : NS v s) : isiAny v s [.str] = some false := by
  cases v with
  | p v => cases v <;> first | rfl | exact h.elim
  | r a => rcases h with ⟨xs, h⟩ | ⟨xs, h⟩ <;> simp [isiAny, isiV, h]
  | _ => exact h.elim
theorem NS.p {v : PV} {s s2 : S} (h : NS (.p v) s) : NS (.p v) s2 := by cases v <;> exact h
theorem NS.app {v : Val} {s : S} (h : NS v s) (g : List Obj) (d : Option Hand) (sc : List Int) : NS v ⟨s.h ++ g, d, sc⟩ := by
  cases v with
  | p v => exact h.p
  | r a =>
    rcases h with ⟨xs, h⟩ | ⟨xs, h⟩
    · exact .inl ⟨xs, by show (s.h ++ g)[a]? = _; rw [List.getElem?_append_left (lt_of_get h)]; exact h⟩
    · exact .inr ⟨xs, by show (s.h ++ g)[a]? = _; rw [List.getElem?_append_left (lt_of_get h)]; exact h⟩
  | _ => exact h.elim
theorem init_raw {n : Nat} {s : S} {v : Val} {a : Nat} (h : isiAny v s [.str] = some false) : runG loop prog (n + 2) F_Reader___init__ [.r a, v] s = .exc badM s := by
  rw [runG_eq, body_eq (F := m_Reader___init__) rfl rfl]
  simp -dsimp [m_Reader___init__, h, badM]
theorem s_initX {n : Nat} {s : S} {v : Val} (hn : 2 ≤ n) (h : NS v s) : iniOf prog (runG loop prog n) 4 [v] s = .exc badM ⟨s.h ++ [.inst 4 []], s.d, s.sc⟩ := by
  obtain ⟨m, rfl⟩ : ∃ m, n = m + 2 := ⟨n - 2, by omega⟩
  unfold iniOf
  rw [show prog.cls[4]? = some F_Reader___init__ from rfl]
  cases v with
  | p v =>
    have e1 : renum 0 [Val.r s.h.length, .p v] = [.r 0, .p v] := rfl
    have e2 : isiAny (.p v) ⟨[.inst 4 []], s.d, s.sc⟩ [.str] = some false := by
      have := h.isi
      cases v <;> first | rfl | exact h.elim
    simp only [List.all_cons, List.all_nil, Val.isP, Bool.and_self, if_true]
    unfold foot
    simp only [refs, gather]
    simp [flatA, nodup, Obj.pure, e1, init_raw e2, scatter]
  | r a =>
    have e2 := (h.app [.inst 4 []] s.d s.sc).isi
    simp only [List.all_cons, List.all_nil, Val.isP, Bool.false_and, Bool.false_eq_true, if_false]
    rw [show (prog.fns[F_Reader___init__]?).any Fn.dyn = true from rfl, if_pos rfl]
    show (runG loop prog (m + 2) F_Reader___init__ [.r s.h.length, .r a] ⟨s.h ++ [.inst 4 []], s.d, s.sc⟩).bind _ = _
    rw [init_raw e2]
    rfl
  | _ => exact h.elim
theorem fn_any {n f : Nat} {F : Fn} {e : Exc} (hf : prog.fns[f]? = some F) (hraw : F.raw = false) (hd : F.dyn = true) (hb : ∀ s v, NS v s → ∃ g, runG loop prog n f [v] s = .exc e ⟨s.h ++ g, s.d, s.sc⟩) {s : S} {v : Val} (h : NS v s) : ∃ g, FN prog n f [v] s = .exc e ⟨s.h ++ g, s.d, s.sc⟩ := by
  unfold FN fnOf
  rw [hf]
  simp only [hraw, hd, Bool.true_and, Bool.false_or]
  cases hB : footB [v] s with
  | false => exact hb s v h
  | true =>
    cases v with
    | p v =>
      obtain ⟨g, q⟩ := hb ⟨[], s.d, s.sc⟩ (.p v) h.p
      refine ⟨[], ?_⟩
      unfold foot
      simp [refs, gather, nodup, flatA, renum, q, scatter]
    | r a =>
      obtain ⟨o, ho, hl⟩ : ∃ o, s.h[a]? = some o ∧ NS (.r 0) ⟨[o], s.d, s.sc⟩ := by
        rcases h with ⟨xs, h⟩ | ⟨xs, h⟩
        · exact ⟨_, h, .inl ⟨xs, rfl⟩⟩
        · exact ⟨_, h, .inr ⟨xs, rfl⟩⟩
      have hp : o.pure = true := by
        unfold footB at hB
        simpa [refs, gather, ho, flatA] using hB
      obtain ⟨g, q⟩ := hb ⟨[o], s.d, s.sc⟩ (.r 0) hl
      refine ⟨[], ?_⟩
      unfold foot
      simp [refs, gather, ho, nodup, flatA, hp, renum, q, scatter, set_same ho]
    | _ => exact h.elim
theorem s_wholeKX {n : Nat} (hn : 6 ≤ n) {s : S} {v : Val} (h : NS v s) : ∃ g, FN prog n F_whole_kind [v] s = .exc badM ⟨s.h ++ g, s.d, s.sc⟩ := by
  obtain ⟨m, rfl⟩ : ∃ m, n = m + 2 := ⟨n - 2, by omega⟩
  refine fn_any rfl rfl rfl (fun s v h => ⟨[.inst 4 []], ?_⟩) h
  rw [runG_eq, body_eq (F := m_whole_kind) rfl rfl]
  have := s_initX (n := m) (by omega) h
  simp -dsimp [m_whole_kind, this]
theorem s_wholePX {n : Nat} (hn : 6 ≤ n) {s : S} {v : Val} (h : NS v s) : ∃ g, FN prog n F_whole_program [v] s = .exc badM ⟨s.h ++ g, s.d, s.sc⟩ := by
  obtain ⟨m, rfl⟩ : ∃ m, n = m + 2 := ⟨n - 2, by omega⟩
  refine fn_any rfl rfl rfl (fun s v h => ⟨[.inst 4 []], ?_⟩) h
  rw [runG_eq, body_eq (F := m_whole_program) rfl rfl]
  have := s_initX (n := m) (by omega) h
  simp -dsimp [m_whole_program, this]
theorem s_readKX {n : Nat} (hn : 9 ≤ n) {s : S} {v : Val} (h : NS v s) : ∃ g, FN prog n F_read_kind [v] s = .exc badM ⟨s.h ++ g, s.d, s.sc⟩ := by
  obtain ⟨m, rfl⟩ : ∃ m, n = m + 2 := ⟨n - 2, by omega⟩
  refine fn_any rfl rfl rfl (fun s v h => ?_) h
  obtain ⟨g, q⟩ := s_wholeKX (n := m + 1) (by omega) h
  refine ⟨g, ?_⟩
  rw [runG_eq, body_eq (F := m_read_kind) rfl rfl]
  simp -dsimp [m_read_kind, q]
theorem s_readPX {n : Nat} (hn : 9 ≤ n) {s : S} {v : Val} (h : NS v s) : ∃ g, FN prog n F_read_program [v] s = .exc badM ⟨s.h ++ g, s.d, s.sc⟩ := by
  obtain ⟨m, rfl⟩ : ∃ m, n = m + 2 := ⟨n - 2, by omega⟩
  refine fn_any rfl rfl rfl (fun s v h => ?_) h
  obtain ⟨g, q⟩ := s_wholePX (n := m + 1) (by omega) h
  refine ⟨g, ?_⟩
  rw [runG_eq, body_eq (F := m_read_program) rfl rfl]
  simp -dsimp [m_read_program, q]
/-! ### _law_told -/
def sTold : List Nat := [116, 111, 108, 100]
def sText : List Nat := [116, 101, 120, 116]
def tryR (x : Nat) (l : List Nat) (n k fl : Nat) (l2 : List Nat) (env : Env) : R Val → X
  | .ok v s => .next (env.set x (some (mkTup [.p (.str l), v]))) s
  | .exc e s => (match e.fs with
    | [(h, u)] => if e.cls = k ∧ h = fl ∧ n < env.length then .next ((env.set x (some (.p (.tup [.str l2, u])))).set n none) s else .bot
    | _ => .bot)
  | .bot => .bot
theorem x_try {C : Calls} {x : Nat} {l : List Nat} {c : Ex} {f : Nat} {as : Exs} {g : Nat} {bs : Exs} {n k fl : Nat} {l2 : List Nat} {env : Env} {s : S} {b : Bool} {vs : List Val} {r : R Val} (h : evT C c env s = .ok b s) (h1 : evs C as env s = .ok vs s) (h2 : evs C bs env s = .ok vs s) (h3 : C.fn (if b then f else g) vs s = r) :
    ex C (.tryT x l c f as g bs n k fl l2) env s = tryR x l n k fl l2 env r := by
  subst h3
  simp only [ex, h, h1, h2, R.quiet_ok, R.bind_ok]
  cases b <;> rfl
def toldV {α : Type} (g : α → PV) : Rs α → PV
  | .ok a _ => .tup [.str sTold, g a]
  | .bad j => .tup [.str sText, .int (j : Int)]
theorem told_of {α : Type} {n : Nat} {g : α → PV} {s : S} {t : List Nat} {b : Bool} {r : Rs α} (hn : 4 ≤ n) (h : ∀ s, FN prog (n - 2 + 1) (if b then F_read_kind else F_read_program) [.p (.str t)] s = ansF g s r) :
    FN prog n F__law_told [.p (.str t), .p (.bool b)] s = .ok (.p (toldV g r)) s := by
  refine callQ (h := []) (sc := s.sc) (by omega) rfl rfl rfl rfl rfl ?_
  have e := x_try (C := CN prog (n - 2)) (x := 2) (l := [116, 111, 108, 100]) (c := .var 1) (f := F_read_kind) (as := .cons (.var 0) .nil) (g := F_read_program) (bs := .cons (.var 0) .nil) (n := 3) (k := 1) (fl := 2) (l2 := [116, 101, 120, 116]) (env := [some (.p (.str t)), some (.p (.bool b)), some (.p (.tup [.str [111, 116, 104, 101, 114], .non])), none]) (s := ⟨[], s.d, s.sc⟩) (b := b) (vs := [.p (.str t)]) (by simp -dsimp [truth, PV.truth]) (by simp -dsimp) (by simp -dsimp) (h _)
  cases r with
  | ok a j => simp -dsimp [ansF, tryR] at e; simp -dsimp [m__law_told, e, toldV, sTold]
  | bad j => simp -dsimp [ansF, tryR, badE] at e; simp -dsimp [m__law_told, e, toldV, sText]
theorem s_toldX {n : Nat} (hn : 12 ≤ n) {s : S} {v : Val} {b : Bool} (h : NS v s) : ∃ g, FN prog n F__law_told [v, .p (.bool b)] s = .ok (.p (.tup [.str sText, .int (-1)])) ⟨s.h ++ g, s.d, s.sc⟩ := by
  obtain ⟨m, rfl⟩ : ∃ m, n = m + 2 := ⟨n - 2, by omega⟩
  have hb : ∀ s v, NS v s → ∃ g, runG loop prog (m + 2) F__law_told [v, .p (.bool b)] s = .ok (.p (.tup [.str sText, .int (-1)])) ⟨s.h ++ g, s.d, s.sc⟩ := by
    intro s v h
    have hr : ∃ g, FN prog (m + 1) (if b then F_read_kind else F_read_program) [v] s = .exc badM ⟨s.h ++ g, s.d, s.sc⟩ := by
      cases b
      · exact s_readPX (by omega) h
      · exact s_readKX (by omega) h
    obtain ⟨g, q⟩ := hr
    refine ⟨g, ?_⟩
    rw [runG_eq, body_eq (F := m__law_told) rfl rfl]
    have e := x_try (C := CN prog m) (x := 2) (l := [116, 111, 108, 100]) (c := .var 1) (f := F_read_kind) (as := .cons (.var 0) .nil) (g := F_read_program) (bs := .cons (.var 0) .nil) (n := 3) (k := 1) (fl := 2) (l2 := [116, 101, 120, 116]) (env := [some v, some (.p (.bool b)), some (.p (.tup [.str [111, 116, 104, 101, 114], .non])), none]) (s := s) (b := b) (vs := [v]) (by simp -dsimp [truth, PV.truth]) (by simp -dsimp) (by simp -dsimp) q
    simp -dsimp [tryR, badM] at e
    simp -dsimp [m__law_told, e, sText]
  unfold FN fnOf
  rw [show prog.fns[F__law_told]? = some m__law_told from rfl]
  simp only [show m__law_told.raw = false from rfl, show m__law_told.dyn = true from rfl, Bool.true_and, Bool.false_or]
  cases hB : footB [v, .p (.bool b)] s with
  | false => exact hb s v h
  | true =>
    cases v with
    | p v =>
      obtain ⟨g, q⟩ := hb ⟨[], s.d, s.sc⟩ (.p v) h.p
      refine ⟨[], ?_⟩
      unfold foot
      simp [refs, gather, nodup, flatA, renum, q, scatter, landV]
    | r a =>
      obtain ⟨o, ho, hl⟩ : ∃ o, s.h[a]? = some o ∧ NS (.r 0) ⟨[o], s.d, s.sc⟩ := by
        rcases h with ⟨xs, h⟩ | ⟨xs, h⟩
        · exact ⟨_, h, .inl ⟨xs, rfl⟩⟩
        · exact ⟨_, h, .inr ⟨xs, rfl⟩⟩
      have hp : o.pure = true := by
        unfold footB at hB
        simpa [refs, gather, ho, flatA] using hB
      obtain ⟨g, q⟩ := hb ⟨[o], s.d, s.sc⟩ (.r 0) hl
      refine ⟨[], ?_⟩
      unfold foot
      simp [refs, gather, ho, nodup, flatA, hp, renum, q, scatter, set_same ho, landV]
    | _ => exact h.elim
end U
/-! R12: what is due. -/
namespace U
theorem cmQ_ieq (a b : Int) (s : S) : cmpV .eq (.p (.int a)) (.p (.int b)) s = some (a == b) := by simp [cmpV, cmpP, PV.dep, PV.eq]
theorem due_of {α : Type} {n : Nat} {g : α → PV} {s : S} {t : List Nat} {b : Bool} {r : Rs α} (hn : 4 ≤ n) (hg : ∀ a s, cmpV .is_ (.p (g a)) (.p .non) s = some false) (h : ∀ s, FN prog (n - 2 + 1) (if b then F__law_read_kind else F__law_read_words) [.p (.str t), .p (.int ((0 : Nat) : Int))] s = .ok (.p (rsV g r)) s) :
    FN prog n F__law_due [.p (.str t), .p (.bool b)] s = .ok (.p (toldV g (r.whole t.length))) s := by
  refine callQ (h := []) (sc := s.sc) (by omega) rfl rfl rfl rfl rfl ?_
  cases r with
  | bad j =>
    have e3 : -(-((j : Int) + 1)) - 1 = (j : Int) := by omega
    cases b <;> simp -dsimp [c0] at h <;> simp -dsimp [m__law_due, isiAny, isiV, tyP, truth, PV.truth, h, rsV, cmQ_is, binop, binP, e3, toldV, Rs.whole, sText]
  | ok a j =>
    simp only [Rs.whole]
    by_cases e : j = t.length
    · subst e
      cases b <;> simp -dsimp [c0] at h <;> simp -dsimp [m__law_due, isiAny, isiV, tyP, truth, PV.truth, h, rsV, hg, biV, lenV, cmQ_ieq, toldV, sTold]
    · have e1 : ((j : Int) == (t.length : Int)) = false := by rw [beq_eq_false_iff_ne]; omega
      rw [if_neg e]
      cases b <;> simp -dsimp [c0] at h <;> simp -dsimp [m__law_due, isiAny, isiV, tyP, truth, PV.truth, h, rsV, hg, biV, lenV, cmQ_ieq, e1, toldV, sText]
end U
/-! R13: sizes: how deep a text can lead. -/
namespace U
/-! ### counts -/
def nf (p : Nat → Bool) (l : List Nat) : Nat := (l.filter p).length
theorem nf_app (p : Nat → Bool) (a b : List Nat) : nf p (a ++ b) = nf p a + nf p b := by simp [nf]
theorem nf_take (p : Nat → Bool) (l : List Nat) (a b : Nat) (h : a ≤ b) : nf p (l.take a) + nf p (l.drop b) ≤ nf p l := by
  have e : l = l.take a ++ ((l.drop a).take (b - a) ++ l.drop b) := by
    have := List.take_append_drop (b - a) (l.drop a)
    rw [List.drop_drop, show a + (b - a) = b by omega] at this
    rw [this, List.take_append_drop]
  have z := congrArg (nf p) e
  rw [nf_app, nf_app] at z
  omega
theorem up_nf (l : List Nat) : up l = nf (fun c => c == 40 || c == 62) l := rfl
theorem cb_nf (l : List Nat) : cb l = nf (fun c => c == 40 || c == 91) l := rfl
theorem cg_nf (l : List Nat) : cg l = nf (fun c => c == 62) l := rfl
/-! ### a stack's height -/
def stp : List Nat → Nat → List Nat
  | [], _ => []
  | x :: r, c => if c = 40 then 1 :: x :: r else if c = 62 then (x + 1) :: r else if c = 41 then (if r = [] then [0] else r) else x :: r
def rn (st u : List Nat) : List Nat := u.foldl stp st
theorem rn_app (st u v : List Nat) : rn st (u ++ v) = rn (rn st u) v := by simp [rn]
def vl (u : List Nat) : Nat := (rn [0] u).sum
theorem stp_ne {st : List Nat} {c : Nat} (h : st ≠ []) : stp st c ≠ [] := by
  cases st with
  | nil => exact absurd rfl h
  | cons x r =>
    simp only [stp]
    by_cases h40 : c = 40
    · simp [h40]
    · by_cases h62 : c = 62
      · simp [h62]
      · by_cases h41 : c = 41
        · by_cases hr : r = []
          · simp [h41, hr]
          · simp [h41, hr]
        · simp [h40, h62, h41]
theorem rn_ne : ∀ (u : List Nat) {st : List Nat}, st ≠ [] → rn st u ≠ []
  | [], st, h => h
  | c :: u, st, h => rn_ne u (stp_ne h)
theorem glue1 (c : Nat) (i : List Nat) (y x : Nat) (r : List Nat) : ∃ i' y' x' r', stp (i ++ (y + x) :: r) c = i' ++ (y' + x') :: r' ∧ stp (i ++ [y]) c = i' ++ [y'] ∧ x' + r'.sum ≤ x + r.sum := by
  cases i with
  | nil =>
    simp only [List.nil_append, stp]
    by_cases h40 : c = 40
    · rw [if_pos h40, if_pos h40]; exact ⟨[1], y, x, r, rfl, rfl, Nat.le_refl _⟩
    · by_cases h62 : c = 62
      · rw [if_neg h40, if_neg h40, if_pos h62, if_pos h62]
        exact ⟨[], y + 1, x, r, by rw [show y + x + 1 = y + 1 + x by omega]; rfl, rfl, Nat.le_refl _⟩
      · by_cases h41 : c = 41
        · rw [if_neg h40, if_neg h40, if_neg h62, if_neg h62, if_pos h41, if_pos h41]
          cases r with
          | nil => exact ⟨[], 0, 0, [], by simp, by simp, by simp⟩
          | cons z r => exact ⟨[], 0, z, r, by simp, by simp, by simp⟩
        · rw [if_neg h40, if_neg h40, if_neg h62, if_neg h62, if_neg h41, if_neg h41]
          exact ⟨[], y, x, r, rfl, rfl, Nat.le_refl _⟩
  | cons a i =>
    simp only [List.cons_append, stp]
    by_cases h40 : c = 40
    · rw [if_pos h40, if_pos h40]; exact ⟨1 :: a :: i, y, x, r, rfl, rfl, Nat.le_refl _⟩
    · by_cases h62 : c = 62
      · rw [if_neg h40, if_neg h40, if_pos h62, if_pos h62]
        exact ⟨(a + 1) :: i, y, x, r, rfl, rfl, Nat.le_refl _⟩
      · by_cases h41 : c = 41
        · rw [if_neg h40, if_neg h40, if_neg h62, if_neg h62, if_pos h41, if_pos h41, if_neg (by simp), if_neg (by simp)]
          exact ⟨i, y, x, r, rfl, rfl, Nat.le_refl _⟩
        · rw [if_neg h40, if_neg h40, if_neg h62, if_neg h62, if_neg h41, if_neg h41]
          exact ⟨a :: i, y, x, r, rfl, rfl, Nat.le_refl _⟩
theorem glue : ∀ (u : List Nat) (i : List Nat) (y x : Nat) (r : List Nat), ∃ i' y' x' r', rn (i ++ (y + x) :: r) u = i' ++ (y' + x') :: r' ∧ rn (i ++ [y]) u = i' ++ [y'] ∧ x' + r'.sum ≤ x + r.sum
  | [], i, y, x, r => ⟨i, y, x, r, rfl, rfl, Nat.le_refl _⟩
  | c :: u, i, y, x, r => by
    obtain ⟨i1, y1, x1, r1, e1, e2, e3⟩ := glue1 c i y x r
    obtain ⟨i2, y2, x2, r2, f1, f2, f3⟩ := glue u i1 y1 x1 r1
    exact ⟨i2, y2, x2, r2, by show rn (stp _ c) u = _; rw [e1, f1], by show rn (stp _ c) u = _; rw [e2, f2], by omega⟩
theorem vl_both (u v : List Nat) : vl (u ++ v) ≤ vl u + vl v ∧ vl v ≤ vl (u ++ v) := by
  unfold vl
  rw [rn_app]
  obtain ⟨x, r, e⟩ : ∃ x r, rn [0] u = x :: r := by
    cases e : rn [0] u with
    | nil => exact absurd e (rn_ne u (by simp))
    | cons x r => exact ⟨x, r, rfl⟩
  obtain ⟨i, y, x', r', e1, e2, e3⟩ := glue v [] 0 x r
  simp only [List.nil_append, Nat.zero_add] at e1 e2
  rw [e, e1, e2]
  simp
  omega
def Bd (u : List Nat) (B : Nat) : Prop := ∀ a, vl (u.take a) ≤ B
theorem Bd.take {u : List Nat} {B : Nat} (h : Bd u B) (b : Nat) : Bd (u.take b) B := fun a => by rw [List.take_take]; exact h _
theorem Bd.drop {u : List Nat} {B : Nat} (h : Bd u B) (b : Nat) : Bd (u.drop b) B := fun a => by
  have := h (b + a)
  rw [List.take_add] at this
  exact Nat.le_trans (vl_both _ _).2 this
theorem take_ind {P : List Nat → Prop} {u v : List Nat} (h1 : ∀ a, P (u.take a)) (h2 : ∀ a, P (u ++ v.take a)) (a : Nat) : P ((u ++ v).take a) := by
  by_cases h : a ≤ u.length
  · rw [List.take_append_of_le_length h]; exact h1 a
  · have := h2 (a - u.length)
    rw [List.take_append, List.take_of_length_le (by omega)]; exact this
theorem Bd.app {u v : List Nat} {B C : Nat} (h : Bd u B) (h' : Bd v C) : Bd (u ++ v) (B + C) := by
  refine take_ind (P := fun l => vl l ≤ B + C) (fun a => Nat.le_trans (h a) (by omega)) fun a => ?_
  have h1 := h u.length
  rw [List.take_length] at h1
  have := (vl_both u (v.take a)).1
  have := h' a
  omega
theorem Bd.of {u : List Nat} {B : Nat} (h : ∀ a, a < u.length + 1 → vl (u.take a) ≤ B) : Bd u B := fun a => by
  by_cases l : a < u.length + 1
  · exact h a l
  · rw [List.take_of_length_le (by omega)]
    have := h u.length (by omega)
    rwa [List.take_length] at this
theorem rn_arr (x : Nat) (r : List Nat) : rn (x :: r) arr = (x + 1) :: r := rfl
/-- a kind's text on a stack -/
structure Pot (k : Kd) (x : Nat) (r : List Nat) : Prop where
  up_ : ∀ a, (rn (x :: r) (k.kt.take a)).sum ≤ x + r.sum + k.dep
  end_ : ∃ m, m ≤ k.dep ∧ rn (x :: r) k.kt = (x + m) :: r
  lo : ∃ a, a ≤ k.kt.length ∧ x + r.sum + k.dep ≤ (rn (x :: r) (k.kt.take a)).sum
theorem rn_c (n : Fin 26) (x : Nat) (r : List Nat) : rn (x :: r) [97 + n.val] = x :: r := by
  have h1 : ¬ 97 + n.val = 40 := by omega
  have h2 : ¬ 97 + n.val = 62 := by omega
  have h3 : ¬ 97 + n.val = 41 := by omega
  simp [rn, stp, h1, h2, h3]
theorem pot_atx {l : Kd} (h : ∀ x r, Pot l x r) (x : Nat) (r : List Nat) : rn (x :: r) l.atx = x :: r ∧ (∀ a, (rn (x :: r) (l.atx.take a)).sum ≤ x + r.sum + l.dep + 1) ∧ (l.isF = true → ∃ a, x + r.sum + l.dep + 1 ≤ (rn (x :: r) (l.atx.take a)).sum) := by
  cases l with
  | c n =>
    refine ⟨rn_c n x r, fun a => ?_, nofun⟩
    cases a with
    | zero => simp [rn]; omega
    | succ a => 
      have : (Kd.c n).atx.take (a + 1) = [97 + n.val] := by simp [Kd.atx, Kd.isF, Kd.kt]
      rw [this, rn_c]; simp; omega
  | f u w =>
    have P := h 1 (x :: r)
    obtain ⟨m, hm, e⟩ := P.end_
    have ea : (Kd.f u w).atx = [40] ++ ((Kd.f u w).kt ++ [41]) := rfl
    have e40 : rn (x :: r) [40] = 1 :: x :: r := rfl
    refine ⟨?_, ?_, fun _ => ?_⟩
    · rw [ea, rn_app, rn_app, e40, e]; simp [rn, stp]
    · rw [ea]
      refine take_ind (P := fun l => (rn (x :: r) l).sum ≤ _) (fun a => ?_) ?_
      · cases a with
        | zero => simp [rn]; omega
        | succ a => simp [rn, stp]; omega
      · intro a
        rw [rn_app, e40]
        refine take_ind (P := fun l => (rn (1 :: x :: r) l).sum ≤ _) (fun a => ?_) (fun a => ?_) a
        · have := P.up_ a
          simp at this; omega
        · rw [rn_app, e]
          cases a with
          | zero => simp [rn]; omega
          | succ a => simp [rn, stp]; omega
    · obtain ⟨a, hl, ha⟩ := P.lo
      refine ⟨a + 1, ?_⟩
      have : (Kd.f u w).atx.take (a + 1) = [40] ++ ((Kd.f u w).kt ++ [41]).take a := by rw [ea]; simp
      rw [this, rn_app, e40, List.take_append_of_le_length hl]
      simp at ha; omega
theorem pot : ∀ (k : Kd) (x : Nat) (r : List Nat), Pot k x r
  | .c n, x, r => ⟨fun a => by
      cases a with
      | zero => simp [rn, Kd.dep]
      | succ a =>
        have : (Kd.c n).kt.take (a + 1) = [97 + n.val] := by simp [Kd.kt]
        rw [this, rn_c]; simp [Kd.dep], ⟨0, by simp, rn_c n x r⟩, ⟨0, Nat.zero_le _, by simp [rn, Kd.dep]⟩⟩
  | .f l q, x, r => by
    obtain ⟨a1, a2, a3⟩ := pot_atx (fun x r => pot l x r) x r
    have Q := pot q (x + 1) r
    have ed : (Kd.f l q).dep = max l.dep q.dep + 1 := rfl
    refine ⟨?_, ?_, ?_⟩
    · rw [kt_f]
      refine take_ind (P := fun l => (rn (x :: r) l).sum ≤ _) (fun a => ?_) ?_
      · have := a2 a; omega
      · intro a
        rw [rn_app, a1]
        refine take_ind (P := fun l => (rn (x :: r) l).sum ≤ _) (fun a => ?_) (fun a => ?_) a
        · rcases a with _ | _ | _ | a <;> simp [rn, stp, arr] <;> omega
        · rw [rn_app, rn_arr]
          have := Q.up_ a
          omega
    · obtain ⟨m, hm, e⟩ := Q.end_
      refine ⟨m + 1, by omega, ?_⟩
      rw [kt_f, rn_app, rn_app, a1, rn_arr, e]
      congr 1; omega
    · by_cases hq : l.dep ≤ q.dep
      · obtain ⟨a, hl, ha⟩ := Q.lo
        refine ⟨l.atx.length + (arr.length + a), by rw [kt_f]; simp; omega, ?_⟩
        rw [kt_f, List.take_length_add_append, List.take_length_add_append, rn_app, rn_app, a1, rn_arr]
        omega
      · have hF : l.isF = true := by
          cases l with
          | c _ => simp [Kd.dep] at hq
          | f _ _ => rfl
        obtain ⟨a, ha⟩ := a3 hF
        refine ⟨min a l.atx.length, by rw [kt_f]; simp; omega, ?_⟩
        rw [kt_f, List.take_append_of_le_length (by omega)]
        have : l.atx.take (min a l.atx.length) = l.atx.take a := by
          by_cases h : a ≤ l.atx.length
          · rw [Nat.min_eq_left h]
          · rw [Nat.min_eq_right (by omega), List.take_of_length_le (by omega), List.take_of_length_le (by omega)]
        rw [this]
        omega
theorem kt_Bd (k : Kd) : Bd k.kt k.dep := fun a => by
  have := (pot k 0 []).up_ a
  simpa [vl] using this
theorem Bd_dep {k : Kd} {B : Nat} (h : Bd k.kt B) : k.dep ≤ B := by
  obtain ⟨a, _, ha⟩ := (pot k 0 []).lo
  have := h a
  unfold vl at this
  simp at ha
  omega
end U
/-! R14: bent texts; kinds' sizes. -/
namespace U
def w2 (l : List Nat) : Nat := 2 * nf (fun c => c == 40) l + nf (fun c => c == 91) l
structure Lit (l : List Nat) : Prop where
  len : l.length ≤ 9
  up_ : up l ≤ 1
  cb_ : cb l ≤ 1
  cg_ : cg l ≤ 1
  w2_ : w2 l ≤ 2
  bd : Bd l 1
/-- a piece put in the place of another -/
def Put (t t2 : List Nat) : Prop := ∃ a b l, a ≤ b ∧ Lit l ∧ t2 = t.take a ++ (l ++ t.drop b)
def Bent (t t2 : List Nat) : Prop := Put t t2 ∨ t2 = t ++ t
theorem put_nf {t t2 : List Nat} {p : Nat → Bool} {m : Nat} (hm : ∀ l, Lit l → nf p l ≤ m) (h : Put t t2) : nf p t2 ≤ nf p t + m := by
  obtain ⟨a, b, l, hab, hl, rfl⟩ := h
  have h1 := nf_take p t a b hab
  have h2 := hm l hl
  rw [nf_app, nf_app]
  omega
theorem bent_nf {t t2 : List Nat} {p : Nat → Bool} {m : Nat} (hm : ∀ l, Lit l → nf p l ≤ m) (h : Bent t t2) : nf p t2 ≤ 2 * nf p t + m := by
  rcases h with h | rfl
  · have := put_nf hm h; omega
  · rw [nf_app]; omega
theorem put_cg {t t2 : List Nat} (h : Put t t2) : cg t2 ≤ cg t + 1 := put_nf (fun l h => h.cg_) h
theorem bent_cg {t t2 : List Nat} (h : Bent t t2) : cg t2 ≤ 2 * cg t + 1 := bent_nf (fun l h => h.cg_) h
theorem bent_up {t t2 : List Nat} (h : Bent t t2) : up t2 ≤ 2 * up t + 1 := bent_nf (fun l h => h.up_) h
theorem bent_len {t t2 : List Nat} (h : Bent t t2) : t2.length ≤ 2 * t.length + 9 := by
  rcases h with ⟨a, b, l, hab, hl, rfl⟩ | rfl
  · have := hl.len
    simp; omega
  · simp; omega
theorem bent_Bd {t t2 : List Nat} {B : Nat} (h : Bent t t2) (hb : Bd t B) : Bd t2 (2 * B + 1) := by
  rcases h with ⟨a, b, l, hab, hl, rfl⟩ | rfl
  · have := (hb.take a).app (hl.bd.app (hb.drop b))
    intro c
    have := this c
    omega
  · intro c
    have := (hb.app hb) c
    omega
/-- bent once or twice -/
def Bents (t t2 : List Nat) : Prop := Bent t t2 ∨ ∃ t1, Bent t t1 ∧ Bent t1 t2
theorem Lit.of {l : List Nat} (h1 : l.length ≤ 9) (h2 : up l ≤ 1) (h3 : cb l ≤ 1) (h4 : cg l ≤ 1) (h5 : w2 l ≤ 2) (h6 : ∀ a, a < l.length + 1 → vl (l.take a) ≤ 1) : Lit l := ⟨h1, h2, h3, h4, h5, Bd.of h6⟩
/-! ### a kind's counts -/
theorem nf_cons (p : Nat → Bool) (c : Nat) (l : List Nat) : nf p (c :: l) = (if p c = true then 1 else 0) + nf p l := by
  unfold nf
  rw [List.filter_cons]
  split <;> simp; omega
theorem nf_kt (p : Nat → Bool) (k : Kd) : nf p k.atx = nf p k.kt + (if k.isF = true then nf p [40, 41] else 0) := by
  cases k with
  | c _ => simp [Kd.atx, Kd.isF]
  | f a b =>
    simp only [Kd.atx, Kd.isF, if_true]
    rw [show (40 :: ((Kd.f a b).kt ++ [41])) = [40] ++ ((Kd.f a b).kt ++ [41]) from rfl, nf_app, nf_app, show [40, 41] = [40] ++ [41] from rfl, nf_app]
    omega
theorem cg_kt : ∀ k : Kd, cg k.kt + 1 = k.lets
  | .c n => by
    have : ¬ 97 + n.val = 62 := by omega
    simp [cg, Kd.kt, Kd.lets, this]
  | .f l r => by
    have h1 := cg_kt l
    have h2 := cg_kt r
    have h3 := nf_kt (fun c => c == 62) l
    rw [kt_f, cg_nf, nf_app, nf_app, h3]
    simp only [cg_nf] at h1 h2
    have e1 : nf (fun c => c == 62) arr = 1 := rfl
    have e2 : nf (fun c => c == 62) [40, 41] = 0 := rfl
    rw [e1, e2]
    simp only [Kd.lets, ite_self]
    omega
theorem sm_kt : ∀ k : Kd, nf isSm k.kt = k.lets
  | .c n => by
    have : isSm (97 + n.val) = true := isSm_fin n
    simp [nf, Kd.kt, Kd.lets, this]
  | .f l r => by
    have h1 := sm_kt l
    have h2 := sm_kt r
    have h3 := nf_kt isSm l
    have e1 : nf isSm arr = 0 := rfl
    have e2 : nf isSm [40, 41] = 0 := rfl
    rw [kt_f, nf_app, nf_app, h3, e1, e2, h1, h2]
    simp [Kd.lets]
theorem up_kt : ∀ k : Kd, up k.kt + 2 ≤ 2 * k.lets
  | .c n => by
    have h1 : ¬ 97 + n.val = 62 := by omega
    have h2 : ¬ 97 + n.val = 40 := by omega
    simp [up, Kd.kt, Kd.lets, h1, h2]
  | .f l r => by
    have h1 := up_kt l
    have h2 := up_kt r
    have h3 := nf_kt (fun c => c == 40 || c == 62) l
    rw [kt_f, up_nf, nf_app, nf_app, h3]
    simp only [up_nf] at h1 h2
    have e1 : nf (fun c => c == 40 || c == 62) arr = 1 := rfl
    have e2 : nf (fun c => c == 40 || c == 62) [40, 41] = 1 := rfl
    rw [e1, e2]
    simp only [Kd.lets]
    split <;> omega
theorem Kd.dep_lets : ∀ k : Kd, k.dep + 1 ≤ k.lets
  | .c _ => by simp [Kd.dep, Kd.lets]
  | .f a b => by
    have h1 := a.dep_lets
    have h2 := b.dep_lets
    have h3 := a.lets_pos
    have h4 := b.lets_pos
    simp only [Kd.dep, Kd.lets]
    omega
theorem lets16 {k : Kd} (h : k.dep ≤ 4) : k.lets ≤ 16 := Nat.le_trans k.lets_dep (Nat.pow_le_pow_right (by omega) h)
theorem kt_not_double (k : Kd) (u : List Nat) : k.kt ≠ u ++ u := fun e => by
  have h1 := cg_kt k
  have h2 := sm_kt k
  rw [e, cg_nf, nf_app] at h1
  rw [e, nf_app] at h2
  omega
theorem kd_sizes {k : Kd} (hk : k.dep ≤ 4) {t : List Nat} (h : Bents k.kt t) : t.length ≤ 2000 ∧ up t ≤ 130 ∧ ∀ q : Kd, t = q.kt → q.th := by
  have l16 := lets16 hk
  have g0 := cg_kt k
  have u0 := up_kt k
  have n0 := k.kt_len
  have b0 := kt_Bd k
  rcases h with h | ⟨t1, h1, h⟩
  · refine ⟨by have := bent_len h; omega, by have := bent_up h; omega, fun q e => ?_⟩
    have hb := bent_Bd h b0
    have hp := h.resolve_right (fun z => kt_not_double q k.kt (by rw [← e, z]))
    have hg := put_cg hp
    have gq := cg_kt q
    subst e
    have := Bd_dep hb
    exact ⟨by omega, by omega⟩
  · have hl1 := bent_len h1
    have hu1 := bent_up h1
    have hg1 := bent_cg h1
    refine ⟨by have := bent_len h; omega, by have := bent_up h; omega, fun q e => ?_⟩
    have hb := bent_Bd h (bent_Bd h1 b0)
    have hp := h.resolve_right (fun z => kt_not_double q t1 (by rw [← e, z]))
    have hg := put_cg hp
    have gq := cg_kt q
    subst e
    have := Bd_dep hb
    exact ⟨by omega, by omega⟩
end U
/-! R15: written texts are read; programs' sizes. -/
namespace U
section
variable {t : List Nat}
theorem drop_get {i c : Nat} {r : List Nat} (h : t.drop i = c :: r) : t[i]? = some c := drop_cons_get h
theorem sg_app {cs r : List Nat} : ∀ {i : Nat}, t.drop i = cs ++ r → sg t cs i = .ok () (i + cs.length) := by
  induction cs with
  | nil => intro i _; simp [sg]
  | cons c cs ih =>
    intro i h
    have h : t.drop i = c :: (cs ++ r) := h
    simp only [sg, drop_get h, if_true]
    rw [ih (drop_tail h).1]
    simp; omega
theorem smF_fin (n : Fin 26) (h : isSm (97 + n.val) = true) : smF (97 + n.val) h = n := by
  apply Fin.ext; simp [smF]
theorem atx_f (a b : Kd) : (Kd.f a b).atx = 40 :: (a.atx ++ (arr ++ (b.kt ++ [41]))) := by
  show 40 :: ((Kd.f a b).kt ++ [41]) = _
  rw [kt_f]; simp
theorem read_K : ∀ (k : Kd), (∀ (i : Nat) (rest : List Nat), t.drop i = k.atx ++ rest → ∃ d, rdA t d i = some (.ok k (i + k.atx.length))) ∧
    (∀ (i : Nat) (rest : List Nat), t.drop i = k.kt ++ rest → rest.head? ≠ some 32 → ∃ d, rdK t d i = some (.ok k (i + k.kt.length)))
  | .c n => by
    have hs : isSm (97 + n.val) = true := isSm_fin n
    have A : ∀ (i : Nat) (rest : List Nat), t.drop i = (97 + n.val) :: rest → rdA t 1 i = some (.ok (.c n) (i + 1)) := fun i rest h => by
      have h40 : ¬ 97 + n.val = 40 := by omega
      simp only [rdA, drop_get h, h40, if_false, hs, dif_pos]
      rw [smF_fin n hs]
    refine ⟨fun i rest h => ⟨1, A i rest h⟩, fun i rest h hr => ⟨2, ?_⟩⟩
    have h : t.drop i = (97 + n.val) :: rest := h
    have e1 := A i rest h
    have e2 : t[i + 1]? ≠ some 32 ∧ t[i]? ≠ some 40 := by
      constructor
      · rw [← List.head?_drop, (drop_tail h).1]; exact hr
      · rw [drop_get h]; simp; omega
    show rdK t (1 + 1) i = _
    rw [rdK, e1]
    simp only
    rw [if_pos e2]
    rfl
  | .f a b => by
    obtain ⟨aA, aK⟩ := read_K a
    obtain ⟨bA, bK⟩ := read_K b
    have K : ∀ (i : Nat) (rest : List Nat), t.drop i = (Kd.f a b).kt ++ rest → rest.head? ≠ some 32 → ∃ d, rdA t d i = some (.ok a (i + a.atx.length)) ∧ rdK t d (i + a.atx.length + 3) = some (.ok b (i + (Kd.f a b).kt.length)) := fun i rest h hr => by
      have h : t.drop i = a.atx ++ (arr ++ (b.kt ++ rest)) := by rw [h, kt_f]; simp
      obtain ⟨d1, q1⟩ := aA i _ h
      have h2 := drop_more h
      have h3 := drop_more h2
      obtain ⟨d2, q2⟩ := bK _ rest h3 hr
      refine ⟨max d1 d2, rdA_mono q1 (Nat.le_max_left _ _), ?_⟩
      have := rdK_mono q2 (Nat.le_max_right d1 d2)
      rw [kt_f, show i + a.atx.length + 3 = i + a.atx.length + arr.length from rfl, this]
      simp; omega
    refine ⟨fun i rest h => ?_, fun i rest h hr => ?_⟩
    · have h : t.drop i = 40 :: ((Kd.f a b).kt ++ 41 :: rest) := by rw [h, atx_f, kt_f]; simp
      have h1 := (drop_tail h).1
      obtain ⟨d, q1, q2⟩ := K (i + 1) _ h1 (by simp)
      have h3 : t.drop (i + 1) = a.atx ++ (arr ++ (b.kt ++ 41 :: rest)) := by rw [h1, kt_f]; simp
      have s1 := sg_app (drop_more h3)
      have s2 := sg_app (cs := [41]) (r := rest) (drop_more h1)
      refine ⟨d + 1, ?_⟩
      rw [rdA]
      simp only [drop_get h, if_true, q1, s1]
      rw [show arr.length = 3 from rfl, q2]
      simp only [s2]
      rw [show (Kd.f a b).atx.length = (Kd.f a b).kt.length + 2 by rw [show (Kd.f a b).atx = 40 :: ((Kd.f a b).kt ++ [41]) from rfl]; simp]
      congr 2
      simp; omega
    · obtain ⟨d, q1, q2⟩ := K i _ h hr
      have h3 : t.drop i = a.atx ++ (arr ++ (b.kt ++ rest)) := by rw [h, kt_f]; simp
      have s1 := sg_app (drop_more h3)
      have e2 : ¬ (t[i + a.atx.length]? ≠ some 32 ∧ t[i]? ≠ some 40) := fun z => z.1 (drop_get (r := 62 :: 32 :: (b.kt ++ rest)) (drop_more h3))
      refine ⟨d + 1, ?_⟩
      rw [rdK, q1]
      simp only
      rw [if_neg e2, s1]
      simp only
      rw [show arr.length = 3 from rfl, q2]
theorem tw_sm {x r : List Nat} (h : ∀ c ∈ x, isSm c = true) (hr : smH r = false) : (x ++ r).takeWhile isSm = x := by
  induction x with
  | nil =>
    cases r with
    | nil => rfl
    | cons c r => simp only [smH] at hr; simp [List.takeWhile_cons, hr]
  | cons c x ih =>
    rw [List.cons_append, List.takeWhile_cons, h c List.mem_cons_self, if_pos rfl, ih fun c hc => h c (List.mem_cons_of_mem _ hc)]
theorem Nm.ext2 {x y : Nm} (h : x.s = y.s) : x = y := by cases x; cases y; simp only at h; subst h; rfl
theorem read_N {x : Nm} {i : Nat} {rest : List Nat} (h : t.drop i = x.s ++ rest) (hr : smH rest = false) : rdN t i = .ok x (i + x.s.length) := by
  have e : nmAt t i = x.s := by
    unfold nmAt
    rw [h, tw_sm x.hs hr, List.take_of_length_le x.h8]
  unfold rdN
  have h0 : ¬ nmAt t i = [] := by
    rw [e]; intro z; have := x.h1; rw [z] at this; simp at this
  rw [dif_neg h0]
  congr 1
  · exact Nm.ext2 e
  · rw [e]
theorem read_W : ∀ (p : Pg) (i : Nat) (rest : List Nat), t.drop i = p.pt ++ rest → smH rest = false → ∃ d, rdW t d i = some (.ok p (i + p.pt.length))
  | .nm x, i, rest, h, hr => by
    have h : t.drop i = x.s ++ rest := h
    obtain ⟨c, r, ec, c1, c2⟩ := nm_head x
    have hg : t[i]? = some c := drop_get (r := r ++ rest) (by rw [h, ec]; rfl)
    refine ⟨1, ?_⟩
    rw [rdW, if_neg (by rw [hg]; simpa using c2), if_neg (by rw [hg]; simpa using c1), read_N h hr]
    rfl
  | .tk x k b, i, rest, h, hr => by
    have h0 : t.drop i = 91 :: (x.s ++ ([58] ++ (k.kt ++ ([93, 32] ++ (b.pt ++ rest))))) := by rw [h]; simp [Pg.pt]
    have h1 := (drop_tail h0).1
    have h2 := drop_more h1
    have h3 := drop_more h2
    have h4 := drop_more h3
    have h5 := drop_more h4
    have n1 := read_N h1 rfl
    have s2 := sg_app h2
    obtain ⟨d1, q1⟩ := (read_K k).2 _ _ h3 (by simp)
    have s4 := sg_app h4
    obtain ⟨d2, q2⟩ := read_W b _ rest h5 hr
    have m1 := rdK_mono q1 (Nat.le_max_left d1 d2)
    have m2 := rdW_mono q2 (Nat.le_max_right d1 d2)
    refine ⟨max d1 d2 + 1, ?_⟩
    rw [rdW, if_pos (drop_get h0), n1]
    simp only [s2, m1, s4, m2]
    congr 2
    simp [Pg.pt]; omega
  | .us f a, i, rest, h, hr => by
    have h0 : t.drop i = 40 :: (f.pt ++ ([32] ++ (a.pt ++ ([41] ++ rest)))) := by rw [h]; simp [Pg.pt]
    have h1 := (drop_tail h0).1
    have h2 := drop_more h1
    have h3 := drop_more h2
    have h4 := drop_more h3
    obtain ⟨d1, q1⟩ := read_W f _ _ h1 rfl
    have s2 := sg_app h2
    obtain ⟨d2, q2⟩ := read_W a _ _ h3 rfl
    have s4 := sg_app h4
    have m1 := rdW_mono q1 (Nat.le_max_left d1 d2)
    have m2 := rdW_mono q2 (Nat.le_max_right d1 d2)
    refine ⟨max d1 d2 + 1, ?_⟩
    have h91 : t[i]? ≠ some 91 := by rw [drop_get h0]; simp
    rw [rdW, if_neg h91, if_pos (drop_get h0)]
    simp only [m1, s2, m2, s4]
    congr 2
    simp [Pg.pt]; omega
end
/-! ### the measures of a program's text -/
theorem nf_sm {p : Nat → Bool} (hp : ∀ c, isSm c = true → p c = false) {l : List Nat} (h : ∀ c ∈ l, isSm c = true) : nf p l = 0 := by
  unfold nf
  rw [List.filter_eq_nil_iff.mpr fun c hc => by rw [hp c (h c hc)]; simp]; rfl
theorem sm_ne {c : Nat} (h : isSm c = true) : c ≠ 40 ∧ c ≠ 91 ∧ c ≠ 62 := by simp [isSm] at h; omega
theorem n40_kt0 : ∀ {k : Kd}, k.dep ≤ 1 → nf (fun c => c == 40) k.kt = 0
  | .c n, _ => nf_sm (fun c h => by have := sm_ne h; simp [this]) (by simp [Kd.kt, isSm_fin])
  | .f (.c a) (.c b), _ => by
    have h1 : ¬ 97 + a.val = 40 := by omega
    have h2 : ¬ 97 + b.val = 40 := by omega
    simp [Kd.kt, nf, h1, h2]
  | .f (.f a b) e, h => by simp [Kd.dep] at h
  | .f (.c a) (.f b e), h => by simp [Kd.dep] at h
theorem n40_kt1 {k : Kd} (h : k.dep ≤ 2) : nf (fun c => c == 40) k.kt ≤ 1 := by
  cases k with
  | c n => rw [n40_kt0 (by simp [Kd.dep])]; omega
  | f l r =>
    simp only [Kd.dep] at h
    have h1 := n40_kt0 (k := l) (by omega)
    have h2 := n40_kt0 (k := r) (by omega)
    have h3 := nf_kt (fun c => c == 40) l
    rw [kt_f, nf_app, nf_app, h3, h1, h2]
    have e1 : nf (fun c => c == 40) arr = 0 := rfl
    have e2 : nf (fun c => c == 40) [40, 41] = 1 := rfl
    rw [e1, e2]
    split <;> omega
theorem n91_kt : ∀ k : Kd, nf (fun c => c == 91) k.kt = 0
  | .c n => nf_sm (fun c h => by have := sm_ne h; simp [this]) (by simp [Kd.kt, isSm_fin])
  | .f l r => by
    have h1 := n91_kt l
    have h2 := n91_kt r
    have h3 := nf_kt (fun c => c == 91) l
    rw [kt_f, nf_app, nf_app, h3, h1, h2]
    have e1 : nf (fun c => c == 91) arr = 0 := rfl
    have e2 : nf (fun c => c == 91) [40, 41] = 0 := rfl
    rw [e1, e2]; simp
theorem cb_split (l : List Nat) : cb l = nf (fun c => c == 40) l + nf (fun c => c == 91) l := by
  rw [cb_nf]
  induction l with
  | nil => rfl
  | cons c l ih =>
    rw [nf_cons, nf_cons, nf_cons, ih]
    by_cases h1 : c = 40
    · subst h1; simp; omega
    · by_cases h2 : c = 91
      · subst h2; simp; omega
      · simp [h1, h2]
/-- the words of a program and what they weigh -/
theorem pt_weights : ∀ (p : Pg), ∃ u k, p.ws.length = 2 * u + 1 + k ∧ u ≤ nf (fun c => c == 40) p.pt ∧ nf (fun c => c == 91) p.pt = k ∧ (p.k2 → nf (fun c => c == 40) p.pt ≤ u + k ∧ p.pt.length ≤ 40 * p.ws.length)
  | .nm x => ⟨0, 0, rfl, by omega, nf_sm (fun c h => by have := sm_ne h; simp [this]) x.hs, fun _ => ⟨by rw [show (Pg.nm x).pt = x.s from rfl, nf_sm (fun c h => by have := sm_ne h; simp [this]) x.hs]; omega, by have := x.h8; simp [Pg.pt, Pg.ws]; omega⟩⟩
  | .tk x k b => by
    obtain ⟨u, v, h1, h2, h3, h4⟩ := pt_weights b
    have e : (Pg.tk x k b).pt = [91] ++ (x.s ++ ([58] ++ (k.kt ++ ([93, 32] ++ b.pt)))) := by simp [Pg.pt]
    have x1 : nf (fun c => c == 40) x.s = 0 := nf_sm (fun c h => by have := sm_ne h; simp [this]) x.hs
    have x2 : nf (fun c => c == 91) x.s = 0 := nf_sm (fun c h => by have := sm_ne h; simp [this]) x.hs
    have k2 := n91_kt k
    refine ⟨u, v + 1, by simp [Pg.ws]; omega, ?_, ?_, fun hk => ⟨?_, ?_⟩⟩
    · rw [e]; simp only [nf_app]; omega
    · rw [e]; simp only [nf_app]; rw [x2, k2, h3, show nf (fun c => c == 91) [91] = 1 from rfl, show nf (fun c => c == 91) [58] = 0 from rfl, show nf (fun c => c == 91) [93, 32] = 0 from rfl]; omega
    · have := (h4 hk.2).1
      have := n40_kt1 hk.1
      rw [e]; simp only [nf_app]; rw [x1, show nf (fun c => c == 40) [91] = 0 from rfl, show nf (fun c => c == 40) [58] = 0 from rfl, show nf (fun c => c == 40) [93, 32] = 0 from rfl]; omega
    · have := (h4 hk.2).2
      have := x.h8
      have l1 := k.kt_len
      have l2 : k.lets ≤ 4 := Nat.le_trans k.lets_dep (Nat.pow_le_pow_right (by omega) hk.1)
      rw [e]; simp [Pg.ws]; omega
  | .us f a => by
    obtain ⟨u, v, h1, h2, h3, h4⟩ := pt_weights f
    obtain ⟨u', v', h1', h2', h3', h4'⟩ := pt_weights a
    have e : (Pg.us f a).pt = [40] ++ (f.pt ++ ([32] ++ (a.pt ++ [41]))) := by simp [Pg.pt]
    refine ⟨u + u' + 1, v + v', by simp [Pg.ws]; omega, ?_, ?_, fun hk => ⟨?_, ?_⟩⟩
    · rw [e]; simp only [nf_app]; rw [show nf (fun c => c == 40) [40] = 1 from rfl]; omega
    · rw [e]; simp only [nf_app]; rw [h3, h3', show nf (fun c => c == 91) [40] = 0 from rfl, show nf (fun c => c == 91) [32] = 0 from rfl, show nf (fun c => c == 91) [41] = 0 from rfl]; omega
    · have := (h4 hk.1).1
      have := (h4' hk.2).1
      rw [e]; simp only [nf_app]; rw [show nf (fun c => c == 40) [40] = 1 from rfl, show nf (fun c => c == 40) [32] = 0 from rfl, show nf (fun c => c == 40) [41] = 0 from rfl]; omega
    · have := (h4 hk.1).2
      have := (h4' hk.2).2
      rw [e]; simp [Pg.ws]; omega
end U
/-! R15b: programs are read in less depth. -/
namespace U
/-- a place where a read goes deeper -/
def pk (t : List Nat) (k : Nat) : Bool := decide (t[k]? = some 91) || (decide (t[k]? = some 40) && (decide (k = 0) || !decide (t[k - 1]? = some 58)))
def cq (t : List Nat) (i j : Nat) : Nat := ((List.range' i (j - i)).filter (pk t)).length
theorem cq_app {t : List Nat} {i j k : Nat} (h : i ≤ j) (h2 : j ≤ k) : cq t i k = cq t i j + cq t j k := by
  unfold cq
  rw [show k - i = (j - i) + (k - j) by omega, ← List.range'_append_1, List.filter_append, List.length_append, show i + (j - i) = j by omega]
theorem cq_one {t : List Nat} {i : Nat} (h : pk t i = true) : cq t i (i + 1) = 1 := by
  unfold cq
  rw [show i + 1 - i = 1 by omega]
  simp [List.range', h]
theorem pk_of {t : List Nat} {i : Nat} (hp : i = 0 ∨ t[i - 1]? ≠ some 58) (h : t[i]? = some 91 ∨ t[i]? = some 40) : pk t i = true := by
  unfold pk
  rcases h with h | h
  · simp [h]
  · rcases hp with hp | hp
    · subst hp; simp [h]
    · simp [h, hp]
theorem up_cq0 {t : List Nat} : ∀ (m i : Nat), (i = 0 ∨ t[i - 1]? ≠ some 58) → i + m ≤ t.length → (∀ c ∈ seg t i (i + m), kc c) → up (seg t i (i + m)) ≤ cq t i (i + m) + cg (seg t i (i + m))
  | 0, i, hp, hl, hk => by rw [Nat.add_zero, seg_self]; simp [up]
  | m + 1, i, hp, hl, hk => by
    have e : t[i]? = some t[i] := List.getElem?_eq_getElem (by omega)
    have s1 := seg_one e
    have sa := seg_app (t := t) (show i ≤ i + 1 by omega) (show i + 1 ≤ i + (m + 1) by omega)
    have hc : kc t[i] := hk _ (by rw [sa, s1]; simp)
    have ih := up_cq0 m (i + 1) (.inr (by rw [Nat.add_sub_cancel, e]; simp; exact (kc_ne hc).2.1)) (by omega) (fun c h => hk c (by rw [sa]; exact List.mem_append_right _ (by rw [show i + (m + 1) = i + 1 + m by omega]; exact h)))
    rw [show i + 1 + m = i + (m + 1) by omega] at ih
    rw [sa, s1, up_app, cg_app, cq_app (show i ≤ i + 1 by omega) (show i + 1 ≤ i + (m + 1) by omega)]
    by_cases h40 : t[i] = 40
    · have := cq_one (pk_of hp (.inr (by rw [e, h40])))
      have : up [t[i]] = 1 := by rw [h40]; rfl
      omega
    · have : up [t[i]] ≤ cg [t[i]] := by
        by_cases h62 : t[i] = 62
        · rw [h62]; decide
        · simp [up, h40, h62]
      omega
theorem up_cq {t : List Nat} {i j : Nat} (h : i ≤ j) (hj : j ≤ t.length) (hk : ∀ c ∈ seg t i j, kc c) : up (seg t i j) ≤ 1 + cq t i j + cg (seg t i j) := by
  by_cases e : i = j
  · subst e; rw [seg_self]; simp [up]
  · have l : i < t.length := by omega
    have e : t[i]? = some t[i] := List.getElem?_eq_getElem l
    have s1 := seg_one e
    have sa := seg_app (t := t) (show i ≤ i + 1 by omega) (show i + 1 ≤ j by omega)
    have hc : kc t[i] := hk _ (by rw [sa, s1]; simp)
    have := up_cq0 (t := t) (j - (i + 1)) (i + 1) (.inr (by rw [Nat.add_sub_cancel, e]; simp; exact (kc_ne hc).2.1)) (by omega) (fun c h => hk c (by rw [sa]; exact List.mem_append_right _ (by rw [show i + 1 + (j - (i + 1)) = j by omega] at h; exact h)))
    rw [show i + 1 + (j - (i + 1)) = j by omega] at this
    rw [sa, s1, up_app, cg_app, cq_app (show i ≤ i + 1 by omega) (show i + 1 ≤ j by omega)]
    have : up [t[i]] ≤ 1 + cg [t[i]] := by
      have : up [t[i]] ≤ 1 := by unfold up; exact Nat.le_trans (List.length_filter_le _ _) (by simp)
      omega
    omega
theorem sg_last {t : List Nat} {cs : List Nat} {i j : Nat} {u : Unit} (h : sg t cs i = .ok u j) (hc : cs ≠ []) : t[j - 1]? = cs.getLast? := by
  obtain ⟨h1, h2⟩ := sg_ok h
  have hl : 0 < cs.length := List.length_pos_iff.mpr hc
  have : t[j - 1]? = (t.drop i)[cs.length - 1]? := by rw [List.getElem?_drop]; congr 1; omega
  rw [this, h2, List.getElem?_append_left (by omega), List.getLast?_eq_getElem?]
theorem rw_enough2 (t : List Nat) (M : Nat) (hM : ∀ i j, (∀ c ∈ seg t i j, kc c) → cg (seg t i j) ≤ M) : ∀ (m i : Nat), (i = 0 ∨ t[i - 1]? ≠ some 58) → i ≤ t.length → t.length - i ≤ m →
    ∃ d r, rdW t d i = some r ∧ d ≤ 4 + cq t i r.end_ + M := by
  intro m
  induction m with
  | zero =>
    intro i hp hi hm
    have e : t[i]? = none := by rw [List.getElem?_eq_none]; omega
    have e2 : nmAt t i = [] := by unfold nmAt; rw [List.drop_eq_nil_of_le (by omega)]; rfl
    exact ⟨1, .bad i, by simp [rdW, e, rdN, e2], by omega⟩
  | succ m ih =>
    intro i hp hi hm
    by_cases h91 : t[i]? = some 91
    · have l := (List.getElem?_eq_some_iff.mp h91).1
      have s1 := seg_one h91
      have c1 : ∀ {e : Nat}, i + 1 ≤ e → cq t i e = 1 + cq t (i + 1) e := fun {e} h => by rw [cq_app (show i ≤ i + 1 by omega) h, cq_one (pk_of hp (by first | exact .inl h91 | exact .inr h40))]
      cases q1 : rdN t (i + 1) with
      | bad j => exact ⟨1, .bad j, by simp [rdW, h91, q1], by omega⟩
      | ok x j =>
        obtain ⟨x1, x2, x3, x4⟩ := rdN_ok q1
        have g1 : j ≤ t.length := by rw [x2, x1]; exact nmAt_le (by omega)
        cases q2 : sg t [58] j with
        | bad k => exact ⟨1, .bad k, by simp [rdW, h91, q1, q2], by omega⟩
        | ok u j2 =>
          have g2 := sg_le q2 g1
          have g3 := (sg_ok q2).1
          simp at g3
          obtain ⟨_, d2, r2, q3, b2⟩ := rd_enough t t.length j2 g2 (by omega)
          have R2 := rdK_rd q3 g2
          have k2 := hM j2 r2.end_ R2.kcs
          have u2 := up_cq R2.le R2.len R2.kcs
          have c2 : ∀ {e : Nat}, r2.end_ ≤ e → 1 + cq t j2 r2.end_ + cq t r2.end_ e ≤ cq t i e := fun {e} h => by
            have := R2.le
            rw [c1 (by omega), cq_app (show i + 1 ≤ j2 by omega) (show j2 ≤ e by omega), cq_app R2.le h]; omega
          cases r2 with
          | bad k =>
            refine ⟨d2 + 1, .bad k, by simp [rdW, h91, q1, q2, q3], ?_⟩
            have c2 := c2 (Nat.le_refl _)
            try simp only [Rs.end_] at *
            omega
          | ok k1 k =>
            have g4 : j2 ≤ k := R2.le
            have g5 : k ≤ t.length := R2.len
            cases q4 : sg t [93, 32] k with
            | bad m' =>
              refine ⟨d2 + 1, .bad m', by simp [rdW, h91, q1, q2, q3, q4], ?_⟩
              have c2 := c2 (e := m') (sg_bad q4).1
              try simp only [Rs.end_] at *
              omega
            | ok u2' m' =>
              have g6 := sg_le q4 g5
              have g7 := (sg_ok q4).1
              simp at g7
              obtain ⟨d3, r3, q5, b3⟩ := ih m' (.inr (by rw [sg_last q4 (by simp)]; simp)) g6 (by omega)
              have R3 := rdW_rw q5 g6
              have mK := rdK_mono q3 (Nat.le_max_left d2 d3)
              have mW := rdW_mono q5 (Nat.le_max_right d2 d3)
              have c3 : cq t k r3.end_ = cq t k m' + cq t m' r3.end_ := cq_app (show k ≤ m' by omega) R3.le
              have c2 := c2 (e := r3.end_) (by have := R3.le; show k ≤ _; omega)
              try simp only [Rs.end_] at c2 k2 b2 u2
              cases r3 with
              | bad q =>
                refine ⟨max d2 d3 + 1, .bad q, by simp [rdW, h91, q1, q2, mK, q4, mW], ?_⟩
                try simp only [Rs.end_] at *
                omega
              | ok b q =>
                refine ⟨max d2 d3 + 1, .ok (.tk x k1 b) q, by simp [rdW, h91, q1, q2, mK, q4, mW], ?_⟩
                try simp only [Rs.end_] at *
                omega
    · by_cases h40 : t[i]? = some 40
      · have l := (List.getElem?_eq_some_iff.mp h40).1
        have s1 := seg_one h40
        have c1 : ∀ {e : Nat}, i + 1 ≤ e → cq t i e = 1 + cq t (i + 1) e := fun {e} h => by rw [cq_app (show i ≤ i + 1 by omega) h, cq_one (pk_of hp (by first | exact .inl h91 | exact .inr h40))]
        obtain ⟨d1, r1, q1, b1⟩ := ih (i + 1) (.inr (by rw [Nat.add_sub_cancel, h40]; simp)) (by omega) (by omega)
        have R1 := rdW_rw q1 (by omega)
        cases r1 with
        | bad j =>
          refine ⟨d1 + 1, .bad j, by simp [rdW, h40, q1], ?_⟩
          have := c1 (e := j) R1.le
          try simp only [Rs.end_] at *
          omega
        | ok f j =>
          have g1 : i + 1 ≤ j := R1.le
          have g2 : j ≤ t.length := R1.len
          have c2 : ∀ {e : Nat}, j ≤ e → cq t i e = 1 + cq t (i + 1) j + cq t j e := fun {e} h => by rw [c1 (by omega), cq_app g1 h]; omega
          cases q2 : sg t [32] j with
          | bad k =>
            refine ⟨d1 + 1, .bad k, by simp [rdW, h40, q1, q2], ?_⟩
            have := c2 (sg_bad q2).1
            try simp only [Rs.end_] at *
            omega
          | ok u j2 =>
            have g3 := (sg_ok q2).1
            have g4 := sg_le q2 g2
            simp at g3
            obtain ⟨d2, r2, q3, b2⟩ := ih j2 (.inr (by rw [sg_last q2 (by simp)]; simp)) g4 (by omega)
            have R2 := rdW_rw q3 g4
            have m1 := rdW_mono q1 (Nat.le_max_left d1 d2)
            have m2 := rdW_mono q3 (Nat.le_max_right d1 d2)
            have c3 : ∀ {e : Nat}, r2.end_ ≤ e → 1 + cq t (i + 1) j + cq t j2 r2.end_ ≤ cq t i e := fun {e} h => by
              have := R2.le
              rw [c2 (by omega), cq_app (show j ≤ j2 by omega) (show j2 ≤ e by omega), cq_app R2.le h]; omega
            cases r2 with
            | bad k =>
              refine ⟨max d1 d2 + 1, .bad k, by simp [rdW, h40, m1, q2, m2], ?_⟩
              have c3 := c3 (Nat.le_refl _)
              try simp only [Rs.end_] at *
              omega
            | ok a k =>
              have g6 : k ≤ t.length := R2.len
              cases q4 : sg t [41] k with
              | bad m' =>
                refine ⟨max d1 d2 + 1, .bad m', by simp [rdW, h40, m1, q2, m2, q4], ?_⟩
                have c3 := c3 (e := m') (sg_bad q4).1
                try simp only [Rs.end_] at *
                omega
              | ok u2 m' =>
                refine ⟨max d1 d2 + 1, .ok (.us f a) m', by simp [rdW, h40, m1, q2, m2, q4], ?_⟩
                have g7 := (sg_ok q4).1
                have c3 := c3 (e := m') (by show k ≤ m'; omega)
                try simp only [Rs.end_] at *
                omega
      · cases q1 : rdN t i with
        | bad j => exact ⟨1, .bad j, by simp [rdW, h91, h40, q1], by omega⟩
        | ok x j => exact ⟨1, .ok (.nm x) j, by simp [rdW, h91, h40, q1], by omega⟩
end U
/-! R16: the depth of a read. -/
namespace U
/-- > within a run of kinds' signs -/
def Mx (t : List Nat) (M : Nat) : Prop := ∀ i m, (∀ c ∈ (t.drop i).take m, kc c) → cg ((t.drop i).take m) ≤ M
theorem Mx.fac {u v w : List Nat} {M : Nat} (h : Mx (u ++ (v ++ w)) M) (hv : ∀ c ∈ v, kc c) : cg v ≤ M := by
  have := h u.length v.length
  rw [List.drop_left, List.take_left] at this
  exact this hv
theorem Mx.left {a b : List Nat} {M : Nat} (h : Mx (a ++ b) M) : Mx a M := fun i m hv => by
  have e : a ++ b = a.take i ++ ((a.drop i).take m ++ ((a.drop i).drop m ++ b)) := by
    rw [← List.append_assoc ((a.drop i).take m), List.take_append_drop, ← List.append_assoc, List.take_append_drop]
  rw [e] at h
  exact h.fac hv
theorem Mx.right {a b : List Nat} {M : Nat} (h : Mx (a ++ b) M) : Mx b M := fun i m hv => by
  have e : a ++ b = (a ++ b.take i) ++ ((b.drop i).take m ++ (b.drop i).drop m) := by
    rw [List.take_append_drop, List.append_assoc, List.take_append_drop]
  rw [e] at h
  exact h.fac hv
theorem Mx.take {t : List Nat} {M : Nat} (h : Mx t M) (a : Nat) : Mx (t.take a) M := Mx.left (b := t.drop a) (by rw [List.take_append_drop]; exact h)
theorem Mx.drop {t : List Nat} {M : Nat} (h : Mx t M) (a : Nat) : Mx (t.drop a) M := Mx.right (a := t.take a) (by rw [List.take_append_drop]; exact h)
theorem Mx.app {a b : List Nat} {M N : Nat} (h : Mx a M) (h' : Mx b N) : Mx (a ++ b) (M + N) := fun i m hv => by
  rw [List.drop_append, List.take_append] at hv ⊢
  rw [cg_app]
  have h1 := h i m fun c hc => hv c (List.mem_append_left _ hc)
  have h2 := h' _ _ fun c hc => hv c (List.mem_append_right _ hc)
  omega
theorem cg_sub {l l' : List Nat} (h : l.Sublist l') : cg l ≤ cg l' := by
  unfold cg
  exact (h.filter _).length_le
theorem Mx.of_cg {l : List Nat} : Mx l (cg l) := fun i m _ => cg_sub ((List.take_sublist _ _).trans (List.drop_sublist _ _))
theorem put_Mx {t t2 : List Nat} {M : Nat} (h : Put t t2) (hm : Mx t M) : Mx t2 (2 * M + 1) := by
  obtain ⟨a, b, l, hab, hl, rfl⟩ := h
  have := (hm.take a).app ((Mx.of_cg (l := l)).app (hm.drop b))
  have hc := hl.cg_
  intro i m hv
  have := this i m hv
  omega
theorem bent_Mx {t t2 : List Nat} {M : Nat} (h : Bent t t2) (hm : Mx t M) : Mx t2 (2 * M + 1) := by
  rcases h with h | rfl
  · exact put_Mx h hm
  · intro i m hv
    have := (hm.app hm) i m hv
    omega
structure PP (t : List Nat) : Prop where
  mx : Mx t 3
  pre : ∀ m, (∀ c ∈ t.take m, kc c) → cg (t.take m) = 0
  suf : ∀ i, (∀ c ∈ t.drop i, kc c) → cg (t.drop i) = 0
theorem PP.app {a b : List Nat} (h : PP a) (h' : PP b) : PP (a ++ b) where
  mx := fun i m hv => by
    rw [List.drop_append, List.take_append] at hv ⊢
    have hA : ∀ c ∈ (a.drop i).take m, kc c := fun c hc => hv c (List.mem_append_left _ hc)
    have hB := fun c hc => hv c (List.mem_append_right _ hc)
    rw [cg_app]
    have mA := h.mx i m hA
    have mB := h'.mx _ _ hB
    by_cases h1 : a.length ≤ i
    · have : cg ((a.drop i).take m) = 0 := by rw [List.drop_eq_nil_of_le h1]; simp [cg]
      omega
    · by_cases h2 : m ≤ a.length - i
      · have : m - (a.drop i).length = 0 := by simp; omega
        rw [this, List.take_zero]
        have : cg [] = 0 := rfl
        omega
      · have e1 : (a.drop i).take m = a.drop i := List.take_of_length_le (by simp; omega)
        have e2 : i - a.length = 0 := by omega
        rw [e1] at hA
        rw [e2, List.drop_zero] at hB
        rw [e1, e2, List.drop_zero, h.suf i hA, h'.pre _ hB]
        omega
  pre := fun m hv => by
    rw [List.take_append] at hv ⊢
    rw [cg_app, h.pre m fun c hc => hv c (List.mem_append_left _ hc), h'.pre _ fun c hc => hv c (List.mem_append_right _ hc)]
  suf := fun i hv => by
    rw [List.drop_append] at hv ⊢
    rw [cg_app, h.suf i fun c hc => hv c (List.mem_append_left _ hc), h'.suf _ fun c hc => hv c (List.mem_append_right _ hc)]
theorem PP.zero {l : List Nat} (h : cg l = 0) : PP l where
  mx := fun i m hv => by have := Mx.of_cg i m hv; omega
  pre := fun m _ => by have := cg_sub (List.take_sublist m l); omega
  suf := fun m _ => by have := cg_sub (List.drop_sublist m l); omega
theorem PP.kind {l : List Nat} (h : cg l ≤ 3) : PP (58 :: (l ++ [93])) where
  mx := fun i m hv => by
    have := Mx.of_cg i m hv
    rw [show 58 :: (l ++ [93]) = [58] ++ (l ++ [93]) from rfl, cg_app, cg_app, show cg [58] = 0 from rfl, show cg [93] = 0 from rfl] at this
    rw [show 58 :: (l ++ [93]) = [58] ++ (l ++ [93]) from rfl]
    omega
  pre := fun m hv => by
    cases m with
    | zero => rfl
    | succ m => exact absurd rfl (kc_ne (hv 58 (by simp))).2.1
  suf := fun i hv => by
    by_cases h1 : i ≤ l.length + 1
    · refine absurd rfl (kc_ne (hv 93 ?_)).2.2
      rw [show 58 :: (l ++ [93]) = (58 :: l) ++ [93] from rfl, List.drop_append_of_le_length (by simpa using h1)]
      simp
    · rw [List.drop_eq_nil_of_le (by simp; omega)]; rfl
theorem cg_sm {l : List Nat} (h : ∀ c ∈ l, isSm c = true) : cg l = 0 := nf_sm (fun c h => by have := sm_ne h; simp [this]) h
theorem pt_PP : ∀ (p : Pg), p.k2 → PP p.pt
  | .nm x, _ => PP.zero (cg_sm x.hs)
  | .tk x k b, hk => by
    have e : (Pg.tk x k b).pt = [91] ++ (x.s ++ ((58 :: (k.kt ++ [93])) ++ ([32] ++ b.pt))) := by simp [Pg.pt]
    have l2 : k.lets ≤ 4 := Nat.le_trans k.lets_dep (Nat.pow_le_pow_right (by omega) hk.1)
    have := cg_kt k
    rw [e]
    exact (PP.zero rfl).app ((PP.zero (cg_sm x.hs)).app ((PP.kind (by omega)).app ((PP.zero rfl).app (pt_PP b hk.2))))
  | .us f a, hk => by
    have e : (Pg.us f a).pt = [40] ++ (f.pt ++ ([32] ++ (a.pt ++ [41]))) := by simp [Pg.pt]
    rw [e]
    exact (PP.zero rfl).app ((pt_PP f hk.1).app ((PP.zero rfl).app ((pt_PP a hk.2).app (PP.zero rfl))))
theorem kt_kc : ∀ k : Kd, ∀ c ∈ k.kt, kc c
  | .c n => fun c hc => by simp [Kd.kt] at hc; subst hc; exact .inl (isSm_fin n)
  | .f l r => fun c hc => by
    rw [kt_f] at hc
    rcases List.mem_append.mp hc with h | h
    · cases l with
      | c n => exact kt_kc _ c h
      | f u w =>
        have h : c ∈ 40 :: ((Kd.f u w).kt ++ [41]) := h
        simp only [List.mem_cons, List.mem_append, List.not_mem_nil, or_false] at h
        rcases h with h | h | h
        · exact .inr (.inl h)
        · exact kt_kc (.f u w) c h
        · exact .inr (.inr (.inl h))
    · rcases List.mem_append.mp h with h | h
      · exact kc_arr c h
      · exact kt_kc r c h
theorem th_Mx : ∀ (p : Pg), Mx p.pt 15 → p.th
  | .nm _, _ => trivial
  | .tk x k b, h => by
    have e : (Pg.tk x k b).pt = ([91] ++ (x.s ++ [58])) ++ (k.kt ++ ([93, 32] ++ b.pt)) := by simp [Pg.pt]
    rw [e] at h
    have h1 := h.fac (kt_kc k)
    have := cg_kt k
    have := k.dep_lets
    exact ⟨⟨by omega, by omega⟩, th_Mx b h.right.right.right⟩
  | .us f a, h => by
    have e : (Pg.us f a).pt = [40] ++ (f.pt ++ ([32] ++ (a.pt ++ [41]))) := by simp [Pg.pt]
    rw [e] at h
    exact ⟨th_Mx f h.right.left, th_Mx a h.right.right.right.left⟩
/-! ### places where a read goes deeper, along a list -/
def cp : Nat → List Nat → Nat
  | _, [] => 0
  | p, c :: l => (if c = 91 ∨ (c = 40 ∧ p ≠ 58) then 1 else 0) + cp c l
theorem cp_le : ∀ (l : List Nat) (p : Nat), cp p l ≤ cp 0 l ∧ cp 0 l ≤ cp p l + 1
  | [], p => by simp [cp]
  | c :: l, p => by
    simp only [cp]
    by_cases h91 : c = 91
    · simp [h91]
    · by_cases h40 : c = 40
      · by_cases hp : p = 58
        · simp [h40, hp]; omega
        · simp [h40, hp]
      · simp [h91, h40]
theorem cp_app : ∀ (a b : List Nat) (p : Nat), ∃ q, cp p (a ++ b) = cp p a + cp q b
  | [], b, p => ⟨p, by simp [cp]⟩
  | c :: a, b, p => by
    obtain ⟨q, h⟩ := cp_app a b c
    exact ⟨q, by simp only [List.cons_append, cp, h]; omega⟩
theorem cp_app_le (a b : List Nat) : cp 0 (a ++ b) ≤ cp 0 a + cp 0 b := by
  obtain ⟨q, h⟩ := cp_app a b 0
  have := (cp_le b q).1
  omega
theorem cp_cut (t : List Nat) (a b : Nat) (h : a ≤ b) : cp 0 (t.take a) + cp 0 (t.drop b) ≤ cp 0 t + 1 := by
  have e : t = t.take a ++ ((t.drop a).take (b - a) ++ t.drop b) := by
    have := List.take_append_drop (b - a) (t.drop a)
    rw [List.drop_drop, show a + (b - a) = b by omega] at this
    rw [this, List.take_append_drop]
  obtain ⟨q, h1⟩ := cp_app (t.take a) ((t.drop a).take (b - a) ++ t.drop b) 0
  obtain ⟨q2, h2⟩ := cp_app ((t.drop a).take (b - a)) (t.drop b) q
  rw [← e] at h1
  have := (cp_le (t.drop b) q2).2
  omega
theorem cp_nf : ∀ (l : List Nat) (p : Nat), cp p l ≤ nf (fun c => c == 40) l + nf (fun c => c == 91) l
  | [], p => by simp [cp]
  | c :: l, p => by
    have := cp_nf l c
    rw [nf_cons, nf_cons]
    simp only [cp]
    by_cases h91 : c = 91
    · subst h91; simp; omega
    · by_cases h40 : c = 40
      · subst h40; simp; split <;> omega
      · simp [h91, h40]; omega
theorem cp_kt {k : Kd} (h : k.dep ≤ 2) : cp 58 k.kt = 0 := by
  have n91 := n91_kt k
  have n40 := n40_kt1 h
  cases k with
  | c n =>
    have := cp_nf (Kd.c n).kt 58
    rw [n40_kt0 (by simp [Kd.dep])] at this
    omega
  | f l r =>
    cases l with
    | c n =>
      have h2 := n40_kt0 (k := r) (by simp only [Kd.dep] at h; omega)
      have := cp_nf (Kd.f (.c n) r).kt 58
      have z : nf (fun c => c == 40) (Kd.f (.c n) r).kt = 0 := by
        have h3 := nf_kt (fun c => c == 40) (.c n)
        have h1 := n40_kt0 (k := .c n) (by simp [Kd.dep])
        rw [kt_f, nf_app, nf_app, h3, h1, h2]; rfl
      omega
    | f u w =>
      have e : ∃ rest, (Kd.f (.f u w) r).kt = 40 :: rest := ⟨_, rfl⟩
      obtain ⟨rest, e⟩ := e
      rw [e] at n91 n40 ⊢
      rw [nf_cons] at n91 n40
      have := cp_nf rest 40
      simp at n91 n40
      simp only [cp]
      simp
      omega
theorem cp_pt : ∀ (p : Pg), p.k2 → cp 0 p.pt + 1 ≤ p.ws.length
  | .nm x, _ => by
    have := cp_nf x.s 0
    have x1 : nf (fun c => c == 40) x.s = 0 := nf_sm (fun c h => by have := sm_ne h; simp [this]) x.hs
    have x2 : nf (fun c => c == 91) x.s = 0 := nf_sm (fun c h => by have := sm_ne h; simp [this]) x.hs
    show cp 0 x.s + 1 ≤ 1
    omega
  | .tk x k b, hk => by
    have e : (Pg.tk x k b).pt = [91] ++ (x.s ++ ((58 :: k.kt) ++ ([93, 32] ++ b.pt))) := by simp [Pg.pt]
    have := cp_nf x.s 0
    have x1 : nf (fun c => c == 40) x.s = 0 := nf_sm (fun c h => by have := sm_ne h; simp [this]) x.hs
    have x2 : nf (fun c => c == 91) x.s = 0 := nf_sm (fun c h => by have := sm_ne h; simp [this]) x.hs
    have hb := cp_pt b hk.2
    have a1 := cp_app_le [91] (x.s ++ ((58 :: k.kt) ++ ([93, 32] ++ b.pt)))
    have a2 := cp_app_le x.s ((58 :: k.kt) ++ ([93, 32] ++ b.pt))
    have a3 := cp_app_le (58 :: k.kt) ([93, 32] ++ b.pt)
    have a4 := cp_app_le [93, 32] b.pt
    have b1 : cp 0 [91] = 1 := rfl
    have b2 : cp 0 [93, 32] = 0 := rfl
    have b3 : cp 0 (58 :: k.kt) = 0 := by simp only [cp, cp_kt hk.1]; rfl
    rw [e]
    simp only [Pg.ws, List.length_cons]
    omega
  | .us f a, hk => by
    have e : (Pg.us f a).pt = [40] ++ (f.pt ++ ([32] ++ (a.pt ++ [41]))) := by simp [Pg.pt]
    have hf := cp_pt f hk.1
    have ha := cp_pt a hk.2
    have a1 := cp_app_le [40] (f.pt ++ ([32] ++ (a.pt ++ [41])))
    have a2 := cp_app_le f.pt ([32] ++ (a.pt ++ [41]))
    have a3 := cp_app_le [32] (a.pt ++ [41])
    have a4 := cp_app_le a.pt [41]
    have b1 : cp 0 [40] = 1 := rfl
    have b2 : cp 0 [32] = 0 := rfl
    have b3 : cp 0 [41] = 0 := rfl
    rw [e]
    simp only [Pg.ws, List.length_cons, List.length_append]
    omega
theorem cq_cp {t : List Nat} : ∀ (l a : List Nat) (p : Nat), t = a ++ l → ((a = [] ∧ p ≠ 58) ∨ a.getLast? = some p) → cq t a.length t.length = cp p l
  | [], a, p, h, hp => by
    subst h
    simp [cq, cp]
  | c :: l, a, p, h, hp => by
    have h2 : t = (a ++ [c]) ++ l := by rw [h]; simp
    have ih := cq_cp l (a ++ [c]) c h2 (.inr (by simp))
    have hl : a.length + 1 ≤ t.length := by rw [h]; simp
    simp only [List.length_append, List.length_cons, List.length_nil, Nat.zero_add] at ih
    rw [cq_app (show a.length ≤ a.length + 1 by omega) hl, ih]
    simp only [cp]
    congr 1
    have e1 : t[a.length]? = some c := by rw [h]; simp
    have e2 : pk t a.length = decide (c = 91 ∨ (c = 40 ∧ p ≠ 58)) := by
      unfold pk
      rw [e1]
      rcases hp with ⟨rfl, hp⟩ | hp
      · simp [hp]
      · have hne : a ≠ [] := fun z => by rw [z] at hp; simp at hp
        have hpos := List.length_pos_iff.mpr hne
        have e3 : t[a.length - 1]? = some p := by
          rw [h, List.getElem?_append_left (by omega), ← List.getLast?_eq_getElem?]; exact hp
        rw [e3]
        have : ¬ a.length = 0 := by omega
        simp [hne]
    unfold cq
    rw [show a.length + 1 - a.length = 1 by omega]
    by_cases z : c = 91 ∨ (c = 40 ∧ p ≠ 58)
    · rw [if_pos z]; rw [decide_eq_true z] at e2; simp [List.range', e2]
    · rw [if_neg z]; rw [decide_eq_false z] at e2; simp [List.range', e2]
theorem cq_all (t : List Nat) : cq t 0 t.length = cp 0 t := cq_cp t [] 0 rfl (.inl ⟨rfl, by decide⟩)
theorem cq_mono {t : List Nat} {j : Nat} (h : j ≤ t.length) : cq t 0 j ≤ cp 0 t := by
  rw [← cq_all t, cq_app (Nat.zero_le j) h]; omega
theorem cq_left (a b : List Nat) : cq (a ++ b) 0 a.length = cp 0 a := by
  rw [← cq_all a]
  unfold cq
  congr 1
  apply List.filter_congr
  intro k hk
  have hk : k < a.length := by simp [List.mem_range'_1] at hk; omega
  unfold pk
  rw [List.getElem?_append_left hk, List.getElem?_append_left (show k - 1 < a.length by omega)]
/-- a text whose reads are not deep -/
def PgT (t : List Nat) : Prop := t.length ≤ 20000 ∧ ∃ d r, rdW t d 0 = some r ∧ d ≤ 160 ∧ ∀ q, r = .ok q t.length → q.th ∧ q.ws.length ≤ 400
theorem seg_all (t : List Nat) : seg t 0 t.length = t := by simp [seg]
theorem pgT_of {t : List Nat} (h1 : t.length ≤ 20000) (h2 : cp 0 t ≤ 130) (h3 : w2 t ≤ 370) (h4 : Mx t 15) : PgT t := by
  refine ⟨h1, ?_⟩
  obtain ⟨d, r, q, b⟩ := rw_enough2 t 15 (fun i j h => h4 i (j - i) h) t.length 0 (.inl rfl) (Nat.zero_le _) (by omega)
  have R := rdW_rw q (Nat.zero_le _)
  have hs := cq_mono R.len
  refine ⟨d, r, q, by omega, fun p e => ?_⟩
  have eq := (R.ok _ _ e).2
  rw [seg_all] at eq
  subst eq
  obtain ⟨u, k, w1, w2', w3, _⟩ := pt_weights p
  unfold w2 at h3
  exact ⟨th_Mx p h4, by omega⟩
theorem pg_sizes {p : Pg} (hk : p.k2) (hl : p.ws.length ≤ 60) {t : List Nat} (h : Bents p.pt t) : PgT t := by
  obtain ⟨u, k, e1, e2, e3, e4⟩ := pt_weights p
  obtain ⟨e4, e5⟩ := e4 hk
  have m0 := (pt_PP p hk).mx
  have c0 := cp_pt p hk
  have b40 : ∀ {t t2 : List Nat}, Put t t2 → cp 0 t2 ≤ cp 0 t + 2 ∧ w2 t2 ≤ w2 t + 2 := fun {t t2} h => by
    obtain ⟨a, b, l, hab, hl, rfl⟩ := h
    refine ⟨?_, ?_⟩
    · have z1 := cp_cut t a b hab
      have z2 := cp_app_le (t.take a) (l ++ t.drop b)
      have z3 := cp_app_le l (t.drop b)
      have z4 := cp_nf l 0
      have z5 := hl.cb_
      rw [cb_split] at z5
      omega
    have h1 := nf_take (fun c => c == 40) t a b hab
    have h2 := nf_take (fun c => c == 91) t a b hab
    have h3 := hl.w2_
    unfold w2 at h3 ⊢
    simp only [nf_app]
    omega
  have dbl : ∀ u : List Nat, cp 0 (u ++ u) ≤ 2 * cp 0 u ∧ w2 (u ++ u) = 2 * w2 u := fun u => by
    constructor
    · have := cp_app_le u u; omega
    · unfold w2; simp only [nf_app]; omega
  have w0 : w2 p.pt ≤ 177 := by unfold w2; omega
  have c1 : cp 0 p.pt ≤ 59 := by omega
  rcases h with h | ⟨t1, h1, h⟩
  · have hm := bent_Mx h m0
    have hn := bent_len h
    rcases h with h | rfl
    · have := b40 h
      exact pgT_of (by omega) (by omega) (by omega) fun i m hv => Nat.le_trans (hm i m hv) (by omega)
    · have := dbl p.pt
      exact pgT_of (by omega) (by omega) (by omega) fun i m hv => Nat.le_trans (hm i m hv) (by omega)
  · have hm := bent_Mx h (bent_Mx h1 m0)
    have hn1 := bent_len h1
    have hn := bent_len h
    rcases h with h | rfl
    · have z := b40 h
      have z1 : cp 0 t1 ≤ 2 * cp 0 p.pt + 2 ∧ w2 t1 ≤ 2 * w2 p.pt + 2 := by
        rcases h1 with h1 | rfl
        · have := b40 h1; omega
        · have := dbl p.pt; omega
      exact pgT_of (by omega) (by omega) (by omega) fun i m hv => Nat.le_trans (hm i m hv) (by omega)
    · have z := dbl t1
      rcases h1 with h1 | rfl
      · have := b40 h1
        exact pgT_of (by omega) (by omega) (by omega) fun i m hv => Nat.le_trans (hm i m hv) (by omega)
      · have hm : Mx ((p.pt ++ p.pt) ++ (p.pt ++ p.pt)) 15 := fun i m hv => Nat.le_trans (hm i m hv) (by omega)
        by_cases hs : smH p.pt = false
        · refine ⟨by omega, ?_⟩
          obtain ⟨d, r, q, b⟩ := rw_enough2 _ 15 (fun i j h => hm i (j - i) h) _ 0 (.inl rfl) (Nat.zero_le _) (Nat.le_refl _)
          have hr : smH (p.pt ++ (p.pt ++ p.pt)) = false := by
            cases e : p.pt with
            | nil => rw [e] at hs; rfl
            | cons c l => rw [e] at hs; exact hs
          obtain ⟨d0, q0⟩ := read_W (t := (p.pt ++ p.pt) ++ (p.pt ++ p.pt)) p 0 (p.pt ++ (p.pt ++ p.pt)) (by simp) hr
          have m1 := rdW_mono q (Nat.le_max_left d d0)
          have m2 := rdW_mono q0 (Nat.le_max_right d d0)
          rw [m1] at m2
          cases m2
          have es : cq ((p.pt ++ p.pt) ++ (p.pt ++ p.pt)) 0 (0 + p.pt.length) = cp 0 p.pt := by
            rw [Nat.zero_add, List.append_assoc]; exact cq_left _ _
          rw [show (Rs.ok p (0 + p.pt.length)).end_ = 0 + p.pt.length from rfl, es] at b
          refine ⟨d, _, q, by omega, fun q' e => ?_⟩
          have hp := ws_pt p
          have hw := p.ws_pos
          simp only [Rs.ok.injEq] at e
          have := e.2
          rw [List.length_append, List.length_append] at this
          omega
        · have e0 : ∃ x, p = .nm x := by
            cases p with
            | nm x => exact ⟨x, rfl⟩
            | tk x k b => exact absurd rfl hs
            | us f a => exact absurd rfl hs
          obtain ⟨x, rfl⟩ := e0
          have y := dbl (Pg.nm x).pt
          have x1 : nf (fun c => c == 40) (Pg.nm x).pt = 0 := nf_sm (fun c h => by have := sm_ne h; simp [this]) x.hs
          have x2 : nf (fun c => c == 91) (Pg.nm x).pt = 0 := nf_sm (fun c h => by have := sm_ne h; simp [this]) x.hs
          have x3 : w2 (Pg.nm x).pt = 0 := by unfold w2; omega
          have y2 := cp_pt (.nm x) trivial
          have y3 : (Pg.nm x).ws.length = 1 := rfl
          have y4 := dbl ((Pg.nm x).pt ++ (Pg.nm x).pt)
          exact pgT_of (by omega) (by omega) (by omega) hm
def KdT (t : List Nat) : Prop := t.length ≤ 20000 ∧ ∃ d r, rdK t d 0 = some r ∧ d ≤ 160 ∧ ∀ q, r = .ok q t.length → q.th
theorem kdT_of {k : Kd} (hk : k.dep ≤ 4) {t : List Nat} (h : Bents k.kt t) : KdT t := by
  obtain ⟨h1, h2, h3⟩ := kd_sizes hk h
  refine ⟨by omega, ?_⟩
  obtain ⟨_, d, r, q, b⟩ := rd_enough t t.length 0 (Nat.zero_le _) (by omega)
  have R := rdK_rd q (Nat.zero_le _)
  have hs : up (seg t 0 r.end_) ≤ up t := by
    unfold up seg
    exact (((List.take_sublist _ _).trans (List.drop_sublist _ _)).filter _).length_le
  refine ⟨d, r, q, by omega, fun q e => ?_⟩
  have eq := (R.ok _ _ e).2
  rw [seg_all] at eq
  exact h3 q eq
end U
/-! R17: a text is bent. -/
namespace U
def litB (l : List Nat) : Bool := decide (l.length ≤ 9) && decide (up l ≤ 1) && decide (cb l ≤ 1) && decide (cg l ≤ 1) && decide (w2 l ≤ 2) && (List.range (l.length + 1)).all fun a => decide (vl (l.take a) ≤ 1)
theorem litB_ok {l : List Nat} (h : litB l = true) : Lit l := by
  unfold litB at h
  simp only [Bool.and_eq_true, decide_eq_true_eq, List.all_eq_true, List.mem_range] at h
  obtain ⟨⟨⟨⟨⟨h1, h2⟩, h3⟩, h4⟩, h5⟩, h6⟩ := h
  exact Lit.of h1 h2 h3 h4 h5 h6
def chrs : List (List Nat) := [[97], [98], [122], [62], [40], [41], [32], [91], [58], [93], [65], [48], [10], [64]]
def lit3 : List (List Nat) := [[32, 62, 32], [40], [32]]
theorem lits_ok : ∀ l ∈ chrs ++ lit3, Lit l := fun l hl => litB_ok ((show ∀ l ∈ chrs ++ lit3, litB l = true by decide) l hl)
theorem lit_nil : Lit [] := litB_ok (by decide)
theorem lit_gt : Lit [32, 62, 32, 97] := litB_ok (by decide)
theorem lit_nine : Lit [97, 98, 99, 100, 101, 102, 103, 104, 105] := litB_ok (by decide)
theorem cut_from {α : Type} (xs : List α) (m : Nat) : cut xs (some (m : Int)) none = xs.drop m := by
  unfold cut sIx
  have : ¬ ((m : Int) < 0) := by omega
  simp only [this, if_false, Int.toNat_natCast]
  by_cases h : m ≤ xs.length
  · rw [Nat.min_eq_left h, List.take_of_length_le (by simp)]
  · rw [Nat.min_eq_right (by omega), List.drop_eq_nil_of_le (Nat.le_refl _), List.drop_eq_nil_of_le (by omega), List.take_nil]
theorem sts_pure (l : List (List Nat)) : (Obj.list (sts l)).pure = true := by simp -dsimp [Obj.pure, sts, Val.isP]
section
variable {sc : List Int}
theorem s_someS {ss : List (List Nat)} (h0 : ss ≠ []) (hl : ss.length ≤ 1000) (n : Nat) (d : Hand) (hn : 2 ≤ n) : ∃ (x : List Nat) (d' : Hand), x ∈ ss ∧ ∀ (h : List Obj) (a : Nat), h[a]? = some (.list (sts ss)) → FN prog n F__law_some [.hd, .r a] ⟨h, some d, sc⟩ = .ok (.p (.str x)) ⟨h, some d', sc⟩ := by
  have hp : 0 < ss.length := List.length_pos_iff.mpr h0
  obtain ⟨j, d1, h1, e1⟩ := dr d (m := (ss.length : Int)) (by omega) (by omega)
  have hj : j < ss.length := by omega
  have hs : (sts ss).length = ss.length := sts_len ss
  have hx : atI (sts ss) (j : Int) = some (.p (.str ss[j])) := atI_nth (by simp -dsimp [sts, hj])
  refine ⟨ss[j], d1, List.getElem_mem hj, fun h a ha => ?_⟩
  have := callP1 (P := prog) (n := n) (f := F__law_some) (as := [.hd, .r a]) (s := ⟨h, some d, sc⟩) (a := a) (o := .list (sts ss)) (o' := .list (sts ss)) (v := .str ss[j]) (h := []) (d := some d1) (sc := sc) (by omega) ha rfl rfl rfl rfl rfl (sts_pure _) (sts_pure _) (by
    simp -dsimp [m__law_some, refs, renum, biV, lenV, hs, e1, idxV, hx])
  rw [this]
  simp only [set_same ha]
/-- what a bent text may be -/
def bends (t l : List Nat) (j : Nat) : List (List Nat) := [(t.take j ++ l) ++ t.drop j, (t.take j ++ l) ++ t.drop (j + 1), t.take j ++ t.drop (j + 1)]
def bends2 (t l : List Nat) (j : Nat) : List (List Nat) := [t.take j, t ++ l, t.drop j, t ++ t, t ++ [32, 62, 32, 97], [97, 98, 99, 100, 101, 102, 103, 104, 105] ++ t]
theorem bends_ok {t l : List Nat} {j : Nat} (hl : Lit l) (hj : j ≤ t.length) : ∀ x ∈ (bends t l j ++ (bends t l j ++ bends t l j)) ++ bends2 t l j, Bent t x := by
  have h1 : ∀ x ∈ bends t l j, Bent t x := fun x hx => by
    simp only [bends, List.mem_cons, List.not_mem_nil, or_false] at hx
    rcases hx with rfl | rfl | rfl
    · exact .inl ⟨j, j, l, Nat.le_refl _, hl, by simp⟩
    · exact .inl ⟨j, j + 1, l, by omega, hl, by simp⟩
    · exact .inl ⟨j, j + 1, [], by omega, lit_nil, by simp⟩
  have h2 : ∀ x ∈ bends2 t l j, Bent t x := fun x hx => by
    simp only [bends2, List.mem_cons, List.not_mem_nil, or_false] at hx
    rcases hx with rfl | rfl | rfl | rfl | rfl | rfl
    · exact .inl ⟨j, t.length, [], hj, lit_nil, by simp⟩
    · exact .inl ⟨t.length, t.length, l, Nat.le_refl _, hl, by simp⟩
    · exact .inl ⟨0, j, [], by omega, lit_nil, by simp⟩
    · exact .inr rfl
    · exact .inl ⟨t.length, t.length, [32, 62, 32, 97], Nat.le_refl _, lit_gt, by simp⟩
    · exact .inl ⟨0, 0, _, Nat.le_refl _, lit_nine, by simp⟩
  intro x hx
  simp only [List.mem_append] at hx
  rcases hx with (h | h | h) | h
  · exact h1 x h
  · exact h1 x h
  · exact h1 x h
  · exact h2 x h
theorem ev_slT {C : Calls} {env : Env} {s : S} {t : List Nat} {j : Nat} {e : Ex} (h1 : env[1]? = some (some (.p (.str t)))) (h2 : ev C e env s = .ok (.p (.int (j : Int))) s) : ev C (.slc (.var 1) .no (.some e)) env s = .ok (.p (.str (t.take j))) s := by
  have := cut_to t j
  simp -dsimp [h1, h2, slcV, this]
theorem ev_slD {C : Calls} {env : Env} {s : S} {t : List Nat} {j : Nat} {e : Ex} (h1 : env[1]? = some (some (.p (.str t)))) (h2 : ev C e env s = .ok (.p (.int (j : Int))) s) : ev C (.slc (.var 1) (.some e) .no) env s = .ok (.p (.str (t.drop j))) s := by
  have := cut_from t j
  simp -dsimp [h1, h2, slcV, this]
theorem s_bent {t : List Nat} (ht : t.length ≤ 100000) (n : Nat) (d : Hand) (hn : 5 ≤ n) : ∃ (x : List Nat) (d' : Hand), Bent t x ∧ ∀ (h : List Obj), FN prog n F__law_bent [.hd, .p (.str t)] ⟨h, some d, sc⟩ = .ok (.p (.str x)) ⟨h, some d', sc⟩ := by
  obtain ⟨j, d1, hj, e1⟩ := dr d (m := (t.length : Int) + 1) (by omega) (by omega)
  obtain ⟨l, d2, hl, e2⟩ := s_someS (sc := sc) (ss := chrs ++ lit3) (by decide) (by decide) (n - 2 + 1) d1 (by omega)
  have hL := lits_ok l hl
  have hl9 := hL.len
  obtain ⟨x, d3, hx, e3⟩ := s_someS (sc := sc) (ss := (bends t l j ++ (bends t l j ++ bends t l j)) ++ bends2 t l j) (by simp [bends]) (by simp [bends, bends2]) (n - 2 + 1) d2 (by omega)
  refine ⟨x, d3, bends_ok hL (by omega) x hx, fun h => ?_⟩
  have hdl : ∀ k, (t.drop k).length ≤ 100000 := fun k => by simp; omega
  have htl : ∀ k, (t.take k).length ≤ 100000 := fun k => by simp; omega
  have E : ∀ (s : S) (y : Option Val), (ev (CN prog (n - 2)) (.bin .add (.bin .add (.slc (.var 1) .no (.some (.var 2))) (.var 3)) (.slc (.var 1) (.some (.var 2)) .no)) [some .hd, some (.p (.str t)), some (.p (.int (j : Int))), some (.p (.str l)), y] s = .ok (.p (.str ((t.take j ++ l) ++ t.drop j))) s) ∧
      (ev (CN prog (n - 2)) (.bin .add (.bin .add (.slc (.var 1) .no (.some (.var 2))) (.var 3)) (.slc (.var 1) (.some (.bin .add (.var 2) (.lit (.int 1)))) .no)) [some .hd, some (.p (.str t)), some (.p (.int (j : Int))), some (.p (.str l)), y] s = .ok (.p (.str ((t.take j ++ l) ++ t.drop (j + 1)))) s) ∧
      (ev (CN prog (n - 2)) (.bin .add (.slc (.var 1) .no (.some (.var 2))) (.slc (.var 1) (.some (.bin .add (.var 2) (.lit (.int 1)))) .no)) [some .hd, some (.p (.str t)), some (.p (.int (j : Int))), some (.p (.str l)), y] s = .ok (.p (.str (t.take j ++ t.drop (j + 1)))) s) ∧
      (ev (CN prog (n - 2)) (.slc (.var 1) .no (.some (.var 2))) [some .hd, some (.p (.str t)), some (.p (.int (j : Int))), some (.p (.str l)), y] s = .ok (.p (.str (t.take j))) s) ∧
      (ev (CN prog (n - 2)) (.bin .add (.var 1) (.var 3)) [some .hd, some (.p (.str t)), some (.p (.int (j : Int))), some (.p (.str l)), y] s = .ok (.p (.str (t ++ l))) s) ∧
      (ev (CN prog (n - 2)) (.slc (.var 1) (.some (.var 2)) .no) [some .hd, some (.p (.str t)), some (.p (.int (j : Int))), some (.p (.str l)), y] s = .ok (.p (.str (t.drop j))) s) ∧
      (ev (CN prog (n - 2)) (.bin .add (.var 1) (.var 1)) [some .hd, some (.p (.str t)), some (.p (.int (j : Int))), some (.p (.str l)), y] s = .ok (.p (.str (t ++ t))) s) ∧
      (ev (CN prog (n - 2)) (.bin .add (.var 1) (.lit (.str [32, 62, 32, 97]))) [some .hd, some (.p (.str t)), some (.p (.int (j : Int))), some (.p (.str l)), y] s = .ok (.p (.str (t ++ [32, 62, 32, 97]))) s) ∧
      (ev (CN prog (n - 2)) (.bin .add (.lit (.str [97, 98, 99, 100, 101, 102, 103, 104, 105])) (.var 1)) [some .hd, some (.p (.str t)), some (.p (.int (j : Int))), some (.p (.str l)), y] s = .ok (.p (.str ([97, 98, 99, 100, 101, 102, 103, 104, 105] ++ t))) s) := fun s y => by
    have aj : ev (CN prog (n - 2)) (.var 2) [some .hd, some (.p (.str t)), some (.p (.int (j : Int))), some (.p (.str l)), y] s = .ok (.p (.int (j : Int))) s := by simp -dsimp
    have aj1 : ev (CN prog (n - 2)) (.bin .add (.var 2) (.lit (.int 1))) [some .hd, some (.p (.str t)), some (.p (.int (j : Int))), some (.p (.str l)), y] s = .ok (.p (.int ((j + 1 : Nat) : Int))) s := by simp -dsimp [binop, binP]
    have at_ : ev (CN prog (n - 2)) (.var 1) [some .hd, some (.p (.str t)), some (.p (.int (j : Int))), some (.p (.str l)), y] s = .ok (.p (.str t)) s := by simp -dsimp
    have al : ev (CN prog (n - 2)) (.var 3) [some .hd, some (.p (.str t)), some (.p (.int (j : Int))), some (.p (.str l)), y] s = .ok (.p (.str l)) s := by simp -dsimp
    have sT := ev_slT (C := CN prog (n - 2)) (env := [some .hd, some (.p (.str t)), some (.p (.int (j : Int))), some (.p (.str l)), y]) (s := s) (t := t) rfl aj
    have sD := ev_slD (C := CN prog (n - 2)) (env := [some .hd, some (.p (.str t)), some (.p (.int (j : Int))), some (.p (.str l)), y]) (s := s) (t := t) rfl aj
    have sD1 := ev_slD (C := CN prog (n - 2)) (env := [some .hd, some (.p (.str t)), some (.p (.int (j : Int))), some (.p (.str l)), y]) (s := s) (t := t) rfl aj1
    have b0 := htl j
    have b1 := hdl j
    have b2 := hdl (j + 1)
    have sTl := ev_cat sT al (by omega)
    have lTl : (t.take j ++ l).length ≤ 200000 := by rw [List.length_append]; omega
    exact ⟨ev_cat sTl sD (by omega), ev_cat sTl sD1 (by omega), ev_cat sT sD1 (by omega), sT, ev_cat at_ al (by omega), sD, ev_cat at_ at_ (by omega), ev_cat at_ (ev_lit _ _ _ _) (by simp; omega), ev_cat (ev_lit _ _ _ _) at_ (by simp; omega)⟩
  have o1 : ∀ env : Env, ev (CN prog (n - 2)) (.bin .add (.bi .list (.cons (.lit (.str [97, 98, 122, 62, 40, 41, 32, 91, 58, 93, 65, 48, 10, 64])) .nil)) (.lst (.disp (.cons (.lit (.str [32, 62, 32])) (.cons (.lit (.str [40])) (.cons (.lit (.str [32])) .nil)))))) env ⟨[], some d1, sc⟩ = .ok (.r 2) ⟨[.list (sts chrs), .list (sts lit3), .list (sts (chrs ++ lit3))], some d1, sc⟩ := fun env => by
    simp -dsimp [biV, itemsOf, new, binop, sts, chrs, lit3]
  have o2 := e2 [.list (sts chrs), .list (sts lit3), .list (sts (chrs ++ lit3))] 2 rfl
  have o3 : ev (CN prog (n - 2)) (.bin .mul (.lst (.disp (.cons (.bin .add (.bin .add (.slc (.var 1) .no (.some (.var 2))) (.var 3)) (.slc (.var 1) (.some (.var 2)) .no)) (.cons (.bin .add (.bin .add (.slc (.var 1) .no (.some (.var 2))) (.var 3)) (.slc (.var 1) (.some (.bin .add (.var 2) (.lit (.int 1)))) .no)) (.cons (.bin .add (.slc (.var 1) .no (.some (.var 2))) (.slc (.var 1) (.some (.bin .add (.var 2) (.lit (.int 1)))) .no)) .nil))))) (.lit (.int 3))) [some .hd, some (.p (.str t)), some (.p (.int (j : Int))), some (.p (.str l)), none] ⟨[.list (sts chrs), .list (sts lit3), .list (sts (chrs ++ lit3))], some d2, sc⟩ = .ok (.r 4) ⟨[.list (sts chrs), .list (sts lit3), .list (sts (chrs ++ lit3)), .list (sts (bends t l j)), .list (sts (bends t l j ++ (bends t l j ++ bends t l j)))], some d2, sc⟩ := by
    obtain ⟨E1, E2, E3, _⟩ := E ⟨[.list (sts chrs), .list (sts lit3), .list (sts (chrs ++ lit3))], some d2, sc⟩ none
    have em : ∀ xs : List Val, (List.replicate (3 : Int).toNat xs).flatten = xs ++ (xs ++ xs) := fun xs => by
      show (List.replicate 3 xs).flatten = _
      simp [List.replicate_succ]
    have es : ∀ a b : List (List Nat), sts (a ++ b) = sts a ++ sts b := fun a b => by simp [sts]
    rw [ev_bin, ev_lst, evL_disp, evs_cons, E1, R.bd_ok, evs_cons, E2, R.bd_ok, evs_cons, E3, R.bd_ok, evs_nil]
    rw [es (bends t l j), es (bends t l j)]
    simp -dsimp [new, binop, em, show sts (bends t l j) = [.p (.str ((t.take j ++ l) ++ t.drop j)), .p (.str ((t.take j ++ l) ++ t.drop (j + 1))), .p (.str (t.take j ++ t.drop (j + 1)))] from rfl]
  have o4 : ev (CN prog (n - 2)) (.bin .add (.var 4) (.lst (.disp (.cons (.slc (.var 1) .no (.some (.var 2))) (.cons (.bin .add (.var 1) (.var 3)) (.cons (.slc (.var 1) (.some (.var 2)) .no) (.cons (.bin .add (.var 1) (.var 1)) (.cons (.bin .add (.var 1) (.lit (.str [32, 62, 32, 97]))) (.cons (.bin .add (.lit (.str [97, 98, 99, 100, 101, 102, 103, 104, 105])) (.var 1)) .nil))))))))) [some .hd, some (.p (.str t)), some (.p (.int (j : Int))), some (.p (.str l)), some (.r 4)] ⟨[.list (sts chrs), .list (sts lit3), .list (sts (chrs ++ lit3)), .list (sts (bends t l j)), .list (sts (bends t l j ++ (bends t l j ++ bends t l j)))], some d2, sc⟩ = .ok (.r 6) ⟨[.list (sts chrs), .list (sts lit3), .list (sts (chrs ++ lit3)), .list (sts (bends t l j)), .list (sts (bends t l j ++ (bends t l j ++ bends t l j))), .list (sts (bends2 t l j)), .list (sts ((bends t l j ++ (bends t l j ++ bends t l j)) ++ bends2 t l j))], some d2, sc⟩ := by
    obtain ⟨_, _, _, E4, E5, E6, E7, E8, E9⟩ := E ⟨[.list (sts chrs), .list (sts lit3), .list (sts (chrs ++ lit3)), .list (sts (bends t l j)), .list (sts (bends t l j ++ (bends t l j ++ bends t l j)))], some d2, sc⟩ (some (.r 4))
    have es : ∀ a b : List (List Nat), sts (a ++ b) = sts a ++ sts b := fun a b => by simp [sts]
    have ln : (sts (bends t l j ++ (bends t l j ++ bends t l j))).length = 9 := rfl
    rw [es _ (bends2 t l j)]
    generalize sts (bends t l j ++ (bends t l j ++ bends t l j)) = G at *
    rw [ev_bin, ev_var, show [some Val.hd, some (.p (.str t)), some (.p (.int (j : Int))), some (.p (.str l)), some (.r 4)][4]? = some (some (.r 4)) from rfl, optB_some, optB_some, R.bd_ok, ev_lst, evL_disp, evs_cons, E4, R.bd_ok, evs_cons, E5, R.bd_ok, evs_cons, E6, R.bd_ok, evs_cons, E7, R.bd_ok, evs_cons, E8, R.bd_ok, evs_cons, E9, R.bd_ok, evs_nil]
    simp -dsimp [new, binop, ln, show sts (bends2 t l j) = [.p (.str (t.take j)), .p (.str (t ++ l)), .p (.str (t.drop j)), .p (.str (t ++ t)), .p (.str (t ++ [32, 62, 32, 97])), .p (.str ([97, 98, 99, 100, 101, 102, 103, 104, 105] ++ t))] from rfl]
  have o5 := e3 _ 6 (show ([.list (sts chrs), .list (sts lit3), .list (sts (chrs ++ lit3)), .list (sts (bends t l j)), .list (sts (bends t l j ++ (bends t l j ++ bends t l j))), .list (sts (bends2 t l j)), .list (sts ((bends t l j ++ (bends t l j ++ bends t l j)) ++ bends2 t l j))] : List Obj)[6]? = _ from rfl)
  have o6 : ev (CN prog (n - 2)) (.draw (.var 0) (.bin .add (.bi .len (.cons (.var 1) .nil)) (.lit (.int 1)))) [some .hd, some (.p (.str t)), none, none, none] ⟨[], some d, sc⟩ = .ok (.p (.int (j : Int))) ⟨[], some d1, sc⟩ := by
    simp -dsimp [biV, lenV, binop, binP, e1]
  simp only [List.append_assoc] at o5
  refine callP (h := [.list (sts chrs), .list (sts lit3), .list (sts (chrs ++ lit3)), .list (sts (bends t l j)), .list (sts (bends t l j ++ (bends t l j ++ bends t l j))), .list (sts (bends2 t l j)), .list (sts ((bends t l j ++ (bends t l j ++ bends t l j)) ++ bends2 t l j))]) (sc := sc) (by omega) rfl rfl rfl rfl rfl ?_
  simp -dsimp [m__law_bent, -ev_bin, -ev_draw, -ev_slc, -ev_lst, o1, o2, o3, o4, o5, o6]
end
end U
/-! R18: the law. -/
namespace U
section
variable {sc : List Int} {n : Nat}
abbrev eL (x0 x2 x3 x4 x5 x6 x7 : Option Val) : Env := [x0, some .hd, x2, x3, x4, x5, x6, x7]
theorem bend1 (hn : 10 ≤ n) {x0 x2 x3 x4 x5 x7 : Option Val} {T : List Nat} (hT : T.length ≤ 100000) (d : Hand) : ∃ t d', Bent T t ∧ ∀ h : List Obj, exs (CN prog n) (forB w_law_0) (eL x0 x2 x3 x4 x5 (some (.p (.str T))) x7) ⟨h, some d, sc⟩ = .next (eL x0 x2 x3 x4 x5 (some (.p (.str t))) x7) ⟨h, some d', sc⟩ := by
  obtain ⟨t, d', hb, e⟩ := s_bent (sc := sc) hT (n + 1) d (by omega)
  refine ⟨t, d', hb, fun h => ?_⟩
  have e := e h
  simp -dsimp [forB, w_law_0, e]
theorem l_bend (hn : 10 ≤ n) {x0 x2 x3 x4 x5 x7 : Option Val} {T : List Nat} (hT : T.length ≤ 3000) (d : Hand) : ∃ t d' y7, Bents T t ∧ ∀ h : List Obj, ex (CN prog n) w_law_0 (eL x0 x2 x3 x4 x5 (some (.p (.str T))) x7) ⟨h, some d, sc⟩ = .next (eL x0 x2 x3 x4 x5 (some (.p (.str t))) y7) ⟨h, some d', sc⟩ := by
  obtain ⟨j, d1, hj, e⟩ := dr d (m := 2) (by decide) (by decide)
  have hI : ∀ h : List Obj, evI (CN prog n) (forI w_law_0) (eL x0 x2 x3 x4 x5 (some (.p (.str T))) x7) ⟨h, some d, sc⟩ = .ok (rangeL 0 1 (j + 1), []) ⟨h, some d1, sc⟩ := fun h => by
    have e := e h sc
    refine evI_rng1 (m := j + 1) ?_ (by omega)
    have e2 : (1 : Int) + (j : Int) = ((j + 1 : Nat) : Int) := by omega
    rw [← e2]
    simp -dsimp [e, binop, binP]
  obtain ⟨t1, d2, b1, e1⟩ := bend1 (sc := sc) hn (x0 := x0) (x2 := x2) (x3 := x3) (x4 := x4) (x5 := x5) (x7 := some (.p (.int 0))) (T := T) (by omega) d1
  by_cases z : j = 0
  · subst z
    exact ⟨t1, d2, _, .inl b1, fun h => for_start rfl (hI h) ((for_cons rfl rfl (e1 h)).trans (for_nil rfl))⟩
  · have z : j = 1 := by omega
    subst z
    have l1 := bent_len b1
    obtain ⟨t2, d3, b2, e2⟩ := bend1 (sc := sc) hn (x0 := x0) (x2 := x2) (x3 := x3) (x4 := x4) (x5 := x5) (x7 := some (.p (.int (0 + 1)))) (T := t1) (by omega) d2
    exact ⟨t2, d3, _, .inr ⟨t1, b1, b2⟩, fun h => for_start rfl (hI h) ((for_cons rfl rfl (e1 h)).trans ((for_cons rfl rfl (e2 h)).trans (for_nil rfl)))⟩
/-! ### told and due -/
theorem told_sm {α : Type} {g : α → PV} {r : Rs α} {N : Nat} (h : ∀ a j, r = .ok a j → (g a).dep ≤ N ∧ (g a).sm) : (toldV g r).dep ≤ N + 1 ∧ (toldV g r).sm := by
  cases r with
  | bad j => exact ⟨by simp [toldV, PV.dep, PV.deps], by simp, trivial, trivial, trivial⟩
  | ok a j =>
    obtain ⟨h1, h2⟩ := h a j rfl
    exact ⟨by simp [toldV, PV.dep, PV.deps]; omega, by simp, trivial, h2, trivial⟩
theorem same_K {t : List Nat} (ht : KdT t) (hn : 175 ≤ n) : ∃ v : PV, ∀ s : S, FN prog n F__law_told [.p (.str t), .p (.bool true)] s = .ok (.p v) s ∧ FN prog n F__law_due [.p (.str t), .p (.bool true)] s = .ok (.p v) s ∧ FN prog n F__law_is [.p v, .p v] s = .ok (.p (.bool true)) s := by
  obtain ⟨tl, d, r, q, hd, hk⟩ := ht
  refine ⟨toldV Kd.v (r.whole t.length), fun s => ⟨?_, ?_, ?_⟩⟩
  · exact told_of (b := true) (by omega) fun s => s_readK (by omega) (by omega) q hk
  · exact due_of (b := true) (by omega) (fun a s => cmQ_isK a s) fun s => s_rkind d q (by omega) (by omega)
  · have := told_sm (g := Kd.v) (r := r.whole t.length) (N := 30) fun a j e => by
      obtain ⟨e1, e2⟩ := Rs.whole_ok e
      subst e2
      exact ⟨by rw [a.v_dep]; exact (hk a e1).2, a.sm⟩
    exact s_law_is 31 _ this.1 this.2 (by omega)
theorem same_P {t : List Nat} (ht : PgT t) (hn : 175 ≤ n) : ∃ v : PV, ∀ s : S, FN prog n F__law_told [.p (.str t), .p (.bool false)] s = .ok (.p v) s ∧ FN prog n F__law_due [.p (.str t), .p (.bool false)] s = .ok (.p v) s ∧ FN prog n F__law_is [.p v, .p v] s = .ok (.p (.bool true)) s := by
  obtain ⟨tl, d, r, q, hd, hk⟩ := ht
  refine ⟨toldV Pg.v (r.whole t.length), fun s => ⟨?_, ?_, ?_⟩⟩
  · exact told_of (b := false) (by omega) fun s => s_readP (by omega) (by omega) q hk
  · exact due_of (b := false) (by omega) (fun a s => cmQ_isT _ s) fun s => s_words (by omega) d q (by omega) (by omega)
  · have := told_sm (g := Pg.v) (r := r.whole t.length) (N := 32) fun a j e => by
      obtain ⟨e1, e2⟩ := Rs.whole_ok e
      subst e2
      exact ⟨Pg.v_dep (hk a e1).1, Pg.sm (hk a e1).2⟩
    exact s_law_is 33 _ this.1 this.2 (by omega)
theorem turn_K (hn : 180 ≤ n) {x0 x2 x3 x5 x6 x7 : Option Val} (d : Hand) : ∃ y6 y7 d', ∀ h : List Obj, exs (CN prog n) (forB w_law_1) (eL x0 x2 x3 (some (.p (.bool true))) x5 x6 x7) ⟨h, some d, sc⟩ = .next (eL x0 x2 x3 (some (.p (.bool true))) x5 y6 y7) ⟨h, some d', sc⟩ := by
  obtain ⟨k, d1, hk, e1⟩ := s_kind (sc := sc) 4 (n + 1) d (by omega)
  have hl := lets16 hk
  have hkl := k.kt_len
  obtain ⟨t, d2, y7, hb, e2⟩ := l_bend (sc := sc) (n := n) (by omega) (x0 := x0) (x2 := x2) (x3 := x3) (x4 := some (.p (.bool true))) (x5 := x5) (x7 := x7) (T := k.kt) (by omega) d1
  obtain ⟨v, e3⟩ := same_K (n := n + 1) (kdT_of hk hb) (by omega)
  refine ⟨some (.p (.str t)), y7, d2, fun h => ?_⟩
  have e1 := e1 h
  have e2 := e2 h
  have f2 := s_lkt k (th_of hk) (n := n + 1) (s := ⟨h, some d1, sc⟩) (by omega)
  obtain ⟨f3, f4, f5⟩ := e3 ⟨h, some d2, sc⟩
  simp at e1
  simp -dsimp [forB, w_law_1, truth, PV.truth, e1, f2, e2, f3, f4, f5]
theorem turn_P (hn : 180 ≤ n) {p : Pg} (hp : p.k2) (hl : p.ws.length ≤ 60) {x0 x2 x5 x6 x7 : Option Val} (d : Hand) : ∃ y6 y7 d', ∀ h : List Obj, exs (CN prog n) (forB w_law_1) (eL x0 x2 (some (.p p.v)) (some (.p (.bool false))) x5 x6 x7) ⟨h, some d, sc⟩ = .next (eL x0 x2 (some (.p p.v)) (some (.p (.bool false))) x5 y6 y7) ⟨h, some d', sc⟩ := by
  obtain ⟨_, _, _, _, _, w⟩ := pt_weights p
  have hpl := (w hp).2
  obtain ⟨t, d2, y7, hb, e2⟩ := l_bend (sc := sc) (n := n) (by omega) (x0 := x0) (x2 := x2) (x3 := some (.p p.v)) (x4 := some (.p (.bool false))) (x5 := x5) (x7 := x7) (T := p.pt) (by omega) d
  obtain ⟨v, e3⟩ := same_P (n := n + 1) (pg_sizes hp hl hb) (by omega)
  refine ⟨some (.p (.str t)), y7, d2, fun h => ?_⟩
  have e2 := e2 h
  have f2 := s_ltext (n := n + 1) (s := ⟨h, some d, sc⟩) hp.th (by omega) (by omega)
  obtain ⟨f3, f4, f5⟩ := e3 ⟨h, some d2, sc⟩
  simp -dsimp [forB, w_law_1, truth, PV.truth, f2, e2, f3, f4, f5]
theorem turn_two (hn : 180 ≤ n) {p : Pg} (hp : p.k2) (hl : p.ws.length ≤ 60) {x0 x2 x4 x5 x6 x7 : Option Val} (d : Hand) : ∃ y4 y6 y7 d', ∀ h : List Obj, ex (CN prog n) w_law_1 (eL x0 x2 (some (.p p.v)) x4 x5 x6 x7) ⟨h, some d, sc⟩ = .next (eL x0 x2 (some (.p p.v)) y4 x5 y6 y7) ⟨h, some d', sc⟩ := by
  obtain ⟨y6, y7, d1, e1⟩ := turn_K (sc := sc) hn (x0 := x0) (x2 := x2) (x3 := some (.p p.v)) (x5 := x5) (x6 := x6) (x7 := x7) d
  obtain ⟨z6, z7, d2, e2⟩ := turn_P (sc := sc) hn hp hl (x0 := x0) (x2 := x2) (x5 := x5) (x6 := y6) (x7 := y7) d1
  refine ⟨some (.p (.bool false)), z6, z7, d2, fun h => ?_⟩
  refine for_start rfl (xs := [.p (.bool true), .p (.bool false)]) (g := []) (s1 := ⟨h, some d, sc⟩) (by simp -dsimp [forI, w_law_1]) ?_
  exact (for_cons rfl rfl (e1 h)).trans ((for_cons rfl rfl (e2 h)).trans (for_nil rfl))
/-! ### what is no text -/
theorem l_deep {d : Option Hand} {x0 : Val} (hx : x0 = .p (.int 0)) : ∀ (xs : List Val) (h : List Obj) (v : Val) (x2 : Option Val), ∃ g v' y2, forS (CN prog n) [] (forT w__law_deep_0) (forB w__law_deep_0) xs [some x0, some v, x2] ⟨h, d, sc⟩ = .next [some x0, some v', y2] ⟨h ++ g, d, sc⟩ ∧ ((∃ a ys, v' = .r a ∧ (h ++ g)[a]? = some (.list ys)) ∨ (xs = [] ∧ v' = v ∧ g = []))
  | [], h, v, x2 => ⟨[], v, x2, by rw [List.append_nil]; exact for_nil rfl, .inr ⟨rfl, rfl, rfl⟩⟩
  | x :: xs, h, v, x2 => by
    obtain ⟨g, v', y2, e, c⟩ := l_deep hx xs (h ++ [.list [v]]) (.r h.length) (some x)
    refine ⟨[.list [v]] ++ g, v', y2, ?_, .inl ?_⟩
    · rw [← List.append_assoc]
      refine (for_cons rfl rfl ?_).trans e
      subst hx
      simp -dsimp [forB, w__law_deep_0, cmQ_ieq, new]
    · rw [← List.append_assoc]
      rcases c with c | ⟨rfl, rfl, rfl⟩
      · exact c
      · exact ⟨h.length, [v], rfl, by rw [List.append_nil]; exact get_end _ _⟩
theorem s_deep (hn : 4 ≤ n) (s : S) : ∃ g a ys, FN prog n F__law_deep [.p (.int 0)] s = .ok (.r a) ⟨s.h ++ g, s.d, s.sc⟩ ∧ (s.h ++ g)[a]? = some (.list ys) := by
  obtain ⟨m, rfl⟩ : ∃ m, n = m + 2 := ⟨n - 2, by omega⟩
  obtain ⟨g, v', y2, e, c⟩ := l_deep (n := m) (sc := s.sc) (d := s.d) rfl (rangeL 0 1 36) s.h (.p .non) none
  rcases c with ⟨a, ys, rfl, hy⟩ | ⟨z, _⟩
  · refine ⟨g, a, ys, ?_, hy⟩
    have e := for_start (s := s) (env := [some (.p (.int 0)), some (.p .non), none]) rfl (evI_rng1 (m := 36) (s1 := s) (by simp) (by omega)) e
    unfold FN fnOf
    rw [show prog.fns[F__law_deep]? = some m__law_deep from rfl]
    simp only [show m__law_deep.raw = true from rfl, Bool.true_or, if_true]
    rw [runG_eq, body_eq (F := m__law_deep) rfl rfl]
    simp -dsimp [m__law_deep, e]
  · exact absurd z (by simp [rangeL])
theorem s_someR (m : Nat) (h0 : 0 < m) (hm : m ≤ 1000) (hn : 4 ≤ n) (d : Hand) : ∃ (j : Nat) (d' : Hand), ∀ (h : List Obj) (a : Nat) (xs : List Val), h[a]? = some (.list xs) → xs.length = m → (Obj.list xs).pure = false → ∃ x, x ∈ xs ∧ FN prog n F__law_some [.hd, .r a] ⟨h, some d, sc⟩ = .ok x ⟨h, some d', sc⟩ := by
  obtain ⟨q, rfl⟩ : ∃ q, n = q + 2 := ⟨n - 2, by omega⟩
  obtain ⟨j, d1, h1, e1⟩ := dr d (m := (m : Int)) (by omega) (by omega)
  refine ⟨j, d1, fun h a xs ha hl hp => ?_⟩
  have hj : j < xs.length := by omega
  have hx : atI xs (j : Int) = some xs[j] := atI_nat hj
  refine ⟨xs[j], List.getElem_mem hj, ?_⟩
  have hB : footB [.hd, .r a] ⟨h, some d, sc⟩ = false := by
    unfold footB
    simp [refs, gather, ha, hp]
  unfold FN fnOf
  rw [show prog.fns[F__law_some]? = some m__law_some from rfl]
  simp only [show m__law_some.raw = false from rfl, show m__law_some.dyn = true from rfl, hB, Bool.not_false, Bool.true_and, Bool.false_or, if_true]
  rw [runG_eq, body_eq (F := m__law_some) rfl rfl]
  simp -dsimp [m__law_some, biV, lenV, ha, hl, e1, idxV, hx]
theorem law_turn (hn : 180 ≤ n) {x0 x2 x3 x4 x5 x6 x7 : Option Val} (h : List Obj) (d : Hand) : ∃ (y3 y4 y5 y6 y7 : Option Val) (h' : List Obj) (d' : Hand),
    exs (CN prog n) (forB w_law_2) (eL x0 x2 x3 x4 x5 x6 x7) ⟨h, some d, sc⟩ = .next (eL x0 x2 y3 y4 y5 y6 y7) ⟨h', some d', sc⟩ := by
  obtain ⟨ps, d1, hps, hpl, e1⟩ := s_known (sc := sc) (n + 1) d (by omega)
  obtain ⟨p, d2, hp, hl, e2⟩ := s_someP (sc := sc) (n := n + 1) (by omega) hps (by omega) d1
  obtain ⟨y4, y6, y7, d3, e3⟩ := turn_two (sc := sc) hn hp hl (x0 := x0) (x2 := x2) (x4 := x4) (x5 := x5) (x6 := x6) (x7 := x7) d2
  obtain ⟨j, d4, e4⟩ := s_someR (sc := sc) (n := n + 1) 9 (by omega) (by omega) (by omega) d3
  obtain ⟨g, a, ys, e5, ha⟩ := s_deep (n := n + 1) (by omega) ⟨h ++ [.list [.p (.str [97])], .dict []], some d3, sc⟩
  obtain ⟨xs, exs_⟩ : ∃ xs : List Val, xs = [.p .non, .p (.int 0), .p (.bool true), .r h.length, .p (.tup [.str [97]]), .r (h.length + 1), .p (.tup []), .r a, .p (.int (10 ^ 29))] := ⟨_, rfl⟩
  obtain ⟨H, eH⟩ : ∃ H, H = h ++ [.list [.p (.str [97])], .dict []] ++ g := ⟨_, rfl⟩
  have g0 : (H ++ [.list xs])[h.length]? = some (.list [.p (.str [97])]) := by
    rw [eH, List.append_assoc, List.append_assoc, List.getElem?_append_right (by omega)]; simp
  have g1 : (H ++ [.list xs])[h.length + 1]? = some (.dict []) := by
    rw [eH, List.append_assoc, List.append_assoc, List.getElem?_append_right (by omega)]; simp
  simp only [← eH] at e5 ha
  have g2 : (H ++ [.list xs])[a]? = some (.list ys) := by rw [List.getElem?_append_left (lt_of_get ha)]; exact ha
  obtain ⟨x, hx, e6⟩ := e4 (H ++ [.list xs]) H.length xs (get_end _ _) (by rw [exs_]; rfl) (by rw [exs_]; rfl)
  have hN : NS x ⟨H ++ [.list xs], some d4, sc⟩ := by
    rw [exs_] at hx
    simp only [List.mem_cons, List.not_mem_nil, or_false] at hx
    rcases hx with rfl | rfl | rfl | rfl | rfl | rfl | rfl | rfl | rfl
    · trivial
    · trivial
    · trivial
    · exact .inl ⟨_, g0⟩
    · trivial
    · exact .inr ⟨_, g1⟩
    · trivial
    · exact .inl ⟨_, g2⟩
    · trivial
  obtain ⟨k1, t1⟩ := s_toldX (n := n + 1) (b := true) (by omega) hN
  obtain ⟨k2, t2⟩ := s_toldX (n := n + 1) (b := false) (by omega) (hN.app k1 (some d4) sc)
  simp only [List.append_assoc, List.cons_append, List.nil_append] at t1 t2
  refine ⟨some (.p p.v), y4, some x, y6, y7, H ++ [.list xs] ++ k1 ++ k2, d4, ?_⟩
  have e1 := e1 h
  have e1 : FN prog (n + 1) F__law_known [.hd, .p (.int 3)] ⟨h, some d, sc⟩ = .ok (.p (knownV ps)) ⟨h, some d1, sc⟩ := e1
  have e2 := e2 h
  have e3 := e3 h
  have pw : ∀ s : S, binop .pow (.p (.int 10)) (.p (.int 29)) s = .ok (.p (.int (10 ^ 29))) s := fun s => rfl
  have ls : ∀ env : Env, ev (CN prog n) (.lst (.disp (.cons (.lit .non) (.cons (.lit (.int 0)) (.cons (.lit (.bool true)) (.cons (.lst (.disp (.cons (.lit (.str [97])) .nil))) (.cons (.tup (.cons (.lit (.str [97])) .nil)) (.cons .dnew (.cons (.tup .nil) (.cons (.call F__law_deep (.cons (.lit (.int 0)) .nil)) (.cons (.bin .pow (.lit (.int 10)) (.lit (.int 29))) .nil))))))))))) env ⟨h, some d3, sc⟩ = .ok (.r H.length) ⟨H ++ [.list xs], some d3, sc⟩ := fun env => by
    simp -dsimp [new, e5, pw, exs_, show mkTup [] = .p (.tup []) from rfl]
  have tt : ∀ s : S, cmpV .ne (.p (.tup [.str sText, .int (-1)])) (.p (.tup [.str [116, 101, 120, 116], .int (-1)])) s = some false := fun s => rfl
  simp -dsimp [-ev_lst, forB, w_law_2, e1, e2, e3, ls, e6, t1, t2, tt]
theorem law_turns (hn : 180 ≤ n) {x0 : Option Val} : ∀ (xs : List Val) (x2 x3 x4 x5 x6 x7 : Option Val) (h : List Obj) (d : Hand), ∃ (y2 y3 y4 y5 y6 y7 : Option Val) (h' : List Obj) (d' : Hand),
    forS (CN prog n) [] (forT w_law_2) (forB w_law_2) xs (eL x0 x2 x3 x4 x5 x6 x7) ⟨h, some d, sc⟩ = .next (eL x0 y2 y3 y4 y5 y6 y7) ⟨h', some d', sc⟩
  | [], x2, x3, x4, x5, x6, x7, h, d => ⟨x2, x3, x4, x5, x6, x7, h, d, for_nil rfl⟩
  | x :: xs, x2, x3, x4, x5, x6, x7, h, d => by
    obtain ⟨y3, y4, y5, y6, y7, h', d', e⟩ := law_turn (sc := sc) hn (x0 := x0) (x2 := some x) (x3 := x3) (x4 := x4) (x5 := x5) (x6 := x6) (x7 := x7) h d
    obtain ⟨z2, z3, z4, z5, z6, z7, h2, d2, e2⟩ := law_turns hn xs (some x) y3 y4 y5 y6 y7 h' d'
    exact ⟨z2, z3, z4, z5, z6, z7, h2, d2, (for_cons rfl rfl e).trans e2⟩
end
theorem law_true (sc : List Int) : ∃ s', runG loop prog 202 F_law [.sc] ⟨[], none, sc⟩ = .ok (.p (.bool true)) s' := by
  obtain ⟨y2, y3, y4, y5, y6, y7, h', d', w⟩ := law_turns (sc := sc) (n := 200) (by omega) (x0 := some .sc) (rangeL 0 1 4) none none none none none none [] (Hand.start sc)
  have w := for_start (s := ⟨[], some (Hand.start sc), sc⟩) rfl (evI_rng1 (m := 4) (s1 := ⟨[], some (Hand.start sc), sc⟩) (by simp) (by omega)) w
  refine ⟨⟨h', some d', sc⟩, ?_⟩
  rw [show runG loop prog 202 F_law [.sc] ⟨[], none, sc⟩ = body prog (CN prog 200) F_law [.sc] ⟨[], none, sc⟩ from rfl, body_eq (F := m_law) rfl rfl]
  simp -dsimp [m_law, handV, w]
end U
section
open PySem PySem.W PySem.Calls PyProof.Rows
theorem PySem.Challenge.cw_usecounts_k11_whole_first_wrong_signs_holds : PySem.Challenge.rw_usecounts_k11_whole_first_wrong_signs.Holds := by
  w_on; o_law
  refine HandSHeadRun.head_any (r := OpenLaw.row PySem.Challenge.rw_usecounts_k11_whole_first_wrong_signs) (q := view (OpenLaw.row PySem.Challenge.rw_usecounts_k11_whole_first_wrong_signs).prog [59]) (H := U.hk) (ob := U.ob) (M := 6000) (loose := U.loose) (d := HandSHeadRun.topDef (OpenLaw.row PySem.Challenge.rw_usecounts_k11_whole_first_wrong_signs).prog 59) (kwd := []) U.ob_eq
    (by kernel_rfl) (fun s => by kernel_rfl) U.head_run (by kernel_rfl) (by kernel_rfl) (by kernel_rfl) (by rfl) (by first | assumption | decide +kernel) (by decide +kernel) ⟨rfl, rfl, rfl, rfl, rfl, by decide +kernel⟩ ?hw ?hc
  case hw => w_witness2
  case hc =>
    exact U.law_end (L := U.lawD) (n := 202) (fl := 46) (ql := U.de_law) (x := "_law_script") rfl (by kernel_rfl) ⟨rfl, by decide, by decide⟩ (fun _ _ h => h) U.lawD_ok U.bds U.xbs rfl (by kernel_rfl) (by decide +kernel) fun ns _ => U.law_true ns
end
