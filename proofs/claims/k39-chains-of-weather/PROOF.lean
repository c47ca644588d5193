import PyProof.Rows.All
import Wide.All
import OpenK.AllK
import Wide.FinOn
import HandS.ForMost
import KE.SortData
import KE.DataCmp
import KE.DataEq
import KE.DatumOrd
import HandS.AnyAll
import HandS.Conv
import HandS.Deep
import HandS.IsInst
import HandS.TupAny
import HandS.TupMul
import HandS.Wide
import HandS.Style
import HandS.NoneIn
import HandS.Gcd
import HandS.ExcIs
import HandS.Exc
import HandS.ExcCtx
import HandS.SuiteRaise
import KE.DataMinMax
import KE.DataAny
import KE.KTupSum
import HandS.Hot
import HandS.HotCalls
import HandS.Comp
import HandS.Iter
import HandS.Zip
import HandS.Rev
import KE.KDictList
import HandS.Star
import HandS.GenOver
import HandS.GenList
import PyProof.SumWalk
import KE.GoesEnum
import HandS.Dict
import HandS.SetFor
import HandS.Codes
import HandS.EndTab
import HandS.Text
import PySem.Challenge.RW_campslaid_k39_whole_chains_of_weather
set_option Elab.async false
set_option linter.all false
set_option maxRecDepth 100000
/-! Fw: a small language of data, its meaning -/
namespace Fw
open PySem

abbrev D := PyData

inductive Bop where
  | add | sub | mul | fdiv | mod | pow | shl | shr | band | bor | bxor
  deriving DecidableEq, Repr
inductive Cop where
  | eq | ne | lt | le | gt | ge | is | isnot | isin | notin
  deriving DecidableEq, Repr
inductive Bi where
  | len | abs | min | max | sum | tuple | list | sorted | int | all | any | gcd
  deriving DecidableEq, Repr
inductive Ty where
  | int | bool | str | tuple | list | dict
  deriving DecidableEq, Repr
inductive Gc where
  | all | any | sum | max | min | tuple | sorted
  deriving DecidableEq, Repr
inductive Tg where
  | name (i : Nat)
  | tup (ts : List Tg)
  | tupT (ts : List Tg)
  deriving Repr

inductive E where
  | var (i : Nat)
  | non | bl (b : Bool) | int (i : Int) | str (x : Str)
  | glob (k : Nat)
  | tup (es : List E) | lst (es : List E) | tupS (a : E) (es : List E) | lrng (a : E)
  | bin (o : Bop) (a b : E) | neg (a : E)
  | cmp (o : Cop) (a b : E) | chain (o p : Cop) (a b c : E)
  | and (a b : E) | or (a b : E) | not (a : E) | ite (c a b : E)
  | ix (a b : E) | sl (a : E) (lo hi : Option E) | rev (a : E)
  | call (f : Nat) (es : List E) | callM (f i : Nat) (es : List E)
  | bi (b : Bi) (es : List E) | isi (a : E) (t : Ty)
  | rng (es : List E) | enum (es : List E) | zip (es : List E) | revd (a : E) | dkl (a : E)
  | lc (elt : E) (tg : Tg) (it : E) (cond : Option E) (own : List Nat)
  | lc2 (elt : E) (tg : Tg) (it : E) (cond : Option E) (tg2 : Tg) (it2 : E) (cond2 : Option E) (own own2 : List Nat)
  | gen (c : Gc) (elt : E) (tg : Tg) (it : E) (cond : Option E) (own : List Nat)
  | pop (i : Nat) | idx (a b : E) | cnt (a b : E)
  | isx (a : E) (ys ns : List Str)
  | hotL (a : E)
  deriving Repr

inductive S where
  | set (tg : Tg) (e : E)
  | par (is : List Nat) (es : List E)
  | aug (i : Nat) (o : Bop) (e : E)
  | app (i : Nat) (e : E)
  | rem (i : Nat) (e : E)
  | setIx (i : Nat) (k e : E)
  | iff (c : E) (a b : List S)
  | forS (tg : Tg) (it : E) (body : List S)
  | forR (tg : Tg) (i : Nat) (body : List S)
  | while (c : E) (body : List S)
  | ret (io : Bool) (e : E) | retN | expr (e : E) | pass | brk | cont
  | raise (k : Nat)
  | tryS (body : List S) (i : Nat) (nms : List Str) (h : S)
  deriving Repr

/-! ### data -/
def isScal : D → Bool
  | .none | .bool _ | .int _ | .str _ => true
  | _ => false
/-- an exception of the class nm -/
def excD (nm : Str) : D := .dict [(.none, .str nm)]
/-- the class of an exception -/
def excNm : D → Option Str
  | .dict [(.none, .str nm)] => some nm
  | _ => none
def isExc (d : D) : Bool := (excNm d).isSome
/-- no dicts within, nested at most n deep -/
def okN : Nat → D → Bool
  | 0, d => isScal d
  | n + 1, .list xs => xs.all (okN n)
  | n + 1, .tuple xs => xs.all (okN n)
  | _ + 1, d => isScal d
mutual
def noMut : D → Bool
  | .list _ => false
  | .dict _ => false
  | .tuple xs => noMutAll xs
  | _ => true
def noMutAll : List D → Bool
  | [] => true
  | x :: xs => noMut x && noMutAll xs
end
def truthy : D → Option Bool
  | .none => some false
  | .bool b => some b
  | .int i => some (i != 0)
  | .str x => if x.length ≤ sizeLine then some (x.length != 0) else none
  | .list xs => some (!xs.isEmpty)
  | .tuple xs => some (!xs.isEmpty)
  | .dict _ => none
def eqD (a b : D) : Option Bool := if okN 40 a && okN 40 b then some (PyData.eqv a b) else none
def ltD (a b : D) : Option Bool := match a, b with
  | .int i, .int j => some (decide (i < j))
  | .none, _ => none
  | _, _ => if PySem.W.alike a b && okN 40 a && okN 40 b then some (PySem.W.dataLt a b) else none
def leD (a b : D) : Option Bool := match a, b with
  | .int i, .int j => some (decide (i ≤ j))
  | .none, _ => none
  | _, _ => if PySem.W.alike a b && okN 40 a && okN 40 b then some (!PySem.W.dataLt b a) else none
def inD (x c : D) : Option Bool := match c with
  | .list ys => if okN 40 x && okN 40 c then some (ys.any fun y => PyData.eqv y x) else none
  | .tuple ys => if okN 40 x && okN 40 c then some (ys.any fun y => PyData.eqv y x) else none
  | _ => none
/-- x is y, of what may be asked -/
def isD (a b : D) : Option Bool := match b with
  | .none => some (match a with | .none => true | _ => false)
  | .bool c => some (match a with | .bool b => b == c | _ => false)
  | _ => none
def cmpD (o : Cop) (a b : D) : Option Bool := match o with
  | .eq => eqD a b
  | .ne => (eqD a b).map (!·)
  | .lt => ltD a b
  | .le => leD a b
  | .gt => ltD b a
  | .ge => leD b a
  | .is => isD a b
  | .isnot => (isD a b).map (!·)
  | .isin => inD a b
  | .notin => (inD a b).map (!·)

/-- how large factors may be -/
@[irreducible] def BIG : Nat := 2 ^ 100000
def divI (i j : Int) : Int := if 0 < j then i / j else i.fdiv j
def modI (i j : Int) : Int := if 0 < j then i % j else i.fmod j
inductive Rv where
  | val (d : D)
  | new (d : D)
def Rv.data : Rv → D
  | .val d => d
  | .new d => d
def binD (o : Bop) (a b : D) : Option Rv := match o, a, b with
  | .add, .int i, .int j => some (.val (.int (i + j)))
  | .add, .int i, .bool c => some (.val (.int (i + if c then 1 else 0)))
  | .add, .list xs, .list ys => if xs.length + ys.length ≤ sizeLine then some (.new (.list (xs ++ ys))) else none
  | .add, .tuple xs, .tuple ys => if xs.length + ys.length ≤ sizeLine then some (.val (.tuple (xs ++ ys))) else none
  | .add, .str x, .str y => if x.length + y.length ≤ sizeLine then some (.val (.str (x ++ y))) else none
  | .sub, .int i, .int j => some (.val (.int (i - j)))
  | .mul, .int i, .int j => if (i.natAbs < BIG ∧ j.natAbs < BIG) ∨ j.natAbs < 2 ^ 63 ∨ i.natAbs < 2 ^ 63 then some (.val (.int (i * j))) else none
  | .mul, .list xs, .int k => if xs.length * k.toNat ≤ sizeLine ∧ k.natAbs < 2 ^ 63 then some (.new (.list (List.replicate k.toNat xs).flatten)) else none
  | .mul, .tuple xs, .int k => if -1000 ≤ k ∧ k ≤ 1000 ∧ xs.length ≤ 1000 then some (.val (.tuple (List.replicate k.toNat xs).flatten)) else none
  | .fdiv, .int i, .int j => if (0 < j ∧ j.natAbs < 2 ^ 9000) ∨ (j ≠ 0 ∧ j.natAbs < 1073741824) then some (.val (.int (divI i j))) else none
  | .mod, .int i, .int j => if j ≠ 0 then some (.val (.int (modI i j))) else none
  | .pow, .int i, .int j => if 0 ≤ j ∧ j ≤ 1000000 ∧ i.natAbs < 2 ^ 64 then some (.val (.int (i ^ j.toNat))) else none
  | .shl, .int i, .int j => if 0 ≤ j ∧ j ≤ 1000000 ∧ i.natAbs < 2 ^ 64 then some (.val (.int (i * 2 ^ j.toNat))) else none
  | .shr, .int i, .int j => if 0 ≤ j then some (.val (.int (i / 2 ^ j.toNat))) else none
  | .band, .int i, .int j => some (.val (.int (Builtin.bitAnd i j)))
  | .bor, .int i, .int j => some (.val (.int (Builtin.bitOr i j)))
  | .bxor, .int i, .int j => some (.val (.int (Builtin.bitXor i j)))
  | _, _, _ => none
def seqOf : D → Option (List D)
  | .list xs => some xs
  | .tuple xs => some xs
  | _ => none
def intsOf : List D → Option (List Int)
  | [] => some []
  | .int i :: r => (intsOf r).map (i :: ·)
  | _ :: _ => none
def boolsOf : List D → Option (List Bool)
  | [] => some []
  | .bool b :: r => (boolsOf r).map (b :: ·)
  | _ :: _ => none
/-- the place k of n -/
abbrev place (k : Int) (n : Nat) : Option Nat := L2.ixN n k
def ixD (a b : D) : Option D := match a, b with
  | .list xs, .int k => (place k xs.length).bind fun j => xs[j]?
  | .tuple xs, .int k => (place k xs.length).bind fun j => xs[j]?
  | _, _ => none
def cutL (xs : List D) (lo hi : Option Int) : List D :=
  let a := HT.sIx xs.length 0 lo
  let b := HT.sIx xs.length xs.length hi
  (xs.drop a).take (b - a)
def slD (a : D) (lo hi : Option Int) : Option Rv := match a with
  | .list xs => some (.new (.list (cutL xs lo hi)))
  | .tuple xs => some (.val (.tuple (cutL xs lo hi)))
  | _ => none
def revD : D → Option Rv
  | .list xs => some (.new (.list xs.reverse))
  | .tuple xs => some (.val (.tuple xs.reverse))
  | _ => none
/-- one kind at each place, no None, no dict: may be put in order -/
def alikeL (xs : List D) : Bool := xs.all fun x => okN 40 x && xs.all fun y => PySem.W.alike x y
def noneAny (xs : List D) : Bool := xs.any fun x => match x with | .none => true | _ => false
def leB (a b : D) : Bool := !PySem.W.dataLt b a
def minL (x : D) (xs : List D) : D := xs.foldl (fun m y => if PySem.W.dataLt y m then y else m) x
def maxL (x : D) (xs : List D) : D := xs.foldl (fun m y => if PySem.W.dataLt m y then y else m) x
/-- the extreme of a list of alike things -/
def bestL (mx : Bool) (xs : List D) : Option D := match xs with
  | [] => none
  | x :: r => if alikeL (x :: r) && !noneAny (x :: r) then some (if mx then maxL x r else minL x r) else none
def sortL (xs : List D) : Option (List D) := if alikeL xs && !noneAny xs && !xs.any (fun x => match x with | .tuple [] => true | _ => false) then some (xs.mergeSort leB) else none
def tupOf : D → Option (List D)
  | .tuple xs => if xs.length ≤ 1000000 then some xs else none
  | _ => none
def lrngD : D → Option Rv
  | .int n => if n.natAbs ≤ 2 ^ 62 ∧ n.toNat ≤ 1000000 then some (.new (.list ((List.range n.toNat).map fun k => .int (k : Nat)))) else none
  | _ => none
def lrevD : D → Option Rv
  | .list xs => some (.new (.list xs.reverse))
  | _ => none
def gcdI (i j : Int) : Int := (Nat.gcd i.natAbs j.natAbs : Nat)
def one1 {α : Type} (f : D → Option α) : List D → Option α
  | [d] => f d
  | _ => none
def lenD : D → Option Rv
  | .list xs => some (.val (.int xs.length))
  | .tuple xs => some (.val (.int xs.length))
  | .str x => if x.length ≤ sizeLine then some (.val (.int x.length)) else none
  | _ => none
def absD : D → Option Rv
  | .int i => some (.val (.int (if i < 0 then -i else i)))
  | _ => none
def best1 (mx : Bool) (d : D) : Option Rv := (seqOf d).bind fun xs => (bestL mx xs).map .val
def tupOnly : D → Bool
  | .list _ => false
  | .dict _ => false
  | _ => true
def bestA (mx : Bool) (a b : D) : Option D := if alikeL [a, b] && [a, b].all tupOnly && !noneAny [a, b] then some (if mx then maxL a [b] else minL a [b]) else none
def best2 (mx : Bool) (a b : D) : Option Rv := match a, b with
  | .int i, .int j => some (.val (.int (if mx then (if j > i then j else i) else (if j < i then j else i))))
  | a, b => (bestA mx a b).map .val
def bestD (mx : Bool) : List D → Option Rv
  | [d] => best1 mx d
  | [a, b] => best2 mx a b
  | [a, b, c, d] => match a, b, c, d with
    | .int i, .int j, .int k, .int l => some (.val (if mx then maxL (.int i) [.int j, .int k, .int l] else minL (.int i) [.int j, .int k, .int l]))
    | _, _, _, _ => none
  | _ => none
def sumD (d : D) : Option Rv := (seqOf d).bind fun xs => (intsOf xs).map fun ns => .val (.int ns.sum)
def tupD (d : D) : Option Rv := (seqOf d).map fun xs => .val (.tuple xs)
def lstD (d : D) : Option Rv := (seqOf d).map fun xs => .new (.list xs)
def sortD (d : D) : Option Rv := (seqOf d).bind fun xs => (sortL xs).map fun ys => .new (.list ys)
def intD : D → Option Rv
  | .int i => some (.val (.int i))
  | .bool c => some (.val (.int (if c then 1 else 0)))
  | _ => none
def allD : D → Option Rv
  | .list xs => (boolsOf xs).map fun bs => .val (.bool (bs.all id))
  | _ => none
def anyD : D → Option Rv
  | .list xs => (boolsOf xs).map fun bs => .val (.bool (bs.any id))
  | _ => none
def gcdD : List D → Option Rv
  | [.int i, .int j] => some (.val (.int (gcdI i j)))
  | _ => none
def biD (b : Bi) : List D → Option Rv := match b with
  | .len => one1 lenD
  | .abs => one1 absD
  | .min => bestD false
  | .max => bestD true
  | .sum => one1 sumD
  | .tuple => one1 tupD
  | .list => one1 lstD
  | .sorted => one1 sortD
  | .int => one1 intD
  | .all => one1 allD
  | .any => one1 anyD
  | .gcd => gcdD
def isiD (d : D) (t : Ty) : Bool := match t, d with
  | .int, .int _ => true
  | .int, .bool _ => true
  | .bool, .bool _ => true
  | .str, .str _ => true
  | .tuple, .tuple _ => true
  | .list, .list _ => true
  | .dict, .dict kvs => !isExc (.dict kvs)
  | _, _ => false
/-- isinstance of an exception, a class of one's own: ys its classes, ns all others -/
def isxD (d : D) (ys ns : List Str) : Option Bool := match excNm d with
  | some nm => if ys.contains nm then some true else if ns.contains nm then some false else none
  | none => none
/-- the pairs of enumerate, of zip -/
def enumD : List D → Option (List D)
  | [d] => (seqOf d).map fun xs => (List.range xs.length).zip xs |>.map fun p => .tuple [.int (p.1 : Nat), p.2]
  | _ => none
def zipD : List D → Option (List D)
  | [d, e] => (seqOf d).bind fun xs => (seqOf e).map fun ys => xs.zip ys |>.map fun p => .tuple [p.1, p.2]
  | _ => none
/-- the keys of pairs, all integers -/
def keysOf : List D → Option (List Int)
  | [] => some []
  | .tuple [.int k, _] :: r => (keysOf r).map (k :: ·)
  | _ :: _ => none
/-- each once, in the order in which they come -/
def onceI (acc : List Int) (ks : List Int) : List Int := ks.foldl (fun acc k => if acc.contains k then acc else acc ++ [k]) acc
/-- list(dict(pairs)) -/
def dklD : D → Option Rv
  | .list ps => (keysOf ps).map fun ks => .new (.list ((onceI [] ks).map .int))
  | _ => none
def isBI : D → Bool
  | .bool _ => true
  | .int _ => true
  | _ => false
def idxD (a x : D) : Option Int := match a with
  | .list ys => if isBI x && ys.all isBI then (ys.findIdx? fun y => PyData.eqv y x).map fun j : Nat => Int.ofNat j else none
  | _ => none
def cntD (a x : D) : Option Int := match seqOf a with
  | some ys => if okN 40 x && ys.all (okN 40) then some ((ys.filter fun y => PyData.eqv y x).length : Nat) else none
  | none => none

/-! ### the state -/
inductive Sl where
  | no
  | fz (d : D)
  | ow (d : D)
abbrev Env := List Sl
/-- an operand: a slot's own container, a value, a new container -/
inductive Op where
  | ref (i : Nat)
  | val (d : D)
  | new (d : D)
def Rv.op : Rv → Op
  | .val d => .val d
  | .new d => .new d
inductive Res (α : Type) where
  | ok (a : α) (r : Env)
  | ex (c : Nat) (r : Env)
  | no
abbrev M (α : Type) := Env → Res α
def Res.bd {α β : Type} : Res α → (α → M β) → Res β
  | .ok a r, f => f a r
  | .ex c r, _ => .ex c r
  | .no, _ => .no
def bd {α β : Type} (m : M α) (f : α → M β) : M β := fun r => (m r).bd f
def ret {α : Type} (a : α) : M α := fun r => .ok a r
def opt {α : Type} (o : Option α) : M α := fun r => match o with
  | some a => .ok a r
  | none => .no
def dataAt (r : Env) (i : Nat) : Option D := match r[i]? with
  | some (.fz d) => some d
  | some (.ow d) => some d
  | _ => none
/-- what an operand is now -/
def rd : Op → M D
  | .ref i => fun r => opt (dataAt r i) r
  | .val d => ret d
  | .new d => ret d
/-- a slot's container is from now on known to others -/
def freeze (i : Nat) (r : Env) : Env := match r[i]? with
  | some (.ow d) => r.set i (.fz d)
  | _ => r
def esc : Op → M D
  | .ref i => fun r => opt (dataAt r i) (freeze i r)
  | .val d => ret d
  | .new d => ret d
def rdAll : List Op → M (List D)
  | [] => ret []
  | o :: os => bd (rd o) fun d => bd (rdAll os) fun ds => ret (d :: ds)
def escAll : List Op → M (List D)
  | [] => ret []
  | o :: os => bd (esc o) fun d => bd (escAll os) fun ds => ret (d :: ds)
/-- behind a call: what may be known to others -/
def after (os : List Op) (d : D) (r : Env) : Env := if noMut d then r else os.foldl (fun r o => match o with | .ref i => freeze i r | _ => r) r
def wipe (own : List Nat) (r : Env) : Env := own.foldl (fun r i => r.set i .no) r
/-- the slots of own as in r0 -/
def back (own : List Nat) (r0 r : Env) : Env := own.foldl (fun r i => r.set i (r0.getD i .no)) r
inductive COut where
  | ret (v : Rv) (d0 : D)
  | ex (c : Nat) (d0 : D)
  | no
abbrev CE := Nat → List D → COut
mutual
def asg : Tg → D → Env → Option Env
  | .name i, d, r => if i < r.length then some (r.set i (.fz d)) else none
  | .tup ts, d, r => match seqOf d with
    | some ds => asgs ts ds r
    | none => none
  | .tupT ts, d, r => match d with
    | .tuple ds => asgs ts ds r
    | _ => none
def asgs : List Tg → List D → Env → Option Env
  | [], [], r => some r
  | t :: ts, d :: ds, r => (asg t d r).bind fun r' => asgs ts ds r'
  | _, _, _ => none
end
def asgM (t : Tg) (d : D) : M Unit := fun r => match asg t d r with
  | some r' => .ok () r'
  | none => .no
/-- what is walked: a list as it is, or a slot's container as it stands -/
inductive Src where
  | fixed (xs : List D)
  | byref (i : Nat)
/-- a turn for each item: the list of what the turns give -/
def lcFix (turn : D → M (Option D)) : List D → List D → M (List D)
  | [], acc => ret acc
  | x :: xs, acc => bd (turn x) fun o => lcFix turn xs (match o with | some d => acc ++ [d] | none => acc)
def lcRef (turn : D → M (Option D)) (i : Nat) : Nat → Nat → List D → M (List D)
  | 0, _, _ => fun _ => .no
  | n + 1, k, acc => fun r => match dataAt r i with
    | some (.list ys) => match ys[k]? with
      | some x => bd (turn x) (fun o => lcRef turn i n (k + 1) (match o with | some d => acc ++ [d] | none => acc)) r
      | none => .ok acc r
    | _ => .no
def lcFix2 (turn : D → List D → M (List D)) : List D → List D → M (List D)
  | [], acc => ret acc
  | x :: xs, acc => bd (turn x acc) fun acc' => lcFix2 turn xs acc'
def lcRef2 (turn : D → List D → M (List D)) (i : Nat) : Nat → Nat → List D → M (List D)
  | 0, _, _ => fun _ => .no
  | n + 1, k, acc => fun r => match dataAt r i with
    | some (.list ys) => match ys[k]? with
      | some x => bd (turn x acc) (fun acc' => lcRef2 turn i n (k + 1) acc') r
      | none => .ok acc r
    | _ => .no
/-- the two loops of a comprehension with two clauses -/
def lcRun2 (turn : D → List D → M (List D)) : Src → M (List D)
  | .fixed xs => fun r => if xs.length ≤ 3000 then lcFix2 turn xs [] r else .no
  | .byref i => lcRef2 turn i 3001 0 []
def lcRunA (turn : D → M (Option D)) (s : Src) (acc : List D) : M (List D) := match s with
  | .fixed xs => fun r => if xs.length ≤ 3000 then lcFix turn xs acc r else .no
  | .byref i => lcRef turn i 3001 0 acc
def lcRun (turn : D → M (Option D)) : Src → M (List D)
  | .fixed xs => lcFix turn xs []
  | .byref i => lcRef turn i sizeLine 0 []
def isOwn (i : Nat) : M Unit := fun r => match r[i]? with
  | some (.ow _) => .ok () r
  | _ => .no
def srcOf (own : List Nat) : Op → M Src
  | .ref i => if own.contains i then opt none else bd (isOwn i) fun _ => ret (.byref i)
  | .val d => opt ((seqOf d).map .fixed)
  | .new d => opt ((seqOf d).map .fixed)
/-- all, any: in order, until it is known -/
def quick (c : Bool) (turn : D → M (Option D)) : List D → M Bool
  | [] => ret (!c)
  | x :: xs => bd (turn x) fun o => match o with
    | none => quick c turn xs
    | some (.bool b) => if b == c then ret c else quick c turn xs
    | some _ => opt none
def quickRef (c : Bool) (turn : D → M (Option D)) (i : Nat) : Nat → Nat → M Bool
  | 0, _ => fun _ => .no
  | n + 1, k => fun r => match dataAt r i with
    | some (.list ys) => match ys[k]? with
      | some x => bd (turn x) (fun o => match o with
        | none => quickRef c turn i n (k + 1)
        | some (.bool b) => if b == c then ret c else quickRef c turn i n (k + 1)
        | some _ => opt none) r
      | none => .ok (!c) r
    | _ => .no
def quickRun (c : Bool) (turn : D → M (Option D)) : Src → M Bool
  | .fixed xs => quick c turn xs
  | .byref i => quickRef c turn i sizeLine 0
def genFin : Gc → List D → Option Rv
  | .sum, xs => biD .sum [.list xs]
  | .max, xs => biD .max [.list xs]
  | .min, xs => biD .min [.list xs]
  | .tuple, xs => biD .tuple [.list xs]
  | .sorted, xs => biD .sorted [.list xs]
  | _, _ => none
def genRun (c : Gc) (turn : D → M (Option D)) (s : Src) : M Op := match c with
  | .all => bd (quickRun false turn s) fun b => ret (.val (.bool b))
  | .any => bd (quickRun true turn s) fun b => ret (.val (.bool b))
  | c => bd (lcRun turn s) fun xs => bd (opt (genFin c xs)) fun v => ret v.op
/-- a block of its own: nothing may be raised in it -/
def inOwn (own : List Nat) (m : M Op) : M Op := fun r => match m r with
  | .ok a r' => .ok a (back own r r')
  | .ex _ _ => .no
  | .no => .no
def wiped (own : List Nat) : M Unit := fun r => .ok () (wipe own r)
def rangeOf : List D → Option (List D)
  | [.int n] => if n.toNat ≤ sizeLine ∧ n.natAbs ≤ 2 ^ 62 then some ((List.range n.toNat).map fun k => .int (k : Nat)) else none
  | [.int a, .int b] => if (b - a).toNat ≤ sizeLine ∧ a.natAbs < 2 ^ 62 ∧ b.natAbs < 2 ^ 62 then some ((List.range (b - a).toNat).map fun k => .int (a + (k : Nat))) else none
  | [.int a, .int b, .int c] => if c ≠ 0 ∧ c.natAbs < 1073741824 ∧ Builtin.Range.small a b c = true ∧ (Builtin.Range.rangeSize a b c).toNat ≤ sizeLine then
      some ((List.range (Builtin.Range.rangeSize a b c).toNat).map fun k => .int (a + (k : Nat) * c)) else none
  | _ => none
def getCall (f : CE) (k : Nat) (os : List Op) (ds : List D) : M Op := fun r => match f k ds with
  | .ret v _ => .ok v.op (after os v.data r)
  | .ex c _ => .ex c (after os (.list []) r)
  | .no => .no
def noRef (i : Nat) (os : List Op) : Bool := os.all fun o => match o with
  | .ref j => i != j
  | _ => true
def getCallM (f : CE) (k i : Nat) (os : List Op) (ds : List D) : M Op := fun r => match r[i]? with
  | some (.ow d) => if noRef i os = false then .no else match f k (d :: ds) with
    | .ret v d' => .ok v.op (after os (.list []) (r.set i (.ow d')))
    | .ex c d' => .ex c (after os (.list []) (r.set i (.ow d')))
    | .no => .no
  | _ => .no
def popM (i : Nat) : M Op := fun r => match r[i]? with
  | some (.ow (.list xs)) => match xs.getLast? with
    | some d => .ok (.val d) (r.set i (.ow (.list xs.dropLast)))
    | none => .no
  | _ => .no
def intO : Option D → Option (Option Int)
  | none => some none
  | some (.int i) => some (some i)
  | _ => none
/-- its truth -/
def tsM (m : M Op) : M Bool := bd m fun x => bd (rd x) fun d => opt (truthy d)
section
variable (G : Nat → Option D) (f : CE)
mutual
def ev : E → M Op
  | .var i => fun r => match r[i]? with
    | some (.fz d) => .ok (.val d) r
    | some (.ow _) => .ok (.ref i) r
    | _ => .no
  | .non => ret (.val .none)
  | .bl b => ret (.val (.bool b))
  | .int i => ret (.val (.int i))
  | .str x => ret (.val (.str x))
  | .glob k => opt ((G k).map .val)
  | .tup es => bd (evs es) fun os => bd (escAll os) fun ds => ret (.val (.tuple ds))
  | .lst es => bd (evs es) fun os => bd (escAll os) fun ds => ret (.new (.list ds))
  | .tupS a es => bd (ev a) fun x => bd (rd x) fun d => bd (opt (tupOf d)) fun xs => bd (evs es) fun os => bd (escAll os) fun ds => ret (.val (.tuple (xs ++ ds)))
  | .lrng a => bd (ev a) fun x => bd (rd x) fun d => bd (opt (lrngD d)) fun v => ret v.op
  | .bin o a b => bd (ev a) fun x => bd (ev b) fun y => bd (rd x) fun d => bd (rd y) fun e => bd (opt (binD o d e)) fun v => ret v.op
  | .neg a => bd (ev a) fun x => bd (rd x) fun d => match d with
    | .int i => ret (.val (.int (-i)))
    | _ => opt none
  | .cmp o a b => bd (ev a) fun x => bd (ev b) fun y => bd (rd x) fun d => bd (rd y) fun e => bd (opt (cmpD o d e)) fun b => ret (.val (.bool b))
  | .chain o p a b c => bd (ev a) fun x => bd (ev b) fun y => bd (rd x) fun d => bd (rd y) fun e => bd (opt (cmpD o d e)) fun t =>
      if t then bd (ev c) fun z => bd (rd y) fun e => bd (rd z) fun g => bd (opt (cmpD p e g)) fun b => ret (.val (.bool b)) else ret (.val (.bool false))
  | .and a b => bd (ev a) fun x => bd (rd x) fun d => bd (opt (truthy d)) fun t => if t then ev b else ret x
  | .or a b => bd (ev a) fun x => bd (rd x) fun d => bd (opt (truthy d)) fun t => if t then ret x else ev b
  | .not a => bd (tsM (ev a)) fun t => ret (.val (.bool (!t)))
  | .ite c a b => bd (tsM (ev c)) fun t => if t then ev a else ev b
  | .ix a b => bd (ev a) fun x => bd (ev b) fun y => bd (rd x) fun d => bd (rd y) fun e => bd (opt (ixD d e)) fun v => ret (.val v)
  | .sl a lo hi => bd (ev a) fun x => bd (evO lo) fun y => bd (evO hi) fun z => bd (rd x) fun d => bd (opt (slD d y z)) fun v => ret v.op
  | .rev a => bd (ev a) fun x => bd (rd x) fun d => bd (opt (revD d)) fun v => ret v.op
  | .call k es => bd (evs es) fun os => bd (rdAll os) fun ds => getCall f k os ds
  | .callM k i es => bd (isOwn i) fun _ => bd (evs es) fun os => bd (rdAll os) fun ds => getCallM f k i os ds
  | .bi b es => bd (evs es) fun os => bd (rdAll os) fun ds => bd (opt (biD b ds)) fun v => ret v.op
  | .isi a t => bd (ev a) fun x => bd (rd x) fun d => ret (.val (.bool (isiD d t)))
  | .rng es => bd (evs es) fun os => bd (rdAll os) fun ds => bd (opt (rangeOf ds)) fun xs => ret (.val (.list xs))
  | .enum es => bd (evs es) fun os => bd (escAll os) fun ds => bd (opt (enumD ds)) fun xs => ret (.val (.list xs))
  | .zip es => bd (evs es) fun os => bd (escAll os) fun ds => bd (opt (zipD ds)) fun xs => ret (.val (.list xs))
  | .revd a => bd (ev a) fun x => bd (rd x) fun d => bd (opt (lrevD d)) fun v => ret v.op
  | .lc elt tg it c own => bd (ev it) fun x => bd (srcOf own x) fun s => inOwn own (bd (lcRun (fun d => bd (wiped own) fun _ => bd (asgM tg d) fun _ => bd (tstO c) fun t =>
      if t then bd (ev elt) fun o => bd (esc o) fun e => ret (some e) else ret none) s) fun ds => ret (.new (.list ds)))
  | .lc2 elt tg it c tg2 it2 c2 own own2 => bd (ev it) fun x => bd (srcOf own x) fun s => inOwn own (bd (lcRun2 (fun d acc => bd (wiped own) fun _ => bd (asgM tg d) fun _ => bd (tstO c) fun t =>
      if t then bd (ev it2) fun x2 => bd (srcOf own x2) fun s2 => lcRunA (fun d2 => bd (wiped own2) fun _ => bd (asgM tg2 d2) fun _ => bd (tstO c2) fun t2 =>
        if t2 then bd (ev elt) fun o => bd (esc o) fun e => ret (some e) else ret none) s2 acc else ret acc) s) fun ds => ret (.new (.list ds)))
  | .gen c elt tg it cond own => bd (ev it) fun x => bd (srcOf own x) fun s => inOwn own (genRun c (fun d => bd (wiped own) fun _ => bd (asgM tg d) fun _ => bd (tstO cond) fun t =>
      if t then bd (ev elt) fun o => bd (esc o) fun e => ret (some e) else ret none) s)
  | .pop i => popM i
  | .isx a ys ns => bd (ev a) fun x => bd (rd x) fun d => bd (opt (isxD d ys ns)) fun b => ret (.val (.bool b))
  | .dkl a => bd (ev a) fun x => bd (rd x) fun d => bd (opt (dklD d)) fun v => ret v.op
  | .hotL a => bd (ev a) fun x => bd (rd x) fun d => bd (opt (lrevD d)) fun _ => ret x
  | .idx a b => bd (ev a) fun x => bd (rd x) fun d0 => bd (opt (lrevD d0)) fun _ => bd (ev b) fun y => bd (rd x) fun d => bd (rd y) fun e => bd (opt (idxD d e)) fun k => ret (.val (.int k))
  | .cnt a b => bd (ev a) fun x => bd (ev b) fun y => bd (rd x) fun d => bd (rd y) fun e => bd (opt (cntD d e)) fun k => ret (.val (.int k))
def evs : List E → M (List Op)
  | [] => ret []
  | e :: es => bd (ev e) fun o => bd (evs es) fun os => ret (o :: os)
def evO : Option E → M (Option Int)
  | none => ret none
  | some e => bd (ev e) fun x => bd (rd x) fun d => opt (intO (some d))
def tstO : Option E → M Bool
  | none => ret true
  | some e => tsM (ev e)
end
/-! ### statements -/
inductive Out where
  | nx | bk | ct
  | rt (v : Rv)
def isOw (r : Env) (i : Nat) : Bool := match r[i]? with
  | some (.ow _) => true
  | _ => false
def rvOf (io : Bool) (o : Op) : M Rv := match o with
  | .ref i => fun r => if io && (i == 0 || !isOw r 0) then .no else match r[i]? with
    | some (.ow d) => .ok (.new d) r
    | _ => .no
  | .val d => ret (.val d)
  | .new d => ret (.new d)
/-- an operand into a slot -/
def put (i : Nat) (o : Op) : M Unit := fun r => if i < r.length then (match o with
  | .ref j => match dataAt r j with
    | some d => .ok () ((freeze j r).set i (.fz d))
    | none => .no
  | .val d => .ok () (r.set i (.fz d))
  | .new d => .ok () (r.set i (.ow d))) else .no
def opNr : Op → Bool
  | .ref _ => false
  | _ => true
/-- operands, none of them a slot, into slots -/
def puts : List Nat → List Op → M Unit
  | [], [] => ret ()
  | i :: is, o :: os => bd (put i o) fun _ => puts is os
  | _, _ => fun _ => .no
def putT (t : Tg) (o : Op) : M Unit := match t with
  | .name i => put i o
  | .tup ts => bd (rd o) fun d => asgM (.tup ts) d
  | .tupT _ => fun _ => .no
def appM (i : Nat) (d : D) : M Unit := fun r => match r[i]? with
  | some (.ow (.list xs)) => if xs.length < sizeLine then .ok () (r.set i (.ow (.list (xs ++ [d])))) else .no
  | _ => .no
/-- the first such integer goes -/
def remM (i : Nat) (d : D) : M Unit := fun r => match r[i]? with
  | some (.ow (.list xs)) => match intsOf xs, d with
    | some ns, .int k => if ns.contains k then .ok () (r.set i (.ow (.list ((ns.erase k).map .int)))) else .no
    | _, _ => .no
  | _ => .no
def setIxM (i : Nat) (k d : D) : M Unit := fun r => match r[i]? with
  | some (.ow (.list xs)) => match k with
    | .int k => match place k xs.length with
      | some j => .ok () (r.set i (.ow (.list (xs.set j d))))
      | none => .no
    | _ => .no
  | _ => .no
def afterL (next : M Out) : Out → M Out
  | .nx => next
  | .ct => next
  | .bk => ret .nx
  | .rt v => ret (.rt v)
def forL (body : D → M Out) : List D → M Out
  | [] => ret .nx
  | x :: xs => bd (body x) (afterL (forL body xs))
/-- over the container in slot i as it stands at each turn -/
def forRL (body : D → M Out) (i : Nat) : Nat → Nat → M Out
  | 0, _ => fun _ => .no
  | n + 1, k => fun r => match dataAt r i with
    | some (.list ys) => match ys[k]? with
      | some x => bd (body x) (afterL (forRL body i n (k + 1))) r
      | none => .ok .nx r
    | _ => .no
def whileL (c : M Bool) (body : M Out) : Nat → M Out
  | 0 => fun _ => .no
  | n + 1 => bd c fun t => if t then bd body (afterL (whileL c body n)) else ret .nx
def FUEL : Nat := 2 ^ 70
/-- try: body, except all of them as slot i: what h does -/
def catchM (i : Nat) (nms : List Str) (body h : M Out) : M Out := fun r => match body r with
  | .ok o r' => .ok o r'
  | .ex c r' => match nms[c]? with
    | some nm => if i < r'.length then (match h (r'.set i (.fz (excD nm))) with
      | .ok o r2 => .ok o (r2.set i .no)
      | _ => .no) else .no
    | none => .no
  | .no => .no
def augD (o : Bop) (d e : D) : Option D := match o, d, e with
  | .add, .int i, .int j => some (.int (i + j))
  | .sub, .int i, .int j => some (.int (i - j))
  | _, _, _ => none
mutual
def ex : S → M Out
  | .set t e => bd (ev G f e) fun o => bd (putT t o) fun _ => ret .nx
  | .par is es => bd (evs G f es) fun os => if os.all opNr = true then bd (puts is os) fun _ => ret .nx else bd (escAll os) fun ds => bd (asgM (.tup (is.map .name)) (.tuple ds)) fun _ => ret .nx
  | .aug i o e => bd (rd (.ref i)) fun d => bd (ev G f e) fun x => bd (rd x) fun g => bd (opt (augD o d g)) fun v => bd (put i (.val v)) fun _ => ret .nx
  | .app i e => bd (isOwn i) fun _ => bd (ev G f e) fun o => bd (esc o) fun d => bd (appM i d) fun _ => ret .nx
  | .rem i e => bd (isOwn i) fun _ => bd (ev G f e) fun o => bd (esc o) fun d => bd (remM i d) fun _ => ret .nx
  | .setIx i k e => bd (ev G f e) fun o => bd (esc o) fun d => bd (isOwn i) fun _ => bd (ev G f k) fun y => bd (rd y) fun kd => bd (setIxM i kd d) fun _ => ret .nx
  | .iff c a b => bd (tsM (ev G f c)) fun t => if t then exs a else exs b
  | .forS t it body => bd (ev G f it) fun x => bd (srcOf [] x) fun s => match s with
    | .fixed xs => forL (fun y => bd (asgM t y) fun _ => exs body) xs
    | .byref _ => opt none
  | .forR t i body => bd (ev G f (.var i)) fun x => bd (srcOf [] x) fun s => match s with
    | .fixed xs => forL (fun y => bd (asgM t y) fun _ => exs body) xs
    | .byref i => forRL (fun y => bd (asgM t y) fun _ => exs body) i FUEL 0
  | .while c body => whileL (tsM (ev G f c)) (exs body) FUEL
  | .ret io e => bd (ev G f e) fun o => bd (rvOf io o) fun v => ret (.rt v)
  | .retN => ret (.rt (.val .none))
  | .expr e => bd (ev G f e) fun _ => ret .nx
  | .pass => ret .nx
  | .brk => ret .bk
  | .cont => ret .ct
  | .raise k => fun r => .ex k r
  | .tryS body i nms h => catchM i nms (exs body) (ex h)
def exs : List S → M Out
  | [] => ret .nx
  | s :: r => bd (ex s) fun o => match o with
    | .nx => exs r
    | o => ret o
end
end
/-! ### programs -/
structure Def where
  np : Nat
  nn : Nat
  io : Bool
  body : List S
def startE (d : Def) (ds : List D) : Env := match d.io, ds with
  | true, d0 :: r => .ow d0 :: (r.map .fz ++ List.replicate (d.nn - d.np) .no)
  | _, ds => ds.map .fz ++ List.replicate (d.nn - d.np) .no
def outOf (r : Res Out) : COut := match r with
  | .ok (.rt v) r => .ret v ((dataAt r 0).getD .none)
  | .ok .nx r => .ret (.val .none) ((dataAt r 0).getD .none)
  | .ok _ _ => .no
  | .ex c r => .ex c ((dataAt r 0).getD .none)
  | .no => .no
def callF (G : Nat → Option D) (P : List Def) : Nat → CE
  | 0 => fun _ _ => .no
  | n + 1 => fun k ds => match P[k]? with
    | some d => if ds.length = d.np then outOf (exs G (callF G P n) d.body (startE d ds)) else .no
    | none => .no
end Fw

/-! Fw: from the program's text to the small language -/
namespace Fw
open PySem

structure Cc where
  N : List Str
  defs : List (Str × Bool)
  glo : List Str
  sc : Scope
  st : List Str
  io : Bool
  gcd : Bool
  gd : Bool := true
  xT : List (Str × List Str) := []
  ca : Bool := true
  hb : Bool := false
  hot : List Str := []
  hc : Bool := false
def ixOf {α : Type} [BEq α] (x : α) : List α → Option Nat
  | [] => none
  | y :: r => if y == x then some 0 else (ixOf x r).map (· + 1)
def slotOf (c : Cc) (x : Str) : Option Nat := match c.sc.names.lookup x with
  | some .local => ixOf x c.N
  | some .cell => ixOf x c.N
  | some .free => ixOf x c.N
  | _ => none
def isGl (c : Cc) (x : Str) : Bool := match c.sc.names.lookup x with
  | some .globalImplicit => true
  | _ => false
def ownOf (N : List Str) (sc : Scope) : List (Str × Nat) := sc.names.filterMap fun y => match y.2 with
  | .local => (ixOf y.1 N).map fun i => (y.1, i)
  | .cell => (ixOf y.1 N).map fun i => (y.1, i)
  | _ => none
def bopOf : Operator → Option Bop
  | .Add => some .add | .Sub => some .sub | .Mult => some .mul | .FloorDiv => some .fdiv | .Mod => some .mod | .Pow => some .pow
  | .LShift => some .shl | .RShift => some .shr | .BitAnd => some .band | .BitOr => some .bor | .BitXor => some .bxor
  | _ => none
def copOf : CmpOp → Cop
  | .Eq => .eq | .NotEq => .ne | .Lt => .lt | .LtE => .le | .Gt => .gt | .GtE => .ge | .Is => .is | .IsNot => .isnot | .In => .isin | .NotIn => .notin
def biTab : List (Str × Bi) := [("len", .len), ("abs", .abs), ("min", .min), ("max", .max), ("sum", .sum), ("tuple", .tuple), ("list", .list), ("sorted", .sorted), ("int", .int), ("all", .all), ("any", .any), ("gcd", .gcd)]
def tyTab : List (Str × Ty) := [("int", .int), ("bool", .bool), ("str", .str), ("tuple", .tuple), ("list", .list), ("dict", .dict)]
def gcTab : List (Str × Gc) := [("all", .all), ("any", .any), ("sum", .sum)]
/-- the classes that are x, those that are not -/
def subsOf (t : List (Str × List Str)) (x : Str) : List Str := (t.filter fun y => y.2.contains x).map Prod.fst
def restOf (t : List (Str × List Str)) (x : Str) : List Str := (t.filter fun y => !y.2.contains x).map Prod.fst
/-- built-ins that work within a handler, too -/
def hotBi : Bi → Bool
  | .len | .abs | .int | .tuple | .list => true
  | _ => false
/-- (*a, ..) -/
def starOf : List Expr → Option (Expr × List Expr)
  | .Starred a _ :: es => some (a, es)
  | _ => none
/-- list(reversed(a)) -/
def revArg (f : Str) (args : List Expr) : Option (Str × Expr) := if f == "list" then (match args with
  | [.Call (.Name g _) [a] [] _] => some (g, a)
  | _ => none) else none
def isTupE : Expr → Bool
  | .Tuple .. => true
  | _ => false
def isList : Expr → Bool
  | .List .. => true
  | _ => false
def dotOk (sc : Scope) : Bool := match sc.names.lookup (".0" : Str) with
  | some .local => true
  | _ => false
def noCell (sc : Scope) : Bool := sc.names.all fun y => match y.2 with
  | .cell => false
  | _ => true
mutual
def cTg (c : Cc) : Nat → Expr → Option Tg
  | 0, _ => none
  | n + 1, e => match e with
    | .Name x _ => if c.st.contains x then (match slotOf c x with
      | some i => if c.io && i == 0 then none else some (.name i)
      | none => none) else none
    | .Tuple es _ _ => if c.ca then (cTgs c n es).map .tup else if c.hb then (cTgs c n es).map .tupT else none
    | _ => none
def cTgs (c : Cc) : Nat → List Expr → Option (List Tg)
  | 0, _ => none
  | _, [] => some []
  | n + 1, e :: es => (cTg c n e).bind fun t => (cTgs c n es).map fun ts => t :: ts
end
mutual
def tgSl : Tg → List Nat
  | .name i => [i]
  | .tup ts => tgsSl ts
  | .tupT ts => tgsSl ts
def tgsSl : List Tg → List Nat
  | [] => []
  | t :: ts => tgSl t ++ tgsSl ts
end
/-- none or one condition -/
def ifsOf (f : Expr → Option E) : List Expr → Option (Option E)
  | [] => some none
  | [t] => (f t).map some
  | _ => none
def foldBool (f : E → E → E) : List E → Option E
  | [] => none
  | [a] => some a
  | a :: r => (foldBool f r).map fun b => f a b
mutual
def cE (c : Cc) : Nat → Expr → Option E
  | 0, _ => none
  | n + 1, e => match e with
    | .Name x _ => match slotOf c x with
      | some i => some (.var i)
      | none => if isGl c x then (ixOf x c.glo).map .glob else none
    | .Constant (.int i) _ _ => some (.int i)
    | .Constant (.bool b) _ _ => some (.bl b)
    | .Constant .none _ _ => some .non
    | .Constant (.str x) _ _ => some (.str x)
    | .Tuple es _ _ => if es.length ≤ 1000 then (match starOf es with
      | some (a, es) => (cE c n a).bind fun a => (cEs c n es).map fun es => .tupS a es
      | none => (cEs c n es).map .tup) else none
    | .List es _ => if es.length ≤ 1000 then (cEs c n es).map .lst else none
    | .BinOp a o b _ => (bopOf o).bind fun o => (cE c n a).bind fun a => (cE c n b).map fun b => .bin o a b
    | .UnaryOp .USub a _ => (cE c n a).map .neg
    | .UnaryOp .Not a _ => (cE c n a).map .not
    | .BoolOp .And es _ => (cEs c n es).bind (foldBool .and)
    | .BoolOp .Or es _ => (cEs c n es).bind (foldBool .or)
    | .Compare a [o] [b] _ => (cE c n a).bind fun a => (cE c n b).map fun b => .cmp (copOf o) a b
    | .Compare a [o, p] [b, d] _ => (cE c n a).bind fun a => (cE c n b).bind fun b => (cE c n d).map fun d => .chain (copOf o) (copOf p) a b d
    | .IfExp t a b _ => (cE c n t).bind fun t => (cE c n a).bind fun a => (cE c n b).map fun b => .ite t a b
    | .Subscript a (.Slice none none (some (.UnaryOp .USub (.Constant (.int 1) _ _) _)) _) _ => (cE c n a).map .rev
    | .Subscript a (.Slice lo hi none _) _ => (cE c n a).bind fun a => (cO c n lo).bind fun lo => (cO c n hi).map fun hi => .sl a lo hi
    | .Subscript a b _ => (cE c n a).bind fun a => (cE c n b).map fun b => .ix a b
    | .Call (.Attribute (.Name x _) m apos) args [] pos => match slotOf c x with
      | none => none
      | some i => match args with
        | [] => if m == "pop" && apos.endLine == pos.line then some (.pop i) else none
        | [b] => if m == "index" && apos.endLine == pos.line then (cE c n b).map (fun ib => .idx (.var i) ib) else none
        | _ => none
    | .Call (.Name f _) [.GeneratorExp elt [⟨tg, it, ifs, 0⟩] scope _] [] _ => if isGl c f then match gcTab.lookup f with
        | none => none
        | some g =>
          let c2 : Cc := { c with sc := scope, st := (ownOf c.N scope).map Prod.fst, gd := false, hc := false }
          if c.gd && c.ca && L2.blkC c.N c.sc scope (ownOf c.N scope) && noCell scope && !scope.isCoroutine && !isList it && dotOk scope && !c.N.contains (".0" : Str) then
          (cIt c n tg it).bind fun it => (cTg c2 n tg).bind fun tg => (cE c2 n elt).bind fun elt => match ifs with
            | [] => some (.gen g elt tg it none ((ownOf c.N scope).map Prod.snd))
            | [t] => (cE c2 n t).map fun t => .gen g elt tg it (some t) ((ownOf c.N scope).map Prod.snd)
            | _ => none else none
      else none
    | .Call (.Name f _) args [] _ => if isGl c f then match c.defs.lookup f with
        | some io => if (c.ca && c.hot.contains f) || (!c.ca && (io || args.isEmpty || !(c.hc && c.hot.contains f))) then none else match ixOf f (c.defs.map Prod.fst) with
          | none => none
          | some k => if io then (match args with
              | .Name x _ :: rest => match slotOf c x with
                | some i => (cEs c n rest).map fun es => .callM k i es
                | none => none
              | _ => none) else (cEs c n args).map fun es => .call k es
        | none => if f == "isinstance" then (match args with
            | [a, .Name t _] => if isGl c t then (match tyTab.lookup t with
              | some t => (cE c n a).map fun a => .isi a t
              | none => if (c.xT.lookup t).isSome then (cE c n a).map fun a => .isx a (subsOf c.xT t) (restOf c.xT t) else none) else none
            | _ => none) else match revArg f args with
 | some (g, a) => if c.ca = false then none else if g == "reversed" && isGl c g then (cE c n a).map .revd else if g == "range" && isGl c g then (cE c n a).map .lrng else if g == "dict" && isGl c g then (cE c n a).map .dkl else none
          | none => match biTab.lookup f with
          | some b => if (b == .gcd && !c.gcd) || (!c.ca && !hotBi b) then none else (cEs c n args).map fun es => .bi b es
          | none => none
      else none
    | .ListComp elt [⟨tg, it, ifs, 0⟩] scope _ =>
      let c2 : Cc := { c with sc := L2.relS scope c.sc, st := (ownOf c.N scope).map Prod.fst, hc := false }
      if ((c.ca || c.hb) && L2.blkC c.N c.sc scope (ownOf c.N scope)) = false then none else
      (if c.ca then cIt c n tg it else (cE c n it).map .hotL).bind fun it => (cTg c2 n tg).bind fun tg => (cE c2 n elt).bind fun elt => match ifs with
        | [] => some (.lc elt tg it none ((ownOf c.N scope).map Prod.snd))
        | [t] => (cE c2 n t).map fun t => .lc elt tg it (some t) ((ownOf c.N scope).map Prod.snd)
        | _ => none
    | .ListComp elt [⟨tg, it, ifs, 0⟩, ⟨tg2, it2, ifs2, 0⟩] scope _ =>
      let c2 : Cc := { c with sc := L2.relS scope c.sc, st := (ownOf c.N scope).map Prod.fst, hc := false }
      if (c.ca && L2.blkC c.N c.sc scope (ownOf c.N scope)) = false then none else
      (cIt c n tg it).bind fun it => (cTg c2 n tg).bind fun tg => (ifsOf (cE c2 n) ifs).bind fun ic => (cIt c2 n tg2 it2).bind fun it2 => (cTg c2 n tg2).bind fun tg2 => (ifsOf (cE c2 n) ifs2).bind fun ic2 => (cE c2 n elt).map fun elt =>
        .lc2 elt tg it ic tg2 it2 ic2 ((ownOf c.N scope).map Prod.snd) (tgSl tg2)
    | _ => none
def cO (c : Cc) : Nat → Option Expr → Option (Option E)
  | 0, _ => none
  | _, none => some none
  | n + 1, some e => (cE c n e).map some
def cEs (c : Cc) : Nat → List Expr → Option (List E)
  | 0, _ => none
  | _, [] => some []
  | n + 1, e :: es => (cE c n e).bind fun t => (cEs c n es).map fun ts => t :: ts
def cIt (c : Cc) : Nat → Expr → Expr → Option E
  | 0, _, _ => none
  | n + 1, tg, e => match e with
    | .Call (.Name f _) args [] _ => if isGl c f && (c.defs.lookup f).isNone then
        if f == "range" then (if 1 ≤ args.length ∧ args.length ≤ 3 then (cEs c n args).map .rng else none)
        else if f == "enumerate" then (if isTupE tg && args.length == 1 then (cEs c n args).map .enum else none)
        else if f == "zip" then (if isTupE tg && args.length == 2 then (cEs c n args).map .zip else none)
        else if f == "reversed" then none
        else if f == "dict" then (match args with
          | [a] => if c.ca then (cE c n a).map .dkl else none
          | _ => none)
        else cE c n e else cE c n e
    | _ => cE c n e
end
def stOf (sc : Scope) : List Str := sc.names.filterMap fun y => match y.2 with
  | .local => some y.1
  | .cell => some y.1
  | _ => none
def isLoc (c : Cc) (x : Str) : Bool := match c.sc.names.lookup x with
  | some .local => true
  | _ => false
/-- the names of a tuple target, as the order of the stores asks -/
def swN (c : Cc) (ts : List Expr) : List Str :=
  let line := (ts.head?.map (·.pos.line)).getD 0
  ts.filterMap fun
    | .Name id pos => if c.sc.names.lookup id == some .local && pos.line == line then some id else none
    | _ => none
/-- stored in the plain order -/
def regSw (c : Cc) (ts vs : List Expr) : Bool :=
  (!(ts.length == 2 || ts.length == 3) || vs.length != ts.length) || ((swN c ts).length != ts.length || (swN c ts).eraseDups.length != (swN c ts).length) || vs.all (foldedForSure 8)
def parOk (c : Cc) (ts vs : List Expr) : Bool := !vs.all (constantsAlone 8)
def isComp : Expr → Bool
  | .ListComp .. => true
  | .SetComp .. => true
  | .DictComp .. => true
  | _ => false

mutual
def asgS : S → List Nat
  | .set t _ => tgSl t
  | .par is _ => is
  | .aug i _ _ => [i]
  | .iff _ a b => asgSs a ++ asgSs b
  | .forS t _ b => tgSl t ++ asgSs b
  | .forR t _ b => tgSl t ++ asgSs b
  | .while _ b => asgSs b
  | .tryS b i _ _ => i :: asgSs b
  | _ => []
def asgSs : List S → List Nat
  | [] => []
  | s :: r => asgS s ++ asgSs r
end
def namesOf : List Tg → Option (List Nat)
  | [] => some []
  | .name i :: ts => (namesOf ts).map (i :: ·)
  | _ => none
/-- a tuple's items to names, each by itself -/
def mkSet (t : Tg) (e : E) : S := match t, e with
  | .tup ts, .tup es => match namesOf ts with
    | some is => .par is es
    | none => .set (.tup ts) (.tup es)
  | t, e => .set t e
def noS : E → Bool
  | .tupS _ _ => false
  | _ => true
def mkFor (t : Tg) (e : Expr) (it : E) (b : List S) : S := match e, it with
  | .Name _ _, .var i => if (tgSl t ++ asgSs b).contains i then .forS t it b else .forR t i b
  | _, _ => .forS t it b
/-- statements that work within a suite -/
def hotSt : Stmt → Bool
  | .Assign [.Name _ _] _ _ => true
  | .If .. => true
  | .Return .. => true
  | _ => false
mutual
def cS (c : Cc) : Nat → Stmt → Option S
  | 0, _ => none
  | n + 1, s => if !c.ca && !hotSt s then none else match s with
    | .Assign [.Tuple [.Name x px, .Name y py] k tp] (.Tuple [a, b] k2 vp) _ =>
      if regSw c [.Name x px, .Name y py] [a, b] then (cTg c n (.Tuple [.Name x px, .Name y py] k tp)).bind fun t => (cE c n (.Tuple [a, b] k2 vp)).bind fun e => if noS e then some (mkSet t e) else none
      else if parOk c [.Name x px, .Name y py] [a, b] then (match slotOf c x, slotOf c y with
        | some i, some j => if i == j || (c.io && (i == 0 || j == 0)) then none else (cEs c n [a, b]).map fun es => .par [i, j] es
        | _, _ => none) else none
    | .Assign [.Tuple [.Name x px, .Name y py, .Name z pz] k tp] (.Tuple [a, b, d] k2 vp) _ =>
      if regSw c [.Name x px, .Name y py, .Name z pz] [a, b, d] then (cTg c n (.Tuple [.Name x px, .Name y py, .Name z pz] k tp)).bind fun t => (cE c n (.Tuple [a, b, d] k2 vp)).bind fun e => if noS e then some (mkSet t e) else none
      else if parOk c [.Name x px, .Name y py, .Name z pz] [a, b, d] then (match slotOf c x, slotOf c y, slotOf c z with
        | some i, some j, some l => if i == j || i == l || j == l || (c.io && (i == 0 || j == 0 || l == 0)) then none else (cEs c n [a, b, d]).map fun es => .par [i, j, l] es
        | _, _, _ => none) else none
    | .Assign [.Tuple ts k tp] (.Tuple vs k2 vp) _ =>
      if regSw c ts vs then (cTg c n (.Tuple ts k tp)).bind fun t => (cE c n (.Tuple vs k2 vp)).bind fun e => if noS e then some (mkSet t e) else none else none
    | .Assign [.Subscript (.Name x _) k _] e _ => match slotOf c x with
      | some i => (cE c n e).bind fun e => (cE c n k).map fun k => .setIx i k e
      | none => none
    | .Assign [t] e _ => (cTg c n t).bind fun t => (cE c n e).map fun e => .set t e
    | .AugAssign (.Name x _) o e _ => match slotOf c x with
      | some i => if !c.st.contains x || (c.io && i == 0) then none else match o with
        | .Add => (cE c n e).map fun e => .aug i .add e
        | .Sub => (cE c n e).map fun e => .aug i .sub e
        | _ => none
      | none => none
    | .Expr (.Call (.Attribute (.Name x _) m apos) [a] [] cpos) _ => match slotOf c x with
      | some i => if m == "append" && apos.endLine == cpos.line then (cE c n a).map fun a => .app i a
        else if m == "remove" && apos.endLine == cpos.line then (cE c n a).map fun a => .rem i a else none
      | none => none
    | .Expr e _ => if isComp e then none else (cE c n e).map .expr
    | .If t a b _ => (cE c n t).bind fun t => (cSs c n a).bind fun a => (cSs c n b).map fun b => .iff t a b
    | .For t it body [] _ => (cTg c n t).bind fun itg => (cIt c n t it).bind fun iit => (cSs c n body).map fun b => mkFor itg it iit b
    | .While t body [] _ => (cE c n t).bind fun t => (cSs c n body).map fun b => .while t b
    | .Raise (some (.Call (.Name x _) [.Constant (.str _) _ _] [] _)) none _ => if isGl c x then (ixOf x (c.xT.map Prod.fst)).map .raise else none
    | .Try body [.ExceptHandler (some (.Name x _)) (some y) [.Return (some e) _] _] [] [] _ => match slotOf c y with
      | some i => if c.ca && isGl c x && (c.xT.lookup x).isSome && c.xT.all (fun z => z.2.contains x) && isLoc c y && !c.io then
          (cSs c n body).bind fun b => (cHd c n e).map fun h => .tryS b i (c.xT.map Prod.fst) h else none
      | none => none
    | .Return (some e) _ => (cE c n e).map (.ret c.io)
    | .Return none _ => some .retN
    | .Pass _ => some .pass
    | .Break _ => some .brk
    | .Continue _ => some .cont
    | _ => none
/-- what a handler returns -/
def cHd (c : Cc) : Nat → Expr → Option S
  | 0, _ => none
  | n + 1, e => (cE { c with ca := false, gd := false, hb := true, hc := true } n e).map (.ret false)
def cSs (c : Cc) : Nat → List Stmt → Option (List S)
  | 0, _ => none
  | _, [] => some []
  | n + 1, e :: es => (cS c n e).bind fun t => (cSs c n es).map fun ts => t :: ts
end
/-- a def of the program -/
structure Dn where
  name : Str
  at_ : Nat
  N : List Str
  io : Bool
def psOf (s : Stmt) : List Str := (L2.defArgs s).args.map (·.arg)
def cDef (gc : Bool) (defs : List (Str × Bool)) (glo : List Str) (s : Stmt) (d : Dn) : Option Def :=
  (cSs { N := d.N, defs := defs, glo := glo, sc := L2.defScope s, st := stOf (L2.defScope s), io := d.io, gcd := gc } 1000 (L2.defBody s)).map fun b => { np := (psOf s).length, nn := d.N.length, io := d.io, body := b }
end Fw

/-! Fw: data over the abstract heap -/
namespace Fw
open PySem PySem.Spec PyProof.Rows L2

abbrev St := L2.St
/-- a list that is never written again -/
def FzL (K : PySem.W.Frag) (H : Hp) (a : Addr) (xs : List V) : Prop :=
  (∃ o, H a = some (.frz o (.lst xs))) ∨
    ∃ (o : Obj) (its : Array Value) (n : Nat), K.lookup a = some o ∧ o.cls = .type "list" ∧ o.dict = none ∧ o.data = .seq its n ∧ its.size ≤ sizeLine ∧ Vals xs its.toList
theorem FzL.sql {K : PySem.W.Frag} {H : Hp} {a : Addr} {xs : List V} (h : FzL K H a xs) : SqL K H a xs := by
  rcases h with ⟨o, h⟩ | h
  · exact .inl (.inr ⟨o, h⟩)
  · exact .inr h
/-- the address of the class of that name -/
def isClsN (nm : Str) (o : Obj) : Bool := match o.data with
  | .cls cd => cd.name == nm
  | _ => false
def clsAt (K : PySem.W.Frag) (nm : Str) : Option Addr := (K.find? fun p => isClsN nm p.2).map Prod.fst
def tyN : Ty → String
  | .int => "int" | .bool => "bool" | .str => "str" | .tuple => "tuple" | .list => "list" | .dict => "dict"
/-- a class of exceptions of one's own -/
structure ExcOk (K : PySem.W.Frag) (nm : Str) (C : Addr) : Prop where
  at_ : clsAt K nm = some C
  cc : ExcC K C
  ty : ∀ t : Ty, PySem.W.kitOne K (.ref C) (.type (tyN t)) = some false
/-- at a stands an exception of that class, known to the object -/
def ExO (K : PySem.W.Frag) (H : Hp) (nm : Str) (a : Addr) : Prop := ∃ (o : Obj) (φ : Heap → Prop) (C : Addr) (vs : Array Value), H a = some (.frz o (.ext φ)) ∧ o.cls = .ref C ∧ o.dict = none ∧ o.data = .fields vs ∧ ExcOk K nm C ∧ vs[2]? = some .none
mutual
/-- v is the data d, for good -/
def Fz (K : PySem.W.Frag) (H : Hp) : D → V → Prop
  | .none, v => v = .non
  | .bool b, v => v = .bl b
  | .int i, v => v = .int i
  | .str x, v => v = .str x
  | .list ds, v => ∃ a xs, v = .ref a ∧ FzL K H a xs ∧ Fzs K H ds xs
  | .tuple ds, v => ∃ a xs, v = .ref a ∧ SqT K H a xs ∧ Fzs K H ds xs
  | .dict kvs, v => match excNm (.dict kvs) with
    | some nm => ∃ a, v = .ref a ∧ ExO K H nm a
    | none => False
def Fzs (K : PySem.W.Frag) (H : Hp) : List D → List V → Prop
  | [], vs => vs = []
  | d :: ds, vs => ∃ v r, vs = v :: r ∧ Fz K H d v ∧ Fzs K H ds r
end
/-- all that never changes is kept -/
structure Kp (H H' : Hp) : Prop where
  frz : ∀ a o u, H a = some (.frz o u) → H' a = some (.frz o u)
  tup : ∀ a xs, H a = some (.tup xs) → H' a = some (.tup xs)
theorem Kp.refl (H : Hp) : Kp H H := ⟨fun _ _ _ h => h, fun _ _ h => h⟩
theorem Kp.trans {H H1 H2 : Hp} (a : Kp H H1) (b : Kp H1 H2) : Kp H H2 := ⟨fun x o u h => b.frz x o u (a.frz x o u h), fun x xs h => b.tup x xs (a.tup x xs h)⟩
section
variable {K : PySem.W.Frag} {H H' : Hp}
theorem Kp.sqt (k : Kp H H') {a : Addr} {xs : List V} (h : SqT K H a xs) : SqT K H' a xs := by
  rcases h with (h | ⟨o, h⟩) | h
  · exact .inl (.inl (k.tup _ _ h))
  · exact .inl (.inr ⟨o, k.frz _ _ _ h⟩)
  · exact .inr h
theorem Kp.fzl (k : Kp H H') {a : Addr} {xs : List V} (h : FzL K H a xs) : FzL K H' a xs := by
  rcases h with ⟨o, h⟩ | h
  · exact .inl ⟨o, k.frz _ _ _ h⟩
  · exact .inr h
mutual
theorem Fz.keep (k : Kp H H') : ∀ (d : D) (v : V), Fz K H d v → Fz K H' d v
  | .none, _, h => h
  | .bool _, _, h => h
  | .int _, _, h => h
  | .str _, _, h => h
  | .list ds, _, h => by
    simp only [Fz] at h ⊢
    obtain ⟨a, xs, e, h1, h2⟩ := h
    exact ⟨a, xs, e, k.fzl h1, Fzs.keep k ds xs h2⟩
  | .tuple ds, _, h => by
    simp only [Fz] at h ⊢
    obtain ⟨a, xs, e, h1, h2⟩ := h
    exact ⟨a, xs, e, k.sqt h1, Fzs.keep k ds xs h2⟩
  | .dict kvs, _, h => by
    simp only [Fz] at h ⊢
    split at h
    · obtain ⟨a, e, o, φ, C, vs, h1, h2⟩ := h
      exact ⟨a, e, o, φ, C, vs, k.frz _ _ _ h1, h2⟩
    · exact h.elim
theorem Fzs.keep (k : Kp H H') : ∀ (ds : List D) (vs : List V), Fzs K H ds vs → Fzs K H' ds vs
  | [], _, h => h
  | d :: ds, _, h => by
    simp only [Fzs] at h ⊢
    obtain ⟨v, r, e, h1, h2⟩ := h
    exact ⟨v, r, e, Fz.keep k d v h1, Fzs.keep k ds r h2⟩
end
theorem Fzs.length : ∀ {ds : List D} {vs : List V}, Fzs K H ds vs → ds.length = vs.length
  | [], _, h => by simp only [Fzs] at h; subst h; rfl
  | d :: ds, _, h => by
    simp only [Fzs] at h
    obtain ⟨v, r, rfl, _, h2⟩ := h
    simp [Fzs.length h2]
theorem Fzs.get : ∀ {ds : List D} {vs : List V} {i : Nat} {d : D}, Fzs K H ds vs → ds[i]? = some d → ∃ v, vs[i]? = some v ∧ Fz K H d v
  | [], _, _, _, _, e => by simp at e
  | d :: ds, _, 0, d', h, e => by
    simp only [Fzs] at h
    obtain ⟨v, r, rfl, h1, _⟩ := h
    simp at e; subst e
    exact ⟨v, rfl, h1⟩
  | d :: ds, _, i + 1, d', h, e => by
    simp only [Fzs] at h
    obtain ⟨v, r, rfl, _, h2⟩ := h
    obtain ⟨w, e1, e2⟩ := Fzs.get (i := i) h2 (by simpa using e)
    exact ⟨w, by simpa using e1, e2⟩
theorem Fzs.app : ∀ {ds es : List D} {vs ws : List V}, Fzs K H ds vs → Fzs K H es ws → Fzs K H (ds ++ es) (vs ++ ws)
  | [], _, _, _, h, g => by simp only [Fzs] at h; subst h; exact g
  | d :: ds, es, _, ws, h, g => by
    simp only [Fzs] at h
    obtain ⟨v, r, rfl, h1, h2⟩ := h
    show Fzs K H (d :: (ds ++ es)) (v :: (r ++ ws))
    simp only [Fzs]
    exact ⟨v, r ++ ws, rfl, h1, h2.app g⟩
theorem Fzs.nil : Fzs K H [] [] := by simp only [Fzs]
theorem Fzs.cons {d : D} {ds : List D} {v : V} {vs : List V} (h : Fz K H d v) (g : Fzs K H ds vs) : Fzs K H (d :: ds) (v :: vs) := by
  simp only [Fzs]; exact ⟨v, vs, rfl, h, g⟩
theorem Fzs.one {d : D} {v : V} (h : Fz K H d v) : Fzs K H [d] [v] := .cons h .nil
theorem Fzs.take : ∀ {ds : List D} {vs : List V} (n : Nat), Fzs K H ds vs → Fzs K H (ds.take n) (vs.take n)
  | _, _, 0, _ => by simp [Fzs]
  | [], _, n + 1, h => by simp only [Fzs] at h; subst h; simp [Fzs]
  | d :: ds, _, n + 1, h => by
    simp only [Fzs] at h
    obtain ⟨v, r, rfl, h1, h2⟩ := h
    exact .cons h1 (Fzs.take n h2)
theorem Fzs.drop : ∀ {ds : List D} {vs : List V} (n : Nat), Fzs K H ds vs → Fzs K H (ds.drop n) (vs.drop n)
  | _, _, 0, h => h
  | [], _, n + 1, h => by simp only [Fzs] at h; subst h; simp [Fzs]
  | d :: ds, _, n + 1, h => by
    simp only [Fzs] at h
    obtain ⟨v, r, rfl, h1, h2⟩ := h
    exact Fzs.drop n h2
theorem Fzs.rev : ∀ {ds : List D} {vs : List V}, Fzs K H ds vs → Fzs K H ds.reverse vs.reverse
  | [], _, h => by simp only [Fzs] at h; subst h; simp [Fzs]
  | d :: ds, _, h => by
    simp only [Fzs] at h
    obtain ⟨v, r, rfl, h1, h2⟩ := h
    rw [List.reverse_cons, List.reverse_cons]
    exact h2.rev.app (.one h1)
theorem Fzs.set : ∀ {ds : List D} {vs : List V} (j : Nat) {d : D} {v : V}, Fz K H d v → Fzs K H ds vs → Fzs K H (ds.set j d) (vs.set j v)
  | [], _, _, _, _, _, h => by simp only [Fzs] at h; subst h; simp [Fzs]
  | e :: ds, _, 0, d, v, g, h => by
    simp only [Fzs] at h
    obtain ⟨w, r, rfl, h1, h2⟩ := h
    exact .cons g h2
  | e :: ds, _, j + 1, d, v, g, h => by
    simp only [Fzs] at h
    obtain ⟨w, r, rfl, h1, h2⟩ := h
    exact .cons h1 (Fzs.set j g h2)
theorem Fzs.flat : ∀ (dss : List (List D)) (vss : List (List V)), dss.length = vss.length → (∀ (i : Nat) (d : List D) (v : List V), dss[i]? = some d → vss[i]? = some v → Fzs K H d v) → Fzs K H dss.flatten vss.flatten
  | [], [], _, _ => by simp [Fzs]
  | [], _ :: _, hl, _ => by simp at hl
  | _ :: _, [], hl, _ => by simp at hl
  | d :: r, v :: s, hl, h => by
    rw [List.flatten_cons, List.flatten_cons]
    exact (h 0 d v rfl rfl).app (Fzs.flat r s (by simpa using hl) fun i d v e1 e2 => h (i + 1) d v (by simpa using e1) (by simpa using e2))
theorem Fzs.rep {ds : List D} {vs : List V} (h : Fzs K H ds vs) : ∀ n : Nat, Fzs K H (List.replicate n ds).flatten (List.replicate n vs).flatten
  | 0 => by simp [Fzs]
  | n + 1 => by
    rw [List.replicate_succ, List.replicate_succ, List.flatten_cons, List.flatten_cons]
    exact h.app (h.rep n)
theorem Fzs.ints : ∀ {ns : List Int}, Fzs K H (ns.map .int) (ns.map V.int)
  | [] => by simp [Fzs]
  | n :: r => .cons (by simp [Fz]) (Fzs.ints (ns := r))
theorem Fzs.of_ints : ∀ {ns : List Int} {vs : List V}, Fzs K H (ns.map .int) vs → vs = ns.map V.int
  | [], _, h => by simpa [Fzs] using h
  | n :: r, _, h => by
    simp only [List.map_cons, Fzs] at h
    obtain ⟨v, s, rfl, h1, h2⟩ := h
    simp only [Fz] at h1
    rw [h1, Fzs.of_ints h2]; rfl
mutual
/-- as the library's data -/
theorem Fz.dp : ∀ (d : D) (v : V), d.plain = true → Fz K H d v → Dp K H v d
  | .none, _, _, h => by simp only [Fz] at h; subst h; exact .non
  | .bool b, _, _, h => by simp only [Fz] at h; subst h; exact .bl b
  | .int i, _, _, h => by simp only [Fz] at h; subst h; exact .int i
  | .str x, _, _, h => by simp only [Fz] at h; subst h; exact .str x
  | .list ds, _, hp, h => by
    simp only [Fz] at h
    obtain ⟨a, xs, rfl, h1, h2⟩ := h
    exact .lst h1.sql (Fzs.dps ds xs (by simpa only [PyData.plain] using hp) h2)
  | .tuple ds, _, hp, h => by
    simp only [Fz] at h
    obtain ⟨a, xs, rfl, h1, h2⟩ := h
    exact .tup h1 (Fzs.dps ds xs (by simpa only [PyData.plain] using hp) h2)
  | .dict _, _, hp, h => by simp only [PyData.plain] at hp; cases hp
theorem Fzs.dps : ∀ (ds : List D) (vs : List V), PyData.plainAll ds = true → Fzs K H ds vs → DpAll K H vs ds
  | [], _, _, h => by simp only [Fzs] at h; subst h; exact .nil
  | d :: ds, _, hp, h => by
    simp only [Fzs] at h
    simp only [PyData.plainAll, Bool.and_eq_true] at hp
    obtain ⟨v, r, rfl, h1, h2⟩ := h
    exact .cons (Fz.dp d v hp.1 h1) (Fzs.dps ds r hp.2 h2)
end
/-- one's own container -/
def OwD (K : PySem.W.Frag) (H : Hp) : D → V → Prop
  | .list ds, v => ∃ a xs, v = .ref a ∧ H a = some (.lst xs) ∧ Fzs K H ds xs
  | _, _ => False
/-- v reads as d now -/
def Rdv (K : PySem.W.Frag) (H : Hp) (d : D) (v : V) : Prop := Fz K H d v ∨ OwD K H d v
theorem Rdv.dp {d : D} {v : V} (hp : d.plain = true) (h : Rdv K H d v) : Dp K H v d := by
  rcases h with h | h
  · exact Fz.dp d v hp h
  · cases d with
    | list ds =>
      obtain ⟨a, xs, rfl, h1, h2⟩ := h
      exact .lst (.inl (.inl h1)) (Fzs.dps ds xs (by simpa only [PyData.plain] using hp) h2)
    | _ => exact h.elim
theorem Rdv.int {i : Int} {v : V} (h : Rdv K H (.int i) v) : v = .int i := by
  rcases h with h | h
  · simpa [Fz] using h
  · exact h.elim
theorem Rdv.bool {b : Bool} {v : V} (h : Rdv K H (.bool b) v) : v = .bl b := by
  rcases h with h | h
  · simpa [Fz] using h
  · exact h.elim
theorem Rdv.non {v : V} (h : Rdv K H .none v) : v = .non := by
  rcases h with h | h
  · simpa [Fz] using h
  · exact h.elim
theorem Rdv.str {x : Str} {v : V} (h : Rdv K H (.str x) v) : v = .str x := by
  rcases h with h | h
  · simpa [Fz] using h
  · exact h.elim
theorem Rdv.list {ds : List D} {v : V} (h : Rdv K H (.list ds) v) : ∃ a xs, v = .ref a ∧ SqL K H a xs ∧ Fzs K H ds xs := by
  rcases h with h | h
  · simp only [Fz] at h
    obtain ⟨a, xs, e, h1, h2⟩ := h
    exact ⟨a, xs, e, h1.sql, h2⟩
  · obtain ⟨a, xs, e, h1, h2⟩ := h
    exact ⟨a, xs, e, .inl (.inl h1), h2⟩
theorem Rdv.tuple {ds : List D} {v : V} (h : Rdv K H (.tuple ds) v) : ∃ a xs, v = .ref a ∧ SqT K H a xs ∧ Fzs K H ds xs := by
  rcases h with h | h
  · simpa only [Fz] using h
  · exact h.elim
theorem Rdv.dref {kvs : List (D × D)} {v : V} (h : Rdv K H (.dict kvs) v) : ∃ a, v = .ref a := by
  rcases h with h | h
  · simp only [Fz] at h
    split at h
    · obtain ⟨a, e, _⟩ := h; exact ⟨a, e⟩
    · exact h.elim
  · exact h.elim
theorem Rdv.scal {d : D} {v : V} (hd : isScal d = true) (h : Rdv K H d v) : Fz K H d v := by
  rcases h with h | h
  · exact h
  · cases d <;> first | exact h.elim | cases hd
end

/-! ### what is said of the heap without a change of it -/
section
variable {X : Cx} {pins : List (Addr × Obj)} {σ : St} {H H' : Hp} {s : Shared}
theorem ghost (I : Inv X pins σ H s) (h : ∀ a, H' a = H a ∨ ∃ xs o, s.heap.get? a = some o ∧ (H a = some (.lst xs) ∨ H a = some (.frz o (.lst xs))) ∧ (H' a = some (.lst xs) ∨ H' a = some (.frz o (.lst xs))) ∧ ∀ o u, X.H_0 a ≠ some (.frz o u)) :
    Inv X pins σ H' s := by
  have nn : ∀ a, H a = none → H' a = none := fun a e => by
    rcases h a with q | ⟨xs, o, _, q, _⟩
    · rw [q]; exact e
    · rcases q with q | q <;> rw [q] at e <;> cases e
  have tp : ∀ a xs, H a = some (.tup xs) → H' a = some (.tup xs) := fun a xs e => by
    rcases h a with q | ⟨xs, o, _, q, _⟩
    · rw [q]; exact e
    · rcases q with q | q <;> rw [q] at e <;> cases e
  have ow : ∀ a x, H a = some (.own x) → H' a = some (.own x) := fun a xs e => by
    rcases h a with q | ⟨xs, o, _, q, _⟩
    · rw [q]; exact e
    · rcases q with q | q <;> rw [q] at e <;> cases e
  have tb : ∀ a ps, H a = some (.tbl ps) → H' a = some (.tbl ps) := fun a xs e => by
    rcases h a with q | ⟨xs, o, _, q, _⟩
    · rw [q]; exact e
    · rcases q with q | q <;> rw [q] at e <;> cases e
  have hk : HOk X.prog X.w H' s.heap := fun a o e => by
    rcases h a with q | ⟨xs, ob, ho, q1, q2, _⟩
    · rw [q] at e
      exact (I.hok a o e).stay (fun _ _ _ z => z) (fun b z => ow b a z) fun b xs z => tp b xs z
    · have core : ObjOk X.prog X.w H' s.heap a (.lst xs) := by
        rcases q1 with q1 | q1
        · exact (I.hok a _ q1).stay (fun _ _ _ z => z) (fun b z => ow b a z) fun b xs z => tp b xs z
        · obtain ⟨_, z⟩ := I.hok a _ q1
          exact z.stay (fun _ _ _ z => z) (fun b z => ow b a z) fun b xs z => tp b xs z
      rcases q2 with q2 | q2
      · rw [q2] at e; cases e; exact core
      · rw [q2] at e; cases e; exact ⟨ho, core⟩
  refine ⟨I.ok, I.os, I.bare, ⟨I.base.keep, I.base.slot, fun b o e n hx => nn b (I.base.free b o e n hx), I.base.there, fun b xs e => tp b xs (I.base.tups b xs e), fun b o u e => ?_, fun b ps e => ?_⟩, I.loc, I.cell, nn _ I.free, fun x c e => nn c (I.freeC x c e), fun p hp => ?_, hk, I.len⟩
  · have e1 := I.base.frzs b o u e
    rcases h b with q | ⟨xs, ob, _, _, _, q⟩
    · rw [q]; exact e1
    · exact absurd e (q o u)
  · obtain ⟨more, e1⟩ := I.base.tbls b ps e
    exact ⟨more, tb b _ e1⟩
  · obtain ⟨h1, h2, h3⟩ := I.pin p hp
    exact ⟨h1, nn _ h2, h3⟩
end
end Fw

set_option maxHeartbeats 4000000
/-! FwTm: a tuple times 1 is the tuple itself; times 0 or less it is empty. -/
namespace Fw
open PySem PySem.Spec PyProof.Rows L2
theorem tuple_mul1 (l : Addr) (items : Array Value) (n : Nat) (sl : Array (Option Value)) (dd : Option Addr) (x : Int) (u : Tok) (c0 : (decide (x < -(2 ^ 63)) || decide (x ≥ 2 ^ 63)) = false) (c1 : (items.isEmpty || x == 1) = true) :
    Meets (Builtin.«tuple.__mul__» ⟨[.ref l, .int x u], []⟩) (fun _ R s => s.heap.get? l = some { cls := .type "tuple", dict := dd, data := .seq items n, slots := sl } ∧
      R (.ok (.ret (Value.ref l))) s) :=
  .of_wp fun prog w A R s h => by
    obtain ⟨hp, g, d, tk, os⟩ := s
    obtain ⟨hl, h⟩ := h
    have f1 := AutoSeq1.idx_int
    wp_walk using wpAny_loadPart' hl
    repeat (first
      | (refine wpAny_ite_false (decide_eq_false (by rw [c0]; exact Bool.false_ne_true)) ?_; wp_walk using wpAny_loadPart' hl)
      | (refine wpAny_ite_true (decide_eq_true c1) ?_; wp_walk using wpAny_loadPart' hl))
    exact ⟨_, rfl, h⟩
theorem tuple_mul0 (l : Addr) (items : Array Value) (n : Nat) (sl : Array (Option Value)) (dd : Option Addr) (x : Int) (u : Tok) (c0 : (decide (x < -(2 ^ 63)) || decide (x ≥ 2 ^ 63)) = false) (c1 : (items.isEmpty || x == 1) = false) (c2 : (decide (x ≤ 0) || items.isEmpty) = true) :
    Meets (Builtin.«tuple.__mul__» ⟨[.ref l, .int x u], []⟩) (fun _ R s => s.heap.get? l = some { cls := .type "tuple", dict := dd, data := .seq items n, slots := sl } ∧
      R (.ok (.ret (Value.ref s.heap.objs.size))) { s with heap := s.heap.push { cls := Value.type "tuple", data := Data.seq #[] }, toks := s.toks }) :=
  .of_wp fun prog w A R s h => by
    obtain ⟨hp, g, d, tk, os⟩ := s
    obtain ⟨hl, h⟩ := h
    have f1 := AutoSeq1.idx_int
    have z : ¬ (#[] : Array Value).size > sizeLine := Nat.not_lt.mpr (Nat.zero_le _)
    wp_walk using wpAny_loadPart' hl
    repeat (first
      | (refine wpAny_ite_false (decide_eq_false (by rw [c0]; exact Bool.false_ne_true)) ?_; wp_walk using wpAny_loadPart' hl)
      | (refine wpAny_ite_false (decide_eq_false (by rw [c1]; exact Bool.false_ne_true)) ?_; wp_walk using wpAny_loadPart' hl)
      | (refine wpAny_ite_true (decide_eq_true c2) ?_; wp_walk using wpAny_loadPart' hl)
      | (refine wpAny_ite_false (decide_eq_false z) ?_; wp_walk using wpAny_loadPart' hl))
    exact ⟨_, rfl, h⟩
def rRepT1 (K : PySem.W.Frag) : R2 := fun x y H Q => ∃ l k xs, x = .ref l ∧ y = .int k ∧ SqT K H l xs ∧ k.natAbs ≤ 1000 ∧ ((xs = [] ∨ k = 1) ∧ Q (.ref l) H ∨ xs ≠ [] ∧ k ≤ 0 ∧ ∀ p, H p = none → Q (.ref p) (upd H p (.tup [])))
section
variable {X : Cx}
theorem op_repT1 : OpR X (binaryOp .Mult) (rRepT1 X.K) := by
  intro pins s σ H x y v u Q I rx ry h
  obtain ⟨l, k, xs, rfl, rfl, hT, hk, h⟩ := h
  cases rx
  obtain ⟨t, rfl⟩ := ry
  obtain ⟨its, r, ⟨⟨cls, dd, data, sl⟩, ho, hc, n, hd⟩, hs⟩ := I.tuple hT
  simp only at hc hd
  subst hc hd
  have hle : its.length = xs.length := r.length.symm
  have c0 : (decide (k < -(2 ^ 63)) || decide (k ≥ 2 ^ 63)) = false := by
    rw [decide_eq_false (by omega), decide_eq_false (by omega)] <;> rfl
  rcases h with ⟨h1, q⟩ | ⟨h1, h2, q⟩
  · have c1 : (its.toArray.isEmpty || k == 1) = true := by
      rcases h1 with rfl | rfl
      · have : its = [] := List.eq_nil_of_length_eq_zero hle
        subst this; rfl
      · simp
    refine wpAny_binaryOp_repeat_ref (T := "tuple") (U := "int") (by decide) ⟨_, ho, rfl⟩ (fun s' => typeIs_int s' k t) noFill_tuple_mul F.fills_int_mul F.slot_int_rmul repeat_tuple F.slot_int_index.lookup
      (call_meets F.slot_int_rmul (typeIs_int s k t) F.entry_int_rmul (F.args_int_rmul_2 _ _) (int_rmul_tuple k t l its.toArray n dd sl)
        ⟨ho, rfl, ⟨_, ho, rfl⟩, call_meets F.slot_tuple_mul ⟨_, ho, rfl⟩ F.entry_tuple_mul (F.args_tuple_mul_2 _ _) (tuple_mul1 l its.toArray n sl dd k t c0 c1) ⟨ho, ?_⟩⟩)
    exact ⟨.ref l, _, I, rfl, q⟩
  · have hi : its.toArray.isEmpty = false := by
      cases its with
      | nil => exact absurd (List.eq_nil_of_length_eq_zero hle.symm) h1
      | cons a b => rfl
    have c1 : (its.toArray.isEmpty || k == 1) = false := by
      rw [hi, Bool.false_or]
      exact beq_eq_false_iff_ne.mpr (by omega)
    have c2 : (decide (k ≤ 0) || its.toArray.isEmpty) = true := by
      rw [decide_eq_true h2]; rfl
    refine wpAny_binaryOp_repeat_ref (T := "tuple") (U := "int") (by decide) ⟨_, ho, rfl⟩ (fun s' => typeIs_int s' k t) noFill_tuple_mul F.fills_int_mul F.slot_int_rmul repeat_tuple F.slot_int_index.lookup
      (call_meets F.slot_int_rmul (typeIs_int s k t) F.entry_int_rmul (F.args_int_rmul_2 _ _) (int_rmul_tuple k t l its.toArray n dd sl)
        ⟨ho, rfl, ⟨_, ho, rfl⟩, call_meets F.slot_tuple_mul ⟨_, ho, rfl⟩ F.entry_tuple_mul (F.args_tuple_mul_2 _ _) (tuple_mul0 l its.toArray n sl dd k t c0 c1 c2) ⟨ho, ?_⟩⟩)
    refine ⟨.ref s.heap.objs.size, _, I.laid (t' := s.toks) (o := .tup []) (fun b ob q => Heap.get?_push_of_some _ q) (Nat.le_refl _) ?_, rfl, q _ (I.hok.fresh (Nat.le_refl _))⟩
    exact ⟨Nat.zero_le _, _, .nil, IsTup.new _ _⟩
end
end Fw

/-! Fw: what an expression's reading is -/
namespace Fw
open PySem PySem.Spec PyProof.Rows L2

def Own (r : Env) (σ : St) (a : Addr) : Prop := ∃ (i : Nat) (d : D), r[i]? = some (Sl.ow d) ∧ σ[i]? = some (some (V.ref a))
structure Gd (K : PySem.W.Frag) (T : List Addr) (r : Env) (σ : St) (H : Hp) : Prop where
  len : r.length = σ.length
  fz : ∀ (i : Nat) (d : D), r[i]? = some (Sl.fz d) → ∃ v, σ[i]? = some (some v) ∧ Fz K H d v
  ow : ∀ (i : Nat) (d : D), r[i]? = some (Sl.ow d) → ∃ v, σ[i]? = some (some v) ∧ OwD K H d v
  inj : ∀ (i j : Nat) (d e : D) (v : V), r[i]? = some (Sl.ow d) → r[j]? = some (Sl.ow e) → σ[i]? = some (some v) → σ[j]? = some (some v) → i = j
  tb : ∀ p ∈ T, GxR.TabG H p
structure Post (K : PySem.W.Frag) (T : List Addr) (r : Env) (σ : St) (H : Hp) (r' : Env) (H' : Hp) : Prop where
  gd : Gd K T r' σ H'
  ext : ∀ a o, H a = some o → (∀ ps, o ≠ .tbl ps) → ¬ Own r σ a → H' a = some o
  sub : ∀ a, Own r' σ a → Own r σ a
  tr : ∀ a, H a ≠ none → H' a ≠ none
section
variable {K : PySem.W.Frag} {T : List Addr} {r r' r'' : Env} {σ : St} {H H' H'' H0 : Hp}
theorem Gd.own (g : Gd K T r σ H) {a : Addr} (h : Own r σ a) : ∃ xs, H a = some (.lst xs) := by
  obtain ⟨i, d, e1, e2⟩ := h
  obtain ⟨v, e3, h3⟩ := g.ow i d e1
  rw [e2] at e3
  cases e3
  cases d with
  | list ds =>
    obtain ⟨a', xs, e, h4, _⟩ := h3
    cases e
    exact ⟨xs, h4⟩
  | _ => exact h3.elim
theorem Post.refl (g : Gd K T r σ H) : Post K T r σ H r H := ⟨g, fun _ _ h _ _ => h, fun _ h => h, fun _ h => h⟩
theorem Post.trans (p : Post K T r σ H r' H') (q : Post K T r' σ H' r'' H'') : Post K T r σ H r'' H'' :=
  ⟨q.gd, fun a o h1 h2 h3 => q.ext a o (p.ext a o h1 h2 h3) h2 fun h4 => h3 (p.sub a h4), fun a h => p.sub a (q.sub a h), fun a h => q.tr a (p.tr a h)⟩
theorem Post.kp (g : Gd K T r σ H) (p : Post K T r σ H r' H') : Kp H H' := by
  refine ⟨fun a o u h => p.ext a _ h (fun ps z => by cases z) fun q => ?_, fun a xs h => p.ext a _ h (fun ps z => by cases z) fun q => ?_⟩
  · obtain ⟨xs, e⟩ := g.own q; rw [h] at e; cases e
  · obtain ⟨xs, e⟩ := g.own q; rw [h] at e; cases e
theorem Post.same (g : Gd K T r σ H) (s : Same H H') : Post K T r σ H r H' := by
  have k : Kp H H' := ⟨fun a o u h => s _ _ h, fun a xs h => s _ _ h⟩
  refine ⟨⟨g.len, fun i d e => ?_, fun i d e => ?_, g.inj, fun p hp => ?_⟩, fun a o h _ _ => s _ _ h, fun _ h => h, fun a h => ?_⟩
  · obtain ⟨v, h1, h2⟩ := g.fz i d e
    exact ⟨v, h1, Fz.keep k d v h2⟩
  · obtain ⟨v, h1, h2⟩ := g.ow i d e
    refine ⟨v, h1, ?_⟩
    cases d with
    | list ds =>
      obtain ⟨a, xs, e1, e2, e3⟩ := h2
      exact ⟨a, xs, e1, s _ _ e2, Fzs.keep k ds xs e3⟩
    | _ => exact h2.elim
  · obtain ⟨ps, h1, h2⟩ := g.tb p hp
    exact ⟨ps, s _ _ h1, h2⟩
  · cases e : H a with
    | none => exact absurd e h
    | some o => rw [s _ _ e]; simp
/-- an operand as a value: H0 the heap ahead of it -/
def OpV (K : PySem.W.Frag) (σ : St) (H0 H : Hp) : Op → V → Prop
  | .ref i, v => σ[i]? = some (some v)
  | .val d, v => Fz K H d v
  | .new d, v => OwD K H d v ∧ ∀ a, v = .ref a → H0 a = none
theorem OwD.keep {d : D} {v : V} (k : Kp H H') (s : ∀ a xs, v = .ref a → H a = some (.lst xs) → H' a = some (.lst xs)) (h : OwD K H d v) : OwD K H' d v := by
  cases d with
  | list ds =>
    obtain ⟨a, xs, e1, e2, e3⟩ := h
    exact ⟨a, xs, e1, s a xs e1 e2, Fzs.keep k ds xs e3⟩
  | _ => exact h.elim
/-- over what comes later -/
theorem OpV.carry {o : Op} {v : V} (g : Gd K T r σ H0) (p : Post K T r σ H0 r' H') (q : Post K T r' σ H' r'' H'') (h : OpV K σ H0 H' o v) : OpV K σ H0 H'' o v := by
  cases o with
  | ref i => exact h
  | val d => exact Fz.keep (q.kp p.gd) d v h
  | new d =>
    obtain ⟨h1, h2⟩ := h
    refine ⟨h1.keep (q.kp p.gd) fun a xs e1 e2 => q.ext a _ e2 (fun ps z => by cases z) fun z => ?_, h2⟩
    obtain ⟨ys, e⟩ := g.own (p.sub a z)
    rw [h2 a e1] at e; cases e
theorem Gd.rd {o : Op} {v : V} {d : D} (g : Gd K T r σ H) (h : OpV K σ H0 H o v) {r1 : Env} (e : rd o r = .ok d r1) : r1 = r ∧ Rdv K H d v := by
  cases o with
  | ref i =>
    have h : σ[i]? = some (some v) := h
    have e : opt (dataAt r i) r = .ok d r1 := e
    unfold dataAt at e
    cases q : r[i]? with
    | none => rw [q] at e; cases e
    | some z =>
      rw [q] at e
      cases z with
      | no => cases e
      | fz d' =>
        cases e
        obtain ⟨v', h1, h2⟩ := g.fz i d q
        rw [h] at h1; cases h1
        exact ⟨rfl, .inl h2⟩
      | ow d' =>
        cases e
        obtain ⟨v', h1, h2⟩ := g.ow i d q
        rw [h] at h1; cases h1
        exact ⟨rfl, .inr h2⟩
  | val d' => cases e; exact ⟨rfl, .inl h⟩
  | new d' => cases e; exact ⟨rfl, .inr h.1⟩

/-! ### the meaning's end -/
def Wd {α : Type} : Res α → (Nat → Env → Prop) → (α → Env → Prop) → Prop
  | .ok a r, _, k => k a r
  | .ex c r, j, _ => j c r
  | .no, _, _ => False
theorem Wd.bd {α β : Type} {m : M α} {f : α → M β} {r : Env} {j : Nat → Env → Prop} {k : β → Env → Prop} (h : Wd (Fw.bd m f r) j k) : Wd (m r) j fun a r' => Wd (f a r') j k := by
  unfold Fw.bd at h
  cases e : m r with
  | ok a r' => rw [e] at h; exact h
  | ex c r' => rw [e] at h; exact h
  | no => rw [e] at h; exact h.elim
theorem Wd.mono {α : Type} {x : Res α} {j j' : Nat → Env → Prop} {k k' : α → Env → Prop} (h : Wd x j k) (g : ∀ c r, j c r → j' c r) (f : ∀ a r, x = .ok a r → k a r → k' a r) : Wd x j' k' := by
  cases x with
  | ok a r => exact f a r rfl h
  | ex c r => exact g c r h
  | no => exact h.elim
theorem opt_ok {α : Type} {o : Option α} {r r1 : Env} {a : α} (h : opt o r = .ok a r1) : o = some a ∧ r1 = r := by
  unfold opt at h
  cases o with
  | none => cases h
  | some b => cases h; exact ⟨rfl, rfl⟩
theorem Wd.opt {α : Type} {o : Option α} {r : Env} {j : Nat → Env → Prop} {k : α → Env → Prop} (h : Wd (Fw.opt o r) j k) : ∃ a, o = some a ∧ k a r := by
  cases o with
  | none => exact h.elim
  | some a => exact ⟨a, rfl, h⟩

/-- what all readings of a def share: the code tables, the wish about exceptions, the classes -/
structure Yc where
  T : List Addr
  W : WX
  xc : Nat → Value
abbrev exK (K : PySem.W.Frag) (Y : Yc) (r : Env) (σ : St) (H : Hp) : Nat → Env → Prop := fun c r' => ∀ H', Post K Y.T r σ H r' H' → Y.W (Y.xc c) none σ H'
theorem exK.trans {K : PySem.W.Frag} {Y : Yc} {r r1 : Env} {σ : St} {H H1 : Hp} (p : Post K Y.T r σ H r1 H1) (c : Nat) (r' : Env) (h : exK K Y r σ H c r') : exK K Y r1 σ H1 c r' := fun H' q => h H' (p.trans q)
/-- THE READING of an expression -/
def tE (K : PySem.W.Frag) (Y : Yc) (m : M Op) : TE := fun σ H Q => ∃ r, Gd K Y.T r σ H ∧ Wd (m r) (exK K Y r σ H) fun o r' => ∀ v H', Post K Y.T r σ H r' H' → OpV K σ H H' o v → Q v H'
/-- of a test -/
def tT (K : PySem.W.Frag) (Y : Yc) (m : M Bool) : TT := fun σ H Q => ∃ r, Gd K Y.T r σ H ∧ Wd (m r) (exK K Y r σ H) fun b r' => ∀ H', Post K Y.T r σ H r' H' → Q b H'
/-- a list of operands: each is as told, the new ones are different -/
inductive OpVs (K : PySem.W.Frag) (σ : St) : Hp → Hp → List Op → List V → Prop
  | nil {H0 H : Hp} : OpVs K σ H0 H [] []
  | cons {H0 H1 H : Hp} {o : Op} {v : V} {os : List Op} {vs : List V} : OpV K σ H0 H o v → (∀ d a, o = .new d → v = .ref a → H1 a ≠ none) → (∀ a, H0 a ≠ none → H1 a ≠ none) → OpVs K σ H1 H os vs → OpVs K σ H0 H (o :: os) (v :: vs)
def tA (K : PySem.W.Frag) (Y : Yc) (m : M (List Op)) : TA := fun σ H Q => ∃ r, Gd K Y.T r σ H ∧ Wd (m r) (exK K Y r σ H) fun os r' => ∀ vs H', Post K Y.T r σ H r' H' → OpVs K σ H H' os vs → Q vs H'
end
theorem _root_.L2.PE.to {X : Cx} {e : Expr} {t t' : TE} (h : PE X e t) (f : ∀ σ H Q, t' σ H Q → t σ H Q) : PE X e t' := ⟨fun pins s σ H Q I q => h.run pins s σ H Q I (f σ H Q q)⟩
theorem _root_.L2.PT.to {X : Cx} {e : Expr} {t t' : TT} (h : PT X e t) (f : ∀ σ H Q, t' σ H Q → t σ H Q) : PT X e t' := ⟨fun pins s σ H Q I q => h.run pins s σ H Q I (f σ H Q q)⟩
theorem _root_.L2.PW.to {X : Cx} {e : Expr} {t t' : TT} (h : PW X e t) (f : ∀ σ H Q, t' σ H Q → t σ H Q) : PW X e t' := ⟨fun wh pins s σ H Q I q => h.run wh pins s σ H Q I (f σ H Q q)⟩
theorem _root_.L2.PA.to {X : Cx} {e : List Expr} {t t' : TA} (h : PA X e t) (f : ∀ σ H Q, t' σ H Q → t σ H Q) : PA X e t' := ⟨fun p pins s σ H Q I q => h.run p pins s σ H Q I (f σ H Q q)⟩
theorem _root_.L2.PS.to {X : Cx} {e : Stmt} {t t' : TS} (h : PS X e t) (f : ∀ D σ H, t' D σ H → t D σ H) : PS X e t' := ⟨fun pins s σ H D I q => h.run pins s σ H D I (f D σ H q)⟩
theorem _root_.L2.PSs.to {X : Cx} {e : List Stmt} {t t' : TS} (h : PSs X e t) (f : ∀ D σ H, t' D σ H → t D σ H) : PSs X e t' := ⟨fun pins s σ H D I q => h.run pins s σ H D I (f D σ H q)⟩

/-! ### a state is said otherwise -/
/-- behind an expression: the heap may be told anew -/
def tGe (X : Cx) (t : TE) : TE := fun σ H Q => t σ H fun v H1 => ∀ pins s, Inv X pins σ H1 s → ∃ H2, Inv X pins σ H2 s ∧ Q v H2
theorem pe_ge {X : Cx} {e : Expr} {t : TE} (h : PE X e t) : PE X e (tGe X t) := by
  refine ⟨fun pins s σ H Q I q => ?_⟩
  refine thn (h.run pins s σ H _ I q) fun u s1 ⟨v, H1, I1, r1, q1⟩ => ?_
  obtain ⟨H2, I2, q2⟩ := q1 pins s1 I1
  exact ⟨v, H2, I2, r1, q2⟩
def tGa (X : Cx) (t : TA) : TA := fun σ H Q => t σ H fun v H1 => ∀ pins s, Inv X pins σ H1 s → ∃ H2, Inv X pins σ H2 s ∧ Q v H2
theorem pa_ge {X : Cx} {e : List Expr} {t : TA} (h : PA X e t) : PA X e (tGa X t) := by
  refine ⟨fun p pins s σ H Q I q => ?_⟩
  refine thn (h.run p pins s σ H _ I q) fun u s1 ⟨v, H1, I1, r1, q1⟩ => ?_
  obtain ⟨H2, I2, q2⟩ := q1 pins s1 I1
  exact ⟨v, H2, I2, r1, q2⟩
/-- behind a target -/
def tGg (X : Cx) (t : TG) : TG := fun v σ H Q => ∀ pins s, Inv X pins σ H s → ∃ H2, Inv X pins σ H2 s ∧ t v σ H2 Q
theorem pg_ge {X : Cx} {e : Expr} {t : TG} (h : PG X e t) : PG X e (tGg X t) := by
  refine ⟨fun pins s σ H v u Q I rv q => ?_⟩
  obtain ⟨H2, I2, q2⟩ := q pins s I
  exact h.run pins s σ H2 v u Q I2 rv q2

section
variable {X : Cx} {T : List Addr} {r : Env} {σ : St} {H H0 : Hp} {pins : List (Addr × Obj)} {s : Shared}
/-- a list becomes known for good -/
theorem frz_at (I : Inv X pins σ H s) {a : Addr} {xs : List V} (ha : H a = some (.lst xs)) :
    ∃ o, Inv X pins σ (upd H a (.frz o (.lst xs))) s := by
  obtain ⟨_, its, n, _, e⟩ := I.hok a _ ha
  refine ⟨{ cls := .type "list", data := .seq its.toArray n }, ghost I (H' := upd H a (.frz { cls := .type "list", data := .seq its.toArray n } (.lst xs))) fun b => ?_⟩
  by_cases hb : b = a
  · subst hb
    refine .inr ⟨xs, _, e, .inl ha, .inr upd_same, fun o u q => ?_⟩
    rw [I.base.frzs b o u q] at ha; cases ha
  · exact .inl (upd_ne hb)
theorem upd_kp {a : Addr} {xs : List V} {u : HO} (ha : H a = some (.lst xs)) : Kp H (upd H a u) :=
  ⟨fun b o w h => by rw [upd_ne (fun z => by subst z; rw [ha] at h; cases h)]; exact h, fun b ys h => by rw [upd_ne (fun z => by subst z; rw [ha] at h; cases h)]; exact h⟩
theorem tabG_upd {a : Addr} {xs : List V} {u : HO} (ha : H a = some (.lst xs)) {p : Addr} (h : GxR.TabG H p) : GxR.TabG (upd H a u) p := by
  obtain ⟨ps, h1, h2⟩ := h
  exact ⟨ps, by rw [upd_ne (fun z => by subst z; rw [ha] at h1; cases h1)]; exact h1, h2⟩
theorem freeze_get {i j : Nat} (h : j ≠ i) : (freeze i r)[j]? = r[j]? := by
  unfold freeze
  split
  · rw [List.getElem?_set_ne (Ne.symm h)]
  · rfl
theorem freeze_len {i : Nat} : (freeze i r).length = r.length := by
  unfold freeze
  split
  · rw [List.length_set]
  · rfl
theorem freeze_at {i : Nat} {d : D} (h : r[i]? = some (.ow d)) : (freeze i r)[i]? = some (.fz d) := by
  unfold freeze
  rw [h]
  exact List.getElem?_set_self (List.getElem?_eq_some_iff.mp h).1
def FrzAt (H H' : Hp) (b : Addr) : Prop := ∃ o xs, H b = some (.lst xs) ∧ H' b = some (.frz o (.lst xs))
theorem FrzAt.n0 {H H' : Hp} {b : Addr} (h : FrzAt H H' b) : H b ≠ none := by obtain ⟨o, xs, h1, h2⟩ := h; rw [h1]; simp
theorem FrzAt.n1 {H H' : Hp} {b : Addr} (h : FrzAt H H' b) : H' b ≠ none := by obtain ⟨o, xs, h1, h2⟩ := h; rw [h2]; simp
/-- THE FREEZE of a slot -/
structure FrC (K : PySem.W.Frag) (T : List Addr) (r : Env) (σ : St) (H : Hp) (i : Nat) (H' : Hp) : Prop where
  post : Post K T r σ H (freeze i r) H'
  fz : ∀ v d, σ[i]? = some (some v) → dataAt r i = some d → Fz K H' d v
  bk : ∀ b, H' b = H b ∨ (σ[i]? = some (some (.ref b)) ∧ Own r σ b ∧ FrzAt H H' b)
theorem freeze_gen {K : PySem.W.Frag} (g : Gd K T r σ H) (i : Nat) : FrC K T r σ H i H ∨ ∃ a xs, σ[i]? = some (some (.ref a)) ∧ H a = some (.lst xs) ∧ ∀ o, FrC K T r σ H i (upd H a (.frz o (.lst xs))) := by
  cases q : r[i]? with
  | none =>
    refine .inl ⟨?_, fun v d _ e => ?_, fun _ => .inl rfl⟩
    · have e : freeze i r = r := by unfold freeze; rw [q]
      rw [e]; exact .refl g
    · unfold dataAt at e; rw [q] at e; cases e
  | some z =>
    cases z with
    | no =>
      refine .inl ⟨?_, fun v d _ e => ?_, fun _ => .inl rfl⟩
      · have e : freeze i r = r := by unfold freeze; rw [q]
        rw [e]; exact .refl g
      · unfold dataAt at e; rw [q] at e; cases e
    | fz d =>
      refine .inl ⟨?_, fun v d' e1 e => ?_, fun _ => .inl rfl⟩
      · have e : freeze i r = r := by unfold freeze; rw [q]
        rw [e]; exact .refl g
      · unfold dataAt at e; rw [q] at e; cases e
        obtain ⟨v', h1, h2⟩ := g.fz i d q
        rw [e1] at h1; cases h1; exact h2
    | ow d =>
      obtain ⟨v, h1, h2⟩ := g.ow i d q
      cases d with
      | list ds =>
        obtain ⟨a, xs, rfl, ha, hx⟩ := h2
        refine .inr ⟨a, xs, h1, ha, fun o => ?_⟩
        have k := upd_kp (u := .frz o (.lst xs)) ha
        have own_a : Own r σ a := ⟨i, _, q, h1⟩
        refine ⟨⟨⟨by rw [freeze_len]; exact g.len, fun j d e => ?_, fun j d e => ?_, fun j j' d e v e1 e2 e3 e4 => ?_, fun p hp => tabG_upd ha (g.tb p hp)⟩, fun b u e1 e2 e3 => ?_, fun b hb => ?_, fun b hb => ?_⟩, fun v d e1 e2 => ?_, fun b => ?_⟩
        · by_cases hj : j = i
          · subst hj
            rw [freeze_at q] at e; cases e
            refine ⟨_, h1, ?_⟩
            simp only [Fz]
            exact ⟨a, xs, rfl, .inl ⟨o, upd_same⟩, Fzs.keep k _ _ hx⟩
          · rw [freeze_get hj] at e
            obtain ⟨v, e1, e2⟩ := g.fz j d e
            exact ⟨v, e1, Fz.keep k d v e2⟩
        · by_cases hj : j = i
          · subst hj
            rw [freeze_at q] at e; cases e
          · rw [freeze_get hj] at e
            obtain ⟨v, e1, e2⟩ := g.ow j d e
            refine ⟨v, e1, e2.keep k fun b ys e3 e4 => ?_⟩
            rw [upd_ne fun z => ?_]
            · exact e4
            · subst z; subst e3
              exact hj (g.inj j i d _ _ e q e1 h1)
        · have nj : j ≠ i := fun z => by subst z; rw [freeze_at q] at e1; cases e1
          have nj' : j' ≠ i := fun z => by subst z; rw [freeze_at q] at e2; cases e2
          rw [freeze_get nj] at e1
          rw [freeze_get nj'] at e2
          exact g.inj j j' d e v e1 e2 e3 e4
        · rw [upd_ne (show b ≠ a from fun z => e3 (by rw [z]; exact own_a))]; exact e1
        · obtain ⟨j, d, e1, e2⟩ := hb
          have nj : j ≠ i := fun z => by subst z; rw [freeze_at q] at e1; cases e1
          rw [freeze_get nj] at e1
          exact ⟨j, d, e1, e2⟩
        · by_cases hba : b = a
          · subst hba; rw [upd_same]; simp
          · rw [upd_ne hba]; exact hb
        · rw [h1] at e1; cases e1
          unfold dataAt at e2; rw [q] at e2; cases e2
          simp only [Fz]
          exact ⟨a, xs, rfl, .inl ⟨o, upd_same⟩, Fzs.keep k _ _ hx⟩
        · by_cases hba : b = a
          · subst hba; exact .inr ⟨h1, own_a, o, xs, ha, upd_same⟩
          · exact .inl (upd_ne hba)
      | _ => exact h2.elim
/-- an operand becomes known for good -/
structure EsC (K : PySem.W.Frag) (T : List Addr) (r : Env) (σ : St) (H : Hp) (o : Op) (v : V) (d : D) (r1 : Env) (H' : Hp) : Prop where
  fz : Fz K H' d v
  gd : Gd K T r1 σ H'
  sub : ∀ a, Own r1 σ a → Own r σ a
  kp : Kp H H'
  bk : ∀ b, H' b = H b ∨ (v = .ref b ∧ FrzAt H H' b ∧ (Own r σ b ∨ ∃ d, o = .new d))
theorem esc_gen {K : PySem.W.Frag} {o : Op} {v : V} {d : D} {r1 : Env} (g : Gd K T r σ H) (hn : ∀ d a, o = .new d → v = .ref a → ¬ Own r σ a) (h : OpV K σ H0 H o v) (e : esc o r = .ok d r1) :
    EsC K T r σ H o v d r1 H ∨ ∃ a xs, v = .ref a ∧ H a = some (.lst xs) ∧ ∀ ob, EsC K T r σ H o v d r1 (upd H a (.frz ob (.lst xs))) := by
  cases o with
  | ref i =>
    have h : σ[i]? = some (some v) := h
    have e : opt (dataAt r i) (freeze i r) = .ok d r1 := e
    obtain ⟨e1, e2⟩ := opt_ok e
    subst e2
    have mk : ∀ {H'}, FrC K T r σ H i H' → EsC K T r σ H (.ref i) v d (freeze i r) H' := fun {H'} c => by
      refine ⟨c.fz v d h e1, c.post.gd, c.post.sub, c.post.kp g, fun b => ?_⟩
      rcases c.bk b with q | ⟨q1, q2, q3⟩
      · exact .inl q
      · rw [h] at q1; cases q1; exact .inr ⟨rfl, q3, .inl q2⟩
    rcases freeze_gen g i with c | ⟨a, xs, h1, h2, c⟩
    · exact .inl (mk c)
    · rw [h] at h1; cases h1
      exact .inr ⟨a, xs, rfl, h2, fun ob => mk (c ob)⟩
  | val d' => cases e; exact .inl ⟨h, g, fun _ z => z, Kp.refl H, fun _ => .inl rfl⟩
  | new d' =>
    cases e
    obtain ⟨h1, h2⟩ := h
    cases d with
    | list ds =>
      obtain ⟨a, xs, rfl, ha, hx⟩ := h1
      refine .inr ⟨a, xs, rfl, ha, fun ob => ?_⟩
      have k := upd_kp (u := .frz ob (.lst xs)) ha
      refine ⟨?_, ⟨g.len, fun j d e => ?_, fun j d e => ?_, g.inj, fun p hp => tabG_upd ha (g.tb p hp)⟩, fun _ z => z, k, fun b => ?_⟩
      · simp only [Fz]
        exact ⟨a, xs, rfl, .inl ⟨ob, upd_same⟩, Fzs.keep k _ _ hx⟩
      · obtain ⟨v, e1, e2⟩ := g.fz j d e
        exact ⟨v, e1, Fz.keep k d v e2⟩
      · obtain ⟨v, e1, e2⟩ := g.ow j d e
        refine ⟨v, e1, e2.keep k fun b ys e3 e4 => ?_⟩
        rw [upd_ne fun z => ?_]
        · exact e4
        · subst z; subst e3
          exact hn _ b rfl rfl ⟨j, d, e, e1⟩
      · by_cases hba : b = a
        · subst hba; exact .inr ⟨rfl, ⟨ob, xs, ha, upd_same⟩, .inr ⟨_, rfl⟩⟩
        · exact .inl (upd_ne hba)
    | _ => exact h1.elim
theorem esc_ok {o : Op} {v : V} {d : D} {r1 : Env} (g : Gd X.K T r σ H) (I : Inv X pins σ H s) (hn : ∀ d a, o = .new d → v = .ref a → ¬ Own r σ a) (h : OpV X.K σ H0 H o v) (e : esc o r = .ok d r1) :
    ∃ H', Inv X pins σ H' s ∧ Fz X.K H' d v ∧ Gd X.K T r1 σ H' ∧ (∀ a, Own r1 σ a → Own r σ a) ∧ Kp H H' ∧ ∀ b, H' b = H b ∨ (v = .ref b ∧ FrzAt H H' b ∧ (Own r σ b ∨ ∃ d, o = .new d)) := by
  rcases esc_gen g hn h e with c | ⟨a, xs, e1, ha, c⟩
  · exact ⟨H, I, c.fz, c.gd, c.sub, c.kp, c.bk⟩
  · obtain ⟨ob, I'⟩ := frz_at I ha
    have c := c ob
    exact ⟨_, I', c.fz, c.gd, c.sub, c.kp, c.bk⟩
/-- over what has changed but for the later ones -/
theorem OpVs.over {K : PySem.W.Frag} {H' : Hp} : ∀ {Hs H : Hp} {os : List Op} {vs : List V}, OpVs K σ Hs H os vs → Kp H H' → (∀ b, H' b = H b ∨ Hs b ≠ none) → OpVs K σ Hs H' os vs := by
  intro Hs H os vs h
  induction h with
  | nil => intro _ _; exact .nil
  | @cons H0 H1 H o v os vs h1 h2 h3 h4 ih =>
    intro k hb
    refine .cons ?_ h2 h3 (ih k fun b => (hb b).imp id fun q => h3 b q)
    cases o with
    | ref i => exact h1
    | val d => exact Fz.keep k d v h1
    | new d =>
      obtain ⟨q1, q2⟩ := h1
      refine ⟨q1.keep k fun a xs e1 e2 => ?_, q2⟩
      rcases hb a with z | z
      · rw [z]; exact e2
      · exact absurd (q2 a e1) z
/-- the operands become known for good, one after another -/
theorem escAll_ok : ∀ {os : List Op} {vs : List V} {r r1 : Env} {H Hs : Hp} {ds : List D}, Gd X.K T r σ H → Inv X pins σ H s → OpVs X.K σ Hs H os vs → (∀ a, Own r σ a → Hs a ≠ none) → escAll os r = .ok ds r1 →
    ∃ H', Inv X pins σ H' s ∧ Fzs X.K H' ds vs ∧ Gd X.K T r1 σ H' ∧ (∀ a, Own r1 σ a → Own r σ a) ∧ Kp H H' ∧ ∀ b, H' b = H b ∨ (FrzAt H H' b ∧ (Own r σ b ∨ Hs b = none)) := by
  intro os
  induction os with
  | nil =>
    intro vs r r1 H Hs ds g I h _ e
    cases h
    cases e
    exact ⟨H, I, .nil, g, fun _ z => z, Kp.refl H, fun _ => .inl rfl⟩
  | cons o os ih =>
    intro vs r r1 H Hs ds g I h hw e
    cases h with
    | @cons _ H1 _ _ v _ vs' h1 h2 h3 h4 =>
    have e : bd (esc o) (fun d => bd (escAll os) fun ds => ret (d :: ds)) r = .ok ds r1 := e
    unfold bd at e
    cases q : esc o r with
    | ex c r' => rw [q] at e; cases e
    | no => rw [q] at e; cases e
    | ok d r2 =>
      rw [q] at e
      have e : ((escAll os) r2).bd (fun ds => ret (d :: ds)) = .ok ds r1 := e
      cases q2 : escAll os r2 with
      | ex c r' => rw [q2] at e; cases e
      | no => rw [q2] at e; cases e
      | ok es r3 =>
        rw [q2] at e
        cases e
        obtain ⟨H2, I2, f2, g2, s2, k2, b2⟩ := esc_ok g I (fun d' a z1 z2 z3 => by
          subst z1
          exact hw a z3 (h1.2 a z2)) h1 q
        have h4' := h4.over k2 fun b => by
          rcases b2 b with z | ⟨z1, z3, z4⟩
          · exact .inl z
          · right
            rcases z4 with z4 | ⟨d', z4⟩
            · exact h3 b (hw b z4)
            · exact h2 d' b z4 z1
        obtain ⟨H3, I3, f3, g3, s3, k3, b3⟩ := ih g2 I2 h4' (fun a z => h3 a (hw a (s2 a z))) q2
        refine ⟨H3, I3, .cons (Fz.keep k3 d v f2) f3, g3, fun a z => s2 a (s3 a z), k2.trans k3, fun b => ?_⟩
        rcases b2 b with z | ⟨z1, z3, z4⟩
        · rcases b3 b with y | ⟨y1, y3⟩
          · exact .inl (y.trans z)
          · refine .inr ⟨by obtain ⟨o', xs', w1, w2⟩ := y1; exact ⟨o', xs', by rw [← z]; exact w1, w2⟩, ?_⟩
            rcases y3 with y3 | y3
            · exact .inl (s2 b y3)
            · right
              cases w : Hs b with
              | none => rfl
              | some o' => exact absurd y3 (h3 b (by rw [w]; simp))
        · have n3 : FrzAt H H3 b := by
            obtain ⟨o', xs', w1, w2⟩ := z3
            rcases b3 b with y | ⟨⟨_, _, y, _⟩, _⟩
            · exact ⟨o', xs', w1, by rw [y]; exact w2⟩
            · rw [w2] at y; cases y
          refine .inr ⟨n3, ?_⟩
          rcases z4 with z4 | ⟨d', z4⟩
          · exact .inl z4
          · right; subst z4; exact h1.2 b z1
/-- the whole, seen from the beginning -/
theorem esc_post {K : PySem.W.Frag} {r0 : Env} {H0 : Hp} {H' : Hp} {r1 : Env} (p : Post K T r0 σ H0 r H) (g1 : Gd K T r1 σ H') (sb : ∀ a, Own r1 σ a → Own r σ a) (hb : ∀ b, H' b = H b ∨ (FrzAt H H' b ∧ (Own r σ b ∨ H0 b = none))) : Post K T r0 σ H0 r1 H' := by
  refine ⟨g1, fun a o h1 h2 h3 => ?_, fun a z => p.sub a (sb a z), fun a z => ?_⟩
  · rcases hb a with q | ⟨_, q⟩
    · rw [q]; exact p.ext a o h1 h2 h3
    · rcases q with q | q
      · exact absurd (p.sub a q) h3
      · rw [q] at h1; cases h1
  · rcases hb a with q | ⟨q, _⟩
    · rw [q]; exact p.tr a z
    · exact q.n1
end
end Fw

/-! Fw: the operators over data -/
namespace Fw
open PySem PySem.Spec PyProof.Rows L2

/-- an answer as a value -/
def RvV (K : PySem.W.Frag) (H H' : Hp) : Rv → V → Prop
  | .val d, z => Fz K H' d z
  | .new d, z => OwD K H' d z ∧ ∀ a, z = .ref a → H a = none
def Gives (K : PySem.W.Frag) (H : Hp) (v : Rv) (Q : VK) : Prop := ∀ z H', Same H H' → RvV K H H' v z → Q z H'
theorem same_upd {H : Hp} {p : Addr} {o : HO} (h : H p = none) : Same H (upd H p o) := fun b x e => by
  rw [upd_ne (ne_of_none e h)]
  exact e
theorem Gives.self {K : PySem.W.Frag} {H : Hp} {d : D} {Q : VK} {z : V} (g : Gives K H (.val d) Q) (h : Fz K H d z) : Q z H := g z H (Same.refl H) h
theorem Gives.lst {K : PySem.W.Frag} {H : Hp} {ds : List D} {xs : List V} {Q : VK} (g : Gives K H (.new (.list ds)) Q) (h : Fzs K H ds xs) {p : Addr} (hp : H p = none) : Q (.ref p) (upd H p (.lst xs)) := by
  have s := same_upd (o := .lst xs) hp
  refine g _ _ s ⟨⟨p, xs, rfl, upd_same, Fzs.keep ⟨fun a o u e => s _ _ e, fun a ys e => s _ _ e⟩ _ _ h⟩, fun a e => ?_⟩
  cases e; exact hp
theorem Gives.tup {K : PySem.W.Frag} {H : Hp} {ds : List D} {xs : List V} {Q : VK} (g : Gives K H (.val (.tuple ds)) Q) (h : Fzs K H ds xs) {p : Addr} (hp : H p = none) : Q (.ref p) (upd H p (.tup xs)) := by
  have s := same_upd (o := .tup xs) hp
  refine g _ _ s ?_
  show Fz K _ (.tuple ds) _
  simp only [Fz]
  exact ⟨p, xs, rfl, .inl (.inl upd_same), Fzs.keep ⟨fun a o u e => s _ _ e, fun a ys e => s _ _ e⟩ _ _ h⟩
theorem Gives.int {K : PySem.W.Frag} {H : Hp} {i : Int} {Q : VK} (g : Gives K H (.val (.int i)) Q) : Q (.int i) H := g.self (by simp [Fz])
theorem Gives.bool {K : PySem.W.Frag} {H : Hp} {b : Bool} {Q : VK} (g : Gives K H (.val (.bool b)) Q) : Q (.bl b) H := g.self (by simp [Fz])
theorem Gives.str {K : PySem.W.Frag} {H : Hp} {x : Str} {Q : VK} (g : Gives K H (.val (.str x)) Q) : Q (.str x) H := g.self (by simp [Fz])
theorem Fzs.len0 {K : PySem.W.Frag} {H : Hp} {vs : List V} (h : Fzs K H [] vs) : vs = [] := by simpa [Fzs] using h

mutual
theorem okN_plain : ∀ (d : D) (n : Nat), okN n d = true → d.plain = true ∧ d.depth ≤ n
  | .none, _, _ => ⟨by simp [PyData.plain], by simp [PyData.depth]⟩
  | .bool _, _, _ => ⟨by simp [PyData.plain], by simp [PyData.depth]⟩
  | .int _, _, _ => ⟨by simp [PyData.plain], by simp [PyData.depth]⟩
  | .str _, _, _ => ⟨by simp [PyData.plain], by simp [PyData.depth]⟩
  | .list xs, n, h => by
    cases n with
    | zero => simp [okN, isScal] at h
    | succ n =>
      obtain ⟨h1, h2⟩ := okN_plains xs n (by simpa [okN] using h)
      exact ⟨by simp only [PyData.plain]; exact h1, by simp only [PyData.depth]; omega⟩
  | .tuple xs, n, h => by
    cases n with
    | zero => simp [okN, isScal] at h
    | succ n =>
      obtain ⟨h1, h2⟩ := okN_plains xs n (by simpa [okN] using h)
      exact ⟨by simp only [PyData.plain]; exact h1, by simp only [PyData.depth]; omega⟩
  | .dict _, n, h => by cases n <;> simp [okN, isScal] at h
theorem okN_plains : ∀ (xs : List D) (n : Nat), (∀ x ∈ xs, okN n x = true) → PyData.plainAll xs = true ∧ PyData.depthAll xs ≤ n
  | [], _, _ => ⟨by simp [PyData.plainAll], by simp [PyData.depthAll]⟩
  | x :: xs, n, h => by
    obtain ⟨h1, h2⟩ := okN_plain x n (h x List.mem_cons_self)
    obtain ⟨h3, h4⟩ := okN_plains xs n fun y hy => h y (List.mem_cons_of_mem _ hy)
    exact ⟨by simp only [PyData.plainAll, h1, h3, Bool.and_self], by simp only [PyData.depthAll]; omega⟩
end
theorem ok_seq {xs : List D} {c : D} (hc : c = .list xs ∨ c = .tuple xs) (h : okN 40 c = true) : PyData.plainAll xs = true ∧ PyData.depthAll xs ≤ 39 := by
  refine okN_plains xs 39 ?_
  rcases hc with rfl | rfl <;> simpa [okN] using h

theorem list_mulW (l : Addr) (items : Array Value) (n : Nat) (dd : Option Addr) (sl : Array (Option Value)) (x : Int) (u : Tok) (hc0 : ¬(!Builtin.List.listFitsIndex x) = true) (hc1 : ¬items.size * x.toNat > (2 ^ 63 - 1) / 8) (hc2 : ¬Builtin.List.listTooLong (items.size * x.toNat) = true)
    (hsz : (List.foldl (fun x1 x2 => x1 ++ x2) #[] (List.replicate (if items.isEmpty = true then 0 else x.toNat) items)).size ≤ sizeLine) :
    Meets (Builtin.«list.__mul__» ⟨[.ref l, .int x u], []⟩) (fun _ R s => s.heap.get? l = some { cls := .type "list", dict := dd, data := .seq items n, slots := sl } ∧ R (.ok (.ret (Value.ref s.heap.objs.size))) { s with heap := s.heap.push { cls := Value.type "list", data := Data.seq (List.foldl (fun x1 x2 => x1 ++ x2) #[] (List.replicate (if items.isEmpty = true then 0 else x.toNat) items)) }, toks := s.toks }) :=
  .of_wp fun prog w A R s h => by
    obtain ⟨hp, g, d, tk, os⟩ := s; obtain ⟨hl, h⟩ := h
    wp_walk using wpAny_loadPart' hl
    repeat (first
      | (refine wpAny_ite_false (decide_eq_false (Nat.not_lt.mpr hsz)) ?_; wp_walk using wpAny_loadPart' hl)
      | (refine wpAny_ite_false (decide_eq_false hc0) ?_; wp_walk using wpAny_loadPart' hl)
      | (refine wpAny_ite_false (decide_eq_false hc1) ?_; wp_walk using wpAny_loadPart' hl)
      | (refine wpAny_ite_false (decide_eq_false hc2) ?_; wp_walk using wpAny_loadPart' hl))
    exact ⟨_, rfl, h⟩
theorem int_rmul_listW (a : Int) (t : Tok) (l : Addr) (items : Array Value) (n : Nat) (dd : Option Addr) (sl : Array (Option Value)) :
    Meets (Builtin.«int.__rmul__» ⟨[.int a t, .ref l], []⟩) (fun _ R s => s.heap.get? l = some { cls := .type "list", dict := dd, data := .seq items n, slots := sl } ∧ R (.ok (.ret Value.notImplemented)) s) :=
  .of_wp fun prog w A R s h => by obtain ⟨hp, g, d, tk, os⟩ := s; obtain ⟨hl, h⟩ := h; wp_walk using wpAny_loadPart' hl; exact ⟨_, rfl, h⟩
section
variable {X : Cx}
theorem op_catL : OpR X (binaryOp .Add) (fun x y H Q => ∃ l b xs zs, x = .ref l ∧ y = .ref b ∧ SqL X.K H l xs ∧ SqL X.K H b zs ∧ xs.length + zs.length ≤ sizeLine ∧ ∀ p, H p = none → Q (.ref p) (upd H p (.lst (xs ++ zs)))) := by
  intro pins s σ H x y v u Q I rx ry h
  obtain ⟨l, b, xs, zs, rfl, rfl, hH, hB, hz, q⟩ := h
  cases rx
  cases ry
  obtain ⟨its, r, ⟨⟨cls, dd, data, sl⟩, n, e, hc, hd, hda⟩, hl⟩ := I.list hH
  obtain ⟨its2, r2, ⟨⟨cls2, dd2, data2, sl2⟩, n2, e2, hc2, hd2, hda2⟩, hl2⟩ := I.list hB
  simp only at hc hd hda hc2 hd2 hda2
  subst hc hd hda hc2 hd2 hda2
  have ea : its.toArray ++ its2.toArray = (its ++ its2).toArray := by simp
  have l1 := r.length
  have l2 := r2.length
  refine concat_meets ⟨_, e, rfl⟩ ⟨_, e2, rfl⟩ noFill_list_add seq_list_add PySem.F.slot_list_add PySem.F.entry_list_add (PySem.F.args_list_add_2 _ _) (list_addW l b its.toArray its2.toArray n n2 _ _ sl sl2 (by simp; omega)) ⟨e, e2, ?_⟩
  rw [ea]
  exact ⟨.ref _, _, I.lnew (t' := s.toks) (r.append r2) (by rw [List.length_append]; omega), rfl, q _ I.fresh⟩
theorem op_repL : OpR X (binaryOp .Mult) (fun x y H Q => ∃ l k xs, x = .ref l ∧ y = .int k ∧ SqL X.K H l xs ∧ -(2 ^ 63) ≤ k ∧ k < 2 ^ 63 ∧ xs.length * k.toNat ≤ sizeLine ∧
    ∀ p, H p = none → Q (.ref p) (upd H p (.lst (List.replicate k.toNat xs).flatten))) := by
  intro pins s σ H x y v u Q I rx ry h
  obtain ⟨l, k, xs, rfl, rfl, hH, h1, h2, hz, q⟩ := h
  cases rx
  obtain ⟨t, rfl⟩ := ry
  obtain ⟨its, r, ⟨⟨cls, dd, data, sl⟩, n, e, hc, hd, hda⟩, hl⟩ := I.list hH
  simp only at hc hd hda
  subst hc hd hda
  have hle := r.length
  have hlen : its.toArray.size * k.toNat ≤ sizeLine := by rw [List.size_toArray, ← hle]; exact hz
  have hcap : ¬ its.toArray.size * k.toNat > (2 ^ 63 - 1) / 8 := by
    have : (sizeLine : Nat) ≤ (2 ^ 63 - 1) / 8 := by decide
    omega
  have hfit : ¬ (!Builtin.List.listFitsIndex k) = true := by
    rw [fitsIndex_both h1 h2]
    exact Bool.false_ne_true
  have hlong : ¬ Builtin.List.listTooLong (its.toArray.size * k.toNat) = true := by
    rw [notLongL hlen]
    exact Bool.false_ne_true
  have hnew : List.foldl (fun x1 x2 => x1 ++ x2) #[] (List.replicate (if its.toArray.isEmpty = true then 0 else k.toNat) its.toArray) = (List.replicate k.toNat its).flatten.toArray := by
    rw [size_rep]
    cases its with
    | nil => simp
    | cons a r' => rw [if_neg (by simp)]
  refine wpAny_binaryOp_repeat_ref (T := "list") (U := "int") (by decide) ⟨_, e, rfl⟩ (fun s' => typeIs_int s' k t) noFill_list_mul PySem.F.fills_int_mul PySem.F.slot_int_rmul repeat_list PySem.F.slot_int_index.lookup
    (call_meets PySem.F.slot_int_rmul (typeIs_int s k t) PySem.F.entry_int_rmul (PySem.F.args_int_rmul_2 _ _) (int_rmul_listW k t l its.toArray n none sl)
      ⟨e, rfl, ⟨_, e, rfl⟩, call_meets PySem.F.slot_list_mul ⟨_, e, rfl⟩ PySem.F.entry_list_mul (PySem.F.args_list_mul_2 _ _) (list_mulW l its.toArray n none sl k t hfit hcap hlong (by rw [hnew, List.size_toArray, PyProof.Rows.lm_len_rep_flat, ← hle, Nat.mul_comm]; exact hz)) ⟨e, ?_⟩⟩)
  rw [hnew]
  exact ⟨.ref _, _, I.lnew (t' := s.toks) (r.rep k.toNat) (by rw [PyProof.Rows.lm_len_rep_flat, Nat.mul_comm]; exact hz), rfl, q _ I.fresh⟩

def opr : Bop → Operator
  | .add => .Add | .sub => .Sub | .mul => .Mult | .fdiv => .FloorDiv | .mod => .Mod | .pow => .Pow
  | .shl => .LShift | .shr => .RShift | .band => .BitAnd | .bor => .BitOr | .bxor => .BitXor
theorem bopOf_opr {o : Operator} {b : Bop} (h : bopOf o = some b) : o = opr b := by
  cases o <;> simp [bopOf] at h <;> subst h <;> rfl
theorem bits63 {j : Int} (h : j.natAbs < 2 ^ 63) : Builtin.Int.intBits j ≤ 64 := by
  have x := PySem.Flt.log2_lt_of (k := 63) (by decide) h
  unfold Builtin.Int.intBits
  split <;> omega
theorem BIG_mul {i j : Int} (h : (i.natAbs < BIG ∧ j.natAbs < BIG) ∨ j.natAbs < 2 ^ 63 ∨ i.natAbs < 2 ^ 63) : IntMulOk i j := by
  unfold BIG at h
  rcases h with h | h | h
  · exact (wide_mul (a := 100000) (b := 100000) h.1 h.2 (by decide) (by decide) (by decide) : CMulW i j).ok
  · exact .of_right (bits63 h)
  · exact .of_left (bits63 h)
theorem op_mulI {X : Cx} : OpR X (binaryOp .Mult) (rI IntMulOk fun i j => .int (i * j)) := opI fun _ _ _ _ _ _ _ hc q => mul_int q hc
/-- a op b, by values -/
theorem or_bin (o : Bop) : OpR X (binaryOp (opr o)) (fun x y H Q => ∃ d e v, Rdv X.K H d x ∧ Rdv X.K H e y ∧ binD o d e = some v ∧ Gives X.K H v Q) := by
  intro pins s σ H x y v u Q I rx ry h
  obtain ⟨d, e, a, hd, he, hb, q⟩ := h
  have two : ∀ {i j : Int} {r : R2}, d = .int i → e = .int j → OpR X (binaryOp (opr o)) r → (x = .int i → y = .int j → r x y H Q) → wpAny (model X.prog X.w) X.A (binaryOp (opr o) v u) (EP X pins σ Q) X.xe s := fun {i j r} e1 e2 R k => by
    subst e1 e2
    exact R pins s σ H x y v u Q I rx ry (k hd.int he.int)
  unfold binD at hb
  split at hb
  · cases hb
    exact two rfl rfl op_add fun e1 e2 => ⟨_, _, e1, e2, q.int⟩
  · cases hb
    have e1 := hd.int
    have e2 := he.bool
    rename_i c
    refine op_add_ib pins s σ H x y v u Q I rx ry ⟨_, c, e1, e2, ?_⟩
    have : b2i c = if c = true then 1 else 0 := by cases c <;> rfl
    rw [this]
    exact q.int
  · split at hb
    · rename_i hz
      cases hb
      obtain ⟨p, xs, e1, h1, h2⟩ := hd.list
      obtain ⟨p', ys, e2, h3, h4⟩ := he.list
      exact op_catL pins s σ H x y v u Q I rx ry ⟨p, p', xs, ys, e1, e2, h1, h3, by rw [← h2.length, ← h4.length]; exact hz, fun p hp => q.lst (h2.app h4) hp⟩
    · cases hb
  · split at hb
    · rename_i hz
      cases hb
      obtain ⟨p, xs, e1, h1, h2⟩ := hd.tuple
      obtain ⟨p', ys, e2, h3, h4⟩ := he.tuple
      refine op_catA pins s σ H x y v u Q I rx ry ⟨p, p', xs, ys, e1, e2, h1, h3, by rw [← h2.length, ← h4.length]; exact hz, fun z => ?_, fun _ z => ?_, fun _ _ p hp => q.tup (h2.app h4) hp⟩
      · subst z
        have h5 := h2.app h4
        rw [List.nil_append] at h5
        exact q.self (by simp only [Fz]; exact ⟨p', ys, rfl, h3, h5⟩)
      · subst z
        have h5 := h2.app h4
        rw [List.append_nil] at h5
        exact q.self (by simp only [Fz]; exact ⟨p, xs, rfl, h1, h5⟩)
    · cases hb
  · split at hb
    · rename_i hz
      cases hb
      exact op_add_str pins s σ H x y v u Q I rx ry ⟨_, _, hd.str, he.str, hz, q.str⟩
    · cases hb
  · cases hb
    exact two rfl rfl op_sub fun e1 e2 => ⟨_, _, e1, e2, q.int⟩
  · split at hb
    · rename_i hz
      cases hb
      exact two rfl rfl op_mulI fun e1 e2 => ⟨_, _, e1, e2, BIG_mul hz, q.int⟩
    · cases hb
  · split at hb
    · rename_i hz
      cases hb
      obtain ⟨p, xs, e1, h1, h2⟩ := hd.list
      refine op_repL pins s σ H x y v u Q I rx ry ⟨p, _, xs, e1, he.int, h1, by omega, by omega, by rw [← h2.length]; exact hz.1, fun p hp => q.lst (h2.rep _) hp⟩
    · cases hb
  · split at hb
    · rename_i hz
      cases hb
      obtain ⟨p, xs, e1, h1, h2⟩ := hd.tuple
      have hl := h2.length
      rename_i ds k
      subst e1
      by_cases c1 : xs = [] ∨ k = 1
      · have e : (List.replicate k.toNat ds).flatten = ds := by
          rcases c1 with rfl | rfl
          · rw [List.eq_nil_of_length_eq_zero (l := ds) (by rw [hl]; rfl)]; simp
          · simp
        rw [e] at q
        exact op_repT1 pins s σ H _ y v u Q I rx ry ⟨p, _, xs, rfl, he.int, h1, by omega, .inl ⟨c1, q.self (hd.elim id fun h => h.elim)⟩⟩
      · by_cases c2 : k ≤ 0
        · have e : k.toNat = 0 := by omega
          rw [e] at q
          exact op_repT1 pins s σ H _ y v u Q I rx ry ⟨p, _, xs, rfl, he.int, h1, by omega, .inr ⟨fun e => c1 (.inl e), c2, fun p hp => q.tup (xs := []) .nil hp⟩⟩
        · exact op_repT pins s σ H _ y v u Q I rx ry ⟨p, _, xs, rfl, he.int, h1, fun e => c1 (.inl e), by omega, hz.2.1, by rw [← hl]; exact hz.2.2, fun p hp => q.tup (h2.rep _) hp⟩
    · cases hb
  · split at hb
    · rename_i hz
      cases hb
      unfold divI at q
      split at q
      · rename_i hp
        rcases hz with hz | hz
        · exact two rfl rfl op_fdivW fun e1 e2 => ⟨_, _, e1, e2, wide_div hz.1 hz.2 (by decide) (by decide), q.int⟩
        · exact two rfl rfl op_fdivW fun e1 e2 => ⟨_, _, e1, e2, wide_div (b := 30) hp (by omega) (by decide) (by decide), q.int⟩
      · rename_i hp
        rcases hz with hz | hz
        · exact absurd hz.1 hp
        · exact two rfl rfl op_fdivN fun e1 e2 => ⟨_, _, e1, e2, hz, q.int⟩
    · cases hb
  · split at hb
    · rename_i hz
      cases hb
      unfold modI at q
      split at q
      · rename_i hp
        exact two rfl rfl op_mod fun e1 e2 => ⟨_, _, e1, e2, hp, q.int⟩
      · exact two rfl rfl op_modN fun e1 e2 => ⟨_, _, e1, e2, hz, q.int⟩
    · cases hb
  · split at hb
    · rename_i hz
      cases hb
      exact two rfl rfl op_pow fun e1 e2 => ⟨_, _, e1, e2, hz, q.int⟩
    · cases hb
  · split at hb
    · rename_i hz
      cases hb
      exact two rfl rfl op_shl fun e1 e2 => ⟨_, _, e1, e2, hz, q.int⟩
    · cases hb
  · split at hb
    · rename_i hz
      cases hb
      exact two rfl rfl op_shr fun e1 e2 => ⟨_, _, e1, e2, hz, q.int⟩
    · cases hb
  · cases hb
    exact two rfl rfl op_and fun e1 e2 => ⟨_, _, e1, e2, q.int⟩
  · cases hb
    exact two rfl rfl op_or fun e1 e2 => ⟨_, _, e1, e2, q.int⟩
  · cases hb
    exact two rfl rfl op_xor fun e1 e2 => ⟨_, _, e1, e2, q.int⟩
  · cases hb
end
end Fw

namespace Fw
open PySem PySem.Spec PyProof.Rows L2
section
variable {M : Model} {A : Around} {E : Value → Shared → Prop} {s : Shared} {Q : Value → Shared → Prop}
theorem is_bool_rel {x : V} {v : Value} {d : Bool} (r : RelV x v) (h : Q (.bool (v == .bool d)) s) : wpAny M A (compareOp .Is v (.bool d)) Q E s := by
  cases x with
  | non => cases r; exact wpAny_pure h
  | bl _ => cases r; exact wpAny_pure h
  | int _ => obtain ⟨t, rfl⟩ := r; exact wpAny_pure h
  | str _ => obtain ⟨t, rfl⟩ := r; exact wpAny_pure h
  | byt _ => obtain ⟨t, rfl⟩ := r; exact wpAny_pure h
  | flt _ => obtain ⟨t, rfl⟩ := r; exact wpAny_pure h
  | ref _ => cases r; exact wpAny_pure h
  | ty _ => cases r; exact wpAny_pure h
theorem isnot_bool_rel {x : V} {v : Value} {d : Bool} (r : RelV x v) (h : Q (.bool (!(v == .bool d))) s) : wpAny M A (compareOp .IsNot v (.bool d)) Q E s := by
  cases x with
  | non => cases r; exact wpAny_pure h
  | bl _ => cases r; exact wpAny_pure h
  | int _ => obtain ⟨t, rfl⟩ := r; exact wpAny_pure h
  | str _ => obtain ⟨t, rfl⟩ := r; exact wpAny_pure h
  | byt _ => obtain ⟨t, rfl⟩ := r; exact wpAny_pure h
  | flt _ => obtain ⟨t, rfl⟩ := r; exact wpAny_pure h
  | ref _ => cases r; exact wpAny_pure h
  | ty _ => cases r; exact wpAny_pure h
end
def cpr : Cop → CmpOp
  | .eq => .Eq | .ne => .NotEq | .lt => .Lt | .le => .LtE | .gt => .Gt | .ge => .GtE | .is => .Is | .isnot => .IsNot | .isin => .In | .notin => .NotIn
theorem copOf_cpr (o : CmpOp) : cpr (copOf o) = o := by cases o <;> rfl
section
variable {X : Cx}
theorem RelV.bool_iff {d : Bool} {x : V} {v : Value} {a : D} {K : PySem.W.Frag} {H : Hp} (r : RelV x v) (h : Rdv K H a x) : isD a (.bool d) = some (v == Value.bool d) := by
  cases a with
  | bool b =>
    have e := h.bool; subst e; cases r
    cases b <;> cases d <;> rfl
  | none => have e := h.non; subst e; cases r; rfl
  | int i => have e := h.int; subst e; obtain ⟨t, rfl⟩ := r; rfl
  | str i => have e := h.str; subst e; obtain ⟨t, rfl⟩ := r; rfl
  | list ds => obtain ⟨p, xs, e, _⟩ := h.list; subst e; cases r; rfl
  | tuple ds => obtain ⟨p, xs, e, _⟩ := h.tuple; subst e; cases r; rfl
  | dict k =>
    obtain ⟨p, e⟩ := h.dref
    subst e; cases r; rfl
theorem RelV.non_iff {x : V} {v : Value} {a : D} {K : PySem.W.Frag} {H : Hp} (r : RelV x v) (h : Rdv K H a x) : isD a .none = some (v == Value.none) := by
  cases a with
  | bool b => have e := h.bool; subst e; cases r; rfl
  | none => have e := h.non; subst e; cases r; rfl
  | int i => have e := h.int; subst e; obtain ⟨t, rfl⟩ := r; rfl
  | str i => have e := h.str; subst e; obtain ⟨t, rfl⟩ := r; rfl
  | list ds => obtain ⟨p, xs, e, _⟩ := h.list; subst e; cases r; rfl
  | tuple ds => obtain ⟨p, xs, e, _⟩ := h.tuple; subst e; cases r; rfl
  | dict k =>
    obtain ⟨p, e⟩ := h.dref
    subst e; cases r; rfl
/-- a op b, by values -/
theorem or_cmp (hu : X.A.units + 64 < cLine) (o : Cop) : OpR X (compareOp (cpr o)) (fun x y H Q => ∃ d e b, Rdv X.K H d x ∧ Rdv X.K H e y ∧ cmpD o d e = some b ∧ Q (.bl b) H) := by
  intro pins s σ H x y v u Q I rx ry h
  obtain ⟨d, e, b, hd, he, hb, q⟩ := h
  have rd1 : d.plain = true → ∃ as, Reads s.heap v d as := fun p => Dp.reads I d x v (hd.dp p) rx
  have rd2 : e.plain = true → ∃ bs, Reads s.heap u e bs := fun p => Dp.reads I e y u (he.dp p) ry
  have fin : EP X pins σ Q (.bool b) s := ⟨.bl b, H, I, rfl, q⟩
  have lt_ : ∀ {d e : D} {x y : V} {v u : Value} {b : Bool} {op : CmpOp}, Rdv X.K H d x → Rdv X.K H e y → RelV x v → RelV y u → (d.plain = true → ∃ as, Reads s.heap v d as) → (e.plain = true → ∃ bs, Reads s.heap u e bs) → (op = .Lt ∨ op = .Gt) → ltD d e = some b → EP X pins σ Q (.bool b) s →
      (op = .Lt → wpAny (model X.prog X.w) X.A (compareOp .Lt v u) (EP X pins σ Q) X.xe s) ∧ (op = .Gt → wpAny (model X.prog X.w) X.A (compareOp .Gt u v) (EP X pins σ Q) X.xe s) := by
    intro d e x y v u b op hd he rx ry rd1 rd2 _ hb fin
    unfold ltD at hb
    split at hb
    · cases hb
      have e1 := hd.int; have e2 := he.int
      subst e1 e2
      obtain ⟨t, rfl⟩ := rx
      obtain ⟨t', rfl⟩ := ry
      exact ⟨fun _ => lt_int fin, fun _ => gt_int fin⟩
    · cases hb
    · rename_i hn0 hn
      split at hb
      · rename_i hz
        cases hb
        rw [Bool.and_eq_true, Bool.and_eq_true] at hz
        obtain ⟨⟨z1, z2⟩, z3⟩ := hz
        have p1 := okN_plain d 40 z2
        have p2 := okN_plain e 40 z3
        obtain ⟨as, r1⟩ := rd1 p1.1
        obtain ⟨bs, r2⟩ := rd2 p2.1
        refine ⟨fun _ => PySem.W.lt_data r1 r2 z1 (fun z => hn0 z) (by omega) fin, fun _ => PySem.W.gt_data r2 r1 (by rw [PySem.W.alike_comm]; exact z1) (fun z => ?_) (by omega) fin⟩
        exact PySem.W.ne_none_both z1 (fun z => hn0 z) z
      · cases hb
  have le_ : ∀ {d e : D} {x y : V} {v u : Value} {b : Bool} {op : CmpOp}, Rdv X.K H d x → Rdv X.K H e y → RelV x v → RelV y u → (d.plain = true → ∃ as, Reads s.heap v d as) → (e.plain = true → ∃ bs, Reads s.heap u e bs) → (op = .Lt ∨ op = .Gt) → leD d e = some b → EP X pins σ Q (.bool b) s →
      (op = .Lt → wpAny (model X.prog X.w) X.A (compareOp .LtE v u) (EP X pins σ Q) X.xe s) ∧ (op = .Gt → wpAny (model X.prog X.w) X.A (compareOp .GtE u v) (EP X pins σ Q) X.xe s) := by
    intro d e x y v u b op hd he rx ry rd1 rd2 _ hb fin
    unfold leD at hb
    split at hb
    · cases hb
      have e1 := hd.int; have e2 := he.int
      subst e1 e2
      obtain ⟨t, rfl⟩ := rx
      obtain ⟨t', rfl⟩ := ry
      exact ⟨fun _ => le_int fin, fun _ => ge_int fin⟩
    · cases hb
    · rename_i hn0 hn
      split at hb
      · rename_i hz
        cases hb
        rw [Bool.and_eq_true, Bool.and_eq_true] at hz
        obtain ⟨⟨z1, z2⟩, z3⟩ := hz
        have p1 := okN_plain d 40 z2
        have p2 := okN_plain e 40 z3
        obtain ⟨as, r1⟩ := rd1 p1.1
        obtain ⟨bs, r2⟩ := rd2 p2.1
        refine ⟨fun _ => PySem.W.le_data r1 r2 z1 (fun z => hn0 z) (by omega) fin, fun _ => PySem.W.ge_data r2 r1 (by rw [PySem.W.alike_comm]; exact z1) (fun z => ?_) (by omega) fin⟩
        exact PySem.W.ne_none_both z1 (fun z => hn0 z) z
      · cases hb
  have eq_ : ∀ {b : Bool}, eqD d e = some b → b = PyData.eqv d e ∧ (d.plain = true ∧ d.depth ≤ 40) ∧ (e.plain = true ∧ e.depth ≤ 40) := by
    intro b hb
    unfold eqD at hb
    split at hb
    · rename_i hz
      cases hb
      rw [Bool.and_eq_true] at hz
      exact ⟨rfl, okN_plain d 40 hz.1, okN_plain e 40 hz.2⟩
    · cases hb
  have in_ : ∀ {b : Bool}, inD d e = some b → (d.plain = true ∧ d.depth ≤ 40) ∧ ∃ ys, (e = .list ys ∨ e = .tuple ys) ∧ (PyData.plainAll ys = true ∧ PyData.depthAll ys ≤ 39) ∧ b = ys.any fun y => PyData.eqv y d := by
    intro b hb
    unfold inD at hb
    split at hb
    · split at hb
      · rename_i hz
        cases hb
        rw [Bool.and_eq_true] at hz
        exact ⟨okN_plain d 40 hz.1, _, .inl rfl, ok_seq (.inl rfl) hz.2, rfl⟩
      · cases hb
    · split at hb
      · rename_i hz
        cases hb
        rw [Bool.and_eq_true] at hz
        exact ⟨okN_plain d 40 hz.1, _, .inr rfl, ok_seq (.inr rfl) hz.2, rfl⟩
      · cases hb
    · cases hb
  cases o with
  | eq =>
    obtain ⟨e1, p1, p2⟩ := eq_ hb
    subst e1
    obtain ⟨as, r1⟩ := rd1 p1.1
    obtain ⟨bs, r2⟩ := rd2 p2.1
    exact PySem.SeqAt.eq_plain r1 r2 p1.1 p2.1 (by omega) fin
  | ne =>
    obtain ⟨c, hc, e0⟩ := Option.map_eq_some_iff.mp hb
    obtain ⟨e1, p1, p2⟩ := eq_ hc
    subst e1 e0
    obtain ⟨as, r1⟩ := rd1 p1.1
    obtain ⟨bs, r2⟩ := rd2 p2.1
    exact PySem.SeqAt.ne_plain r1 r2 p1.1 p2.1 (by omega) fin
  | lt => exact (lt_ (op := .Lt) hd he rx ry rd1 rd2 (.inl rfl) hb fin).1 rfl
  | gt => exact (lt_ (op := .Gt) he hd ry rx rd2 rd1 (.inr rfl) hb fin).2 rfl
  | le => exact (le_ (op := .Lt) hd he rx ry rd1 rd2 (.inl rfl) hb fin).1 rfl
  | ge => exact (le_ (op := .Gt) he hd ry rx rd2 rd1 (.inr rfl) hb fin).2 rfl
  | is =>
    have hb : isD d e = some b := hb
    cases e with
    | none =>
      have e2 := he.non; subst e2; cases ry
      have e3 := RelV.non_iff rx hd
      rw [hb] at e3
      exact is_none_gen (by rw [← Option.some.inj e3]; exact fin)
    | bool c =>
      have e2 := he.bool; subst e2; cases ry
      have e3 := RelV.bool_iff (d := c) rx hd
      rw [hb] at e3
      exact is_bool_rel rx (by rw [← Option.some.inj e3]; exact fin)
    | _ => cases hb
  | isnot =>
    have hb : (isD d e).map (!·) = some b := hb
    obtain ⟨c, hc, e0⟩ := Option.map_eq_some_iff.mp hb
    cases e with
    | none =>
      have e2 := he.non; subst e2; cases ry
      have e3 := RelV.non_iff rx hd
      rw [hc] at e3
      exact isnot_none_gen (by rw [← Option.some.inj e3, e0]; exact fin)
    | bool c =>
      have e2 := he.bool; subst e2; cases ry
      have e3 := RelV.bool_iff (d := c) rx hd
      rw [hc] at e3
      exact isnot_bool_rel rx (by rw [← Option.some.inj e3, e0]; exact fin)
    | _ => cases hc
  | isin =>
    obtain ⟨p1, ys, hy, p2, e1⟩ := in_ hb
    subst e1
    obtain ⟨as, r1⟩ := rd1 p1.1
    rcases hy with rfl | rfl
    · obtain ⟨bs, r2⟩ := rd2 (by simpa only [PyData.plain] using p2.1)
      exact PySem.SeqAt.in_list_data r2 r1 p2.1 p1.1 (by omega) fin
    · obtain ⟨bs, r2⟩ := rd2 (by simpa only [PyData.plain] using p2.1)
      exact PySem.SeqAt.in_tuple_data r2 r1 p2.1 p1.1 (by omega) fin
  | notin =>
    obtain ⟨c, hc, e0⟩ := Option.map_eq_some_iff.mp hb
    obtain ⟨p1, ys, hy, p2, e1⟩ := in_ hc
    subst e1 e0
    obtain ⟨as, r1⟩ := rd1 p1.1
    rcases hy with rfl | rfl
    · obtain ⟨bs, r2⟩ := rd2 (by simpa only [PyData.plain] using p2.1)
      exact PySem.SeqAt.notIn_list_data r2 r1 p2.1 p1.1 (by omega) fin
    · obtain ⟨bs, r2⟩ := rd2 (by simpa only [PyData.plain] using p2.1)
      exact PySem.SeqAt.notIn_tuple_data r2 r1 p2.1 p1.1 (by omega) fin
end
end Fw

/-! Fw: built-in functions over data -/
namespace Fw
open PySem PySem.Spec PyProof.Rows L2
def Rds (K : PySem.W.Frag) (H : Hp) : List D → List V → Prop
  | [], vs => vs = []
  | d :: ds, vs => ∃ v r, vs = v :: r ∧ Rdv K H d v ∧ Rds K H ds r
abbrev rBi (K : PySem.W.Frag) (f : List D → Option Rv) : List V → Hp → VK → Prop := fun vs H Q => ∃ ds v, Rds K H ds vs ∧ f ds = some v ∧ Gives K H v Q
section
variable {X : Cx} {K : PySem.W.Frag} {H : Hp}
theorem Rds.one {d : D} {vs : List V} (h : Rds K H [d] vs) : ∃ v, vs = [v] ∧ Rdv K H d v := by
  simp only [Rds] at h
  obtain ⟨v, r, rfl, h1, rfl⟩ := h
  exact ⟨v, rfl, h1⟩
theorem Rds.two {d e : D} {vs : List V} (h : Rds K H [d, e] vs) : ∃ v w, vs = [v, w] ∧ Rdv K H d v ∧ Rdv K H e w := by
  simp only [Rds] at h
  obtain ⟨v, r, rfl, h1, w, s, rfl, h2, rfl⟩ := h
  exact ⟨v, w, rfl, h1, h2⟩
theorem intsOf_map : ∀ {ds : List D} {ns : List Int}, intsOf ds = some ns → ds = ns.map .int
  | [], _, h => by cases h; rfl
  | d :: ds, ns, h => by
    cases d with
    | int i =>
      simp only [intsOf] at h
      obtain ⟨ms, h1, rfl⟩ := Option.map_eq_some_iff.mp h
      rw [intsOf_map h1]; rfl
    | _ => cases h
theorem boolsOf_map : ∀ {ds : List D} {ns : List Bool}, boolsOf ds = some ns → ds = ns.map .bool
  | [], _, h => by cases h; rfl
  | d :: ds, ns, h => by
    cases d with
    | bool i =>
      simp only [boolsOf] at h
      obtain ⟨ms, h1, rfl⟩ := Option.map_eq_some_iff.mp h
      rw [boolsOf_map h1]; rfl
    | _ => cases h
theorem Fzs.of_bools : ∀ {ns : List Bool} {vs : List V}, Fzs K H (ns.map .bool) vs → vs = ns.map V.bl
  | [], _, h => by simpa [Fzs] using h
  | n :: r, _, h => by
    simp only [List.map_cons, Fzs] at h
    obtain ⟨v, s, rfl, h1, h2⟩ := h
    simp only [Fz] at h1
    rw [h1, Fzs.of_bools h2]; rfl
theorem cb_one {f : Value} {g : D → Option Rv} (h : ∀ (pins : List (Addr × Obj)) (s : Shared) (σ : St) (H : Hp) (x : V) (us : List Value) (Q : VK) (d : D) (v : Rv), Inv X pins σ H s → Vals [x] us → Rdv X.K H d x → g d = some v → Gives X.K H v Q → wpAny (model X.prog X.w) X.A (call f us) (EP X pins σ Q) X.xe s) :
    CallR X f (rBi X.K (one1 g)) := by
  intro pins s σ H vs us Q I r h'
  obtain ⟨ds, v, hd, e, q⟩ := h'
  match ds, e with
  | [d], e =>
    obtain ⟨x, rfl, h1⟩ := hd.one
    exact h pins s σ H x us Q d v I r h1 e q
  | [], e => cases e
  | _ :: _ :: _, e => cases e
theorem cb_len : CallR X (.builtin "len") (rBi X.K (one1 lenD)) := cb_one fun pins s σ H x us Q d v I r h1 e q => by
  cases d with
  | list xs =>
    cases e
    obtain ⟨a, xs, rfl, h2, h3⟩ := h1.list
    refine call_len_seq pins s σ H _ us Q I r ⟨a, xs, rfl, .inl h2, ?_⟩
    rw [← h3.length]; exact q.int
  | tuple xs =>
    cases e
    obtain ⟨a, xs, rfl, h2, h3⟩ := h1.tuple
    refine call_len_seq pins s σ H _ us Q I r ⟨a, xs, rfl, .inr h2, ?_⟩
    rw [← h3.length]; exact q.int
  | str y =>
    simp only [lenD] at e
    split at e
    · rename_i hz
      cases e
      have := h1.str
      subst this
      exact call_len_str pins s σ H _ us Q I r ⟨_, rfl, hz, q.int⟩
    · cases e
  | _ => cases e
theorem cb_abs : CallR X (.builtin "abs") (rBi X.K (one1 absD)) := cb_one fun pins s σ H x us Q d v I r h1 e q => by
  cases d with
  | int i =>
    cases e
    have := h1.int
    subst this
    exact call_abs pins s σ H _ us Q I r ⟨_, rfl, q.int⟩
  | _ => cases e
theorem cb_int : CallR X (.type "int") (rBi X.K (one1 intD)) := cb_one fun pins s σ H x us Q d v I r h1 e q => by
  cases d with
  | int i =>
    cases e
    have := h1.int
    subst this
    exact call_int1 pins s σ H _ us Q I r (.inl ⟨_, rfl, q.int⟩)
  | bool b =>
    cases e
    have := h1.bool
    subst this
    exact call_int1 pins s σ H _ us Q I r (.inr ⟨_, rfl, q.int⟩)
  | _ => cases e
theorem seqOf_cases {d : D} {xs : List D} (h : seqOf d = some xs) : d = .list xs ∨ d = .tuple xs := by
  cases d <;> simp [seqOf] at h
  · exact .inl (by rw [h])
  · exact .inr (by rw [h])
theorem Rdv.seq {d : D} {xs : List D} {v : V} (h : seqOf d = some xs) (g : Rdv K H d v) : ∃ a ys, v = .ref a ∧ (SqL K H a ys ∨ SqT K H a ys) ∧ Fzs K H xs ys := by
  rcases seqOf_cases h with rfl | rfl
  · obtain ⟨a, ys, e, h1, h2⟩ := g.list; exact ⟨a, ys, e, .inl h1, h2⟩
  · obtain ⟨a, ys, e, h1, h2⟩ := g.tuple; exact ⟨a, ys, e, .inr h1, h2⟩
theorem cb_list : CallR X (.type "list") (rBi X.K (one1 lstD)) := cb_one fun pins s σ H x us Q d v I r h1 e q => by
  obtain ⟨xs, e1, rfl⟩ := Option.map_eq_some_iff.mp e
  obtain ⟨a, ys, rfl, h2, h3⟩ := h1.seq e1
  exact call_list_of pins s σ H _ us Q I r ⟨a, ys, rfl, h2, fun p hp => q.lst h3 hp⟩
theorem cb_tuple : CallR X (.type "tuple") (rBi X.K (one1 tupD)) := cb_one fun pins s σ H x us Q d v I r h1 e q => by
  obtain ⟨xs, e1, rfl⟩ := Option.map_eq_some_iff.mp e
  obtain ⟨a, ys, rfl, h2, h3⟩ := h1.seq e1
  refine call_tuple_of pins s σ H _ us Q I r ⟨a, ys, rfl, ?_⟩
  rcases h2 with h2 | h2
  · exact .inl ⟨h2, fun p hp => q.tup h3 hp⟩
  · exact .inr ⟨h2, q.self (by simp only [Fz]; exact ⟨a, ys, rfl, h2, h3⟩)⟩
theorem sum_tup_raw {prog : Program} {w : World} {A : Around} {E : Value → Shared → Prop} {s : Shared} {l : Addr} {its : List Value} {ns : List Int} {Q : Value → Shared → Prop} (hh : A.handled = none) (hl : s.heap.IsTuple l its.toArray) (hi : IntsAre its ns)
    (h : ∀ h' tk t', (∀ b o, s.heap.get? b = some o → h'.get? b = some o) → Q (.int ns.sum t') { s with heap := h', toks := tk }) : wpAny (model prog w) A (call (.builtin "sum") [.ref l]) Q E s := by
  obtain ⟨xs, e⟩ := hi.allInts.items
  have hn : numsOf (intItems xs).toList = ns := by rw [← e]; exact hi.numsOf
  rw [nums_intItems] at hn
  rw [e] at hl
  refine PySem.W.ktm_sumG hh hl fun h' tk t' hk => ?_
  have := h h' tk t' hk
  rw [preSum_eq, List.take_of_length_le (by simp), hn]; exact this
theorem cb_sum (hc : X.calm = true) : CallR X (.builtin "sum") (rBi X.K (one1 sumD)) := cb_one fun pins s σ H x us Q d v I r h1 e q => by
  obtain ⟨xs, e1, e2⟩ := Option.bind_eq_some_iff.mp e
  obtain ⟨ns, e3, rfl⟩ := Option.map_eq_some_iff.mp e2
  have e4 := intsOf_map e3
  subst e4
  obtain ⟨a, ys, rfl, h2, h3⟩ := h1.seq e1
  have e5 := h3.of_ints
  subst e5
  rcases h2 with h2 | h2
  · exact cr_sum hc pins s σ H _ us Q I r ⟨a, ns, rfl, h2, q.int⟩
  · obtain ⟨its, rv, hl, _⟩ := I.tuple h2
    rw [Vals.ref1 r]
    exact sum_tup_raw (I.ok.hd hc) hl rv.ints fun h' tk t' hk => ⟨.int _, H, I.kept hk, ⟨_, rfl⟩, q.int⟩
theorem cb_all (hc : X.calm = true) : CallR X (.builtin "all") (rBi X.K (one1 allD)) := cb_one fun pins s σ H x us Q d v I r h1 e q => by
  cases d with
  | list xs =>
    obtain ⟨bs, e1, rfl⟩ := Option.map_eq_some_iff.mp e
    have e4 := boolsOf_map e1
    subst e4
    obtain ⟨a, ys, rfl, h2, h3⟩ := h1.list
    have e5 := h3.of_bools
    subst e5
    exact cr_all hc pins s σ H _ us Q I r ⟨a, bs, rfl, h2, q.bool⟩
  | _ => cases e
theorem cb_any (hc : X.calm = true) : CallR X (.builtin "any") (rBi X.K (one1 anyD)) := cb_one fun pins s σ H x us Q d v I r h1 e q => by
  cases d with
  | list xs =>
    obtain ⟨bs, e1, rfl⟩ := Option.map_eq_some_iff.mp e
    have e4 := boolsOf_map e1
    subst e4
    obtain ⟨a, ys, rfl, h2, h3⟩ := h1.list
    have e5 := h3.of_bools
    subst e5
    exact cr_any hc pins s σ H _ us Q I r ⟨a, bs, rfl, h2, q.bool⟩
  | _ => cases e
theorem cb_gcd : CallR X (.builtin "math.gcd") (rBi X.K gcdD) := by
  intro pins s σ H vs us Q I r h
  obtain ⟨ds, v, hd, e, q⟩ := h
  unfold gcdD at e
  split at e
  · cases e
    obtain ⟨x, y, rfl, h1, h2⟩ := hd.two
    have := h1.int
    subst this
    have := h2.int
    subst this
    exact cr_gcd pins s σ H _ us Q I r ⟨_, _, rfl, q.int⟩
  · cases e
/-- the data at a place -/
theorem Fzs.at {ds : List D} {vs : List V} {i : Nat} {v : V} (h : Fzs K H ds vs) (e : vs[i]? = some v) : ∃ d, ds[i]? = some d ∧ Fz K H d v := by
  have hl := h.length
  obtain ⟨hi, _⟩ := List.getElem?_eq_some_iff.mp e
  obtain ⟨w, e1, e2⟩ := h.get (i := i) (List.getElem?_eq_getElem (by omega : i < ds.length))
  rw [e] at e1; cases e1
  exact ⟨_, List.getElem?_eq_getElem (by omega), e2⟩
theorem alike_all {xs : List D} (h : (alikeL xs && !noneAny xs) = true) : PySem.W.AlikeAll xs ∧ (PyData.plainAll xs = true ∧ PyData.depthAll xs ≤ 40) ∧ PySem.W.AllAlike xs := by
  rw [Bool.and_eq_true] at h
  obtain ⟨h1, h2⟩ := h
  unfold alikeL at h1
  rw [List.all_eq_true] at h1
  have a : ∀ x ∈ xs, ∀ y ∈ xs, PySem.W.alike x y = true := fun x hx y hy => by
    have := h1 x hx
    rw [Bool.and_eq_true, List.all_eq_true] at this
    exact this.2 y hy
  refine ⟨⟨a, fun x hx z => ?_⟩, okN_plains xs 40 fun x hx => ?_, a⟩
  · subst z
    simp only [noneAny, Bool.not_eq_true', List.any_eq_false] at h2
    exact h2 _ hx rfl
  · have := h1 x hx
    rw [Bool.and_eq_true] at this
    exact this.1
/-- min, max of a list or a tuple -/
theorem best_list (hc : X.calm = true) (hu : X.A.units + 64 < cLine) (mx : Bool) : CallR X (.builtin (if mx then "max" else "min")) (rBi X.K (one1 (best1 mx))) := cb_one fun pins s σ H x us Q d v I r h1 e q => by
  obtain ⟨xs, e1, e2⟩ := Option.bind_eq_some_iff.mp e
  obtain ⟨b, e3, rfl⟩ := Option.map_eq_some_iff.mp e2
  cases xs with
  | nil => cases e3
  | cons y ys =>
    simp only [bestL] at e3
    split at e3
    · rename_i hz
      obtain ⟨al, pl, _⟩ := alike_all hz
      obtain ⟨a, zs, rfl, h2, h3⟩ := h1.seq e1
      have hres : b = if mx = true then PySem.W.maxD y ys else PySem.W.minD y ys := by
        cases mx <;> exact (Option.some.inj e3).symm
      have fin : ∀ {its : List Value} {as : List Addr} {w : D} (i : Nat) (v : Value) (h' : Heap) (tk : Nat) (bs : List Addr), Vals zs its → b = w → its.toArray[i]? = some v → Reads h' v w bs → (∀ b o, s.heap.get? b = some o → h'.get? b = some o) →
          EP X pins σ Q v { s with heap := h', toks := tk } := fun {its as w} i v h' tk bs rv hw e hr hk => by
        rw [List.getElem?_toArray] at e
        have hlen := rv.length
        obtain ⟨hi, _⟩ := List.getElem?_eq_some_iff.mp e
        obtain ⟨u, e5, ru⟩ := rv.get (List.getElem?_eq_getElem (by omega : i < zs.length))
        rw [e] at e5; cases e5
        obtain ⟨d', e6, f6⟩ := h3.at (List.getElem?_eq_getElem (by omega : i < zs.length))
        have hp : d'.plain = true := (PySem.W.plain_mem pl.1 (List.mem_of_getElem? e6))
        obtain ⟨as', r6⟩ := Dp.reads I d' _ v (Fz.dp _ _ hp f6) ru
        have := PySem.SeqAt.plain_unique d' w v as' bs hp (Reads.keeps hk r6) hr
        subst this
        subst hw
        exact ⟨_, H, I.kept hk, ru, q.self f6⟩
      rcases h2 with h2 | h2
      · obtain ⟨its, rv, hl, _⟩ := I.list h2
        obtain ⟨as, hr⟩ := Dp.readsAll I (y :: ys) zs its (Fzs.dps _ _ pl.1 h3) rv
        rw [Vals.ref1 r]
        cases mx with
        | true => exact PySem.W.max_list_data (I.ok.hd hc) hl.isList (show ReadsAll s.heap its.toArray.toList _ as from hr) al (by omega) fun i v h' tk bs e hr hk => fin (as := as) i v h' tk bs rv hres e hr hk
        | false => exact PySem.W.min_list_data (I.ok.hd hc) hl.isList (show ReadsAll s.heap its.toArray.toList _ as from hr) al (by omega) fun i v h' tk bs e hr hk => fin (as := as) i v h' tk bs rv hres e hr hk
      · obtain ⟨its, rv, hl, _⟩ := I.tuple h2
        obtain ⟨as, hr⟩ := Dp.readsAll I (y :: ys) zs its (Fzs.dps _ _ pl.1 h3) rv
        rw [Vals.ref1 r]
        cases mx with
        | true => exact PySem.W.max_tuple_data (I.ok.hd hc) hl (show ReadsAll s.heap its.toArray.toList _ as from hr) al (by omega) fun i v h' tk bs e hr hk => fin (as := as) i v h' tk bs rv hres e hr hk
        | false => exact PySem.W.min_tuple_data (I.ok.hd hc) hl (show ReadsAll s.heap its.toArray.toList _ as from hr) al (by omega) fun i v h' tk bs e hr hk => fin (as := as) i v h' tk bs rv hres e hr hk
    · cases e3
end
section
variable {prog : Program} {w : World} {A : Around} {E : Value → Shared → Prop} {s : Shared}
theorem args_min2 (a b : Value) : argsOk "min" ⟨[a, b], []⟩ := by unfold argsOk; kernel_rfl
theorem call_min_2H {a b : Value} {Q : Value → Shared → Prop}
    (h : wpAny (model prog w) A.in1 (pyIter (.ref s.heap.objs.size)) (fun it s₂ => ∃ I fp wr G n P St H bt, it = .ref I ∧ WalksS prog w A.in1 I fp wr G n P St ∧ St 0 s₂ ∧ (∀ b ∈ fp, b < s₂.heap.objs.size) ∧ 0 < n ∧
      (∀ b o, H.get? b = some o → b ∉ wr) ∧ (∀ b o, H.get? b = some o → s₂.heap.get? b = some o) ∧ PySem.CmpIn prog w A.in1 .Lt H P bt ∧ ∀ v s', P (argBest bt (n - 1)) v → Moved wr G s₂ s' → Q v s') E { s with heap := s.heap.push { cls := .type "tuple", data := .seq #[a, b] } }) :
    wpAny (model prog w) A (call (.builtin "min") [a, b]) Q E s := by
  have hname : (toString "min" ++ toString ".loop" : String) = "min.loop" := by decide
  refine call_function_tree PySem.F.kind_min PySem.F.plain_min PySem.F.entry_min (args_min2 _ _) ?_
  show wpAny _ A.in1 (Builtin.Builtins.bindParams "min" ["key", "default"] 0 ⟨[], []⟩ >>= _) _ _ s
  refine wpAny_bind (wpAny_of_eq (show Builtin.Builtins.bindParams "min" ["key", "default"] 0 ⟨[], []⟩ = pure [none, none] from rfl) ?_)
  show wpAny _ A.in1 (newTuple [a, b] >>= _) _ _ s
  refine wpAny_bind (wpAny_newObj_type ?_)
  refine wpAny_bind (wpAny_mono h (fun it s₂ h₂ => ?_) fun _ _ e => e)
  obtain ⟨I, fp, wr, G, n, P, St, H, bt, rfl, W, hst, hfp, hn, hw, hkeep, hcmp, hQ⟩ := h₂
  refine wpAny_bind (wpAny_newObj_type ?_)
  have hSf : s₂.heap.objs.size ∉ fp := fun hm => Nat.lt_irrefl _ (hfp _ hm)
  rw [hname]
  refine wpAny_pure ⟨plainId_quiet PySem.F.plain_min_loop _, codeAny_min_loop_firstH W H hw bt hcmp s₂.heap.objs.size hSf (fresh_in hkeep) _ hn (fun b o e => Heap.get?_push_of_some _ (hkeep b o e)) (W.frame 0 s₂ _ s₂.toks hst (Nat.le_refl _) fun b _ o e => Heap.get?_push_of_some _ e) (Heap.get?_push_size _ rfl) fun v s' hP hm => ?_⟩
  exact hQ v s' hP (Moved.drop_new (tk := s₂.toks) hm (Nat.le_refl _))
theorem min_args2_data {a b : Value} {x : PyData} {xs : List PyData} {as : List Addr} {Q : Value → Shared → Prop} (hh : A.handled = none) (hr : ReadsAll s.heap [a, b] (x :: xs) as) (ha : PySem.W.AlikeAll (x :: xs)) (hu : A.units + 1 + PyData.depthAll (x :: xs) < cLine)
    (h : ∀ (i : Nat) v h' tk bs, ([a, b] : List Value)[i]? = some v → Reads h' v (PySem.W.minD x xs) bs → (∀ b o, s.heap.get? b = some o → h'.get? b = some o) → Q v { s with heap := h', toks := tk }) :
    wpAny (model prog w) A (call (.builtin "min") [a, b]) Q E s := by
  have hn : (#[a, b] : Array Value).size = xs.length + 1 := PySem.W.readsAll_len (vs := #[a, b]) hr
  have kp : ∀ q o, s.heap.get? q = some o → (s.heap.push { cls := .type "tuple", data := .seq #[a, b] }).get? q = some o := fun q o e => Heap.get?_push_of_some _ e
  have hr' : ReadsAll (s.heap.push { cls := .type "tuple", data := .seq #[a, b] }) (#[a, b] : Array Value).toList (x :: xs) as := PyProof.Rows.ReadsAll.keeps kp hr
  refine call_min_2H (PySem.W.iter_tupleW (A := A.in1) (s := { s with heap := s.heap.push { cls := .type "tuple", data := .seq #[a, b] } }) hh ⟨_, Heap.get?_push_size _ rfl, rfl, _, rfl⟩ fun s₂ e W st hfp hw hk => ?_)
  refine ⟨_, _, _, _, _, _, _, (s.heap.push { cls := .type "tuple", data := .seq #[a, b] }), _, rfl, W, st, hfp, by omega, hw, hk, PySem.W.cmpIn_lt (A := A.in1) (s := { s with heap := s.heap.push { cls := .type "tuple", data := .seq #[a, b] } }) hr' ha (by show A.units + 1 + _ < _; exact hu), fun v s' hP m => ?_⟩
  obtain ⟨h', tk, rfl, hk'⟩ := PySem.W.moved_old e rfl m
  obtain ⟨bs, r, _, _, _⟩ := PySem.W.readsAll_atA hr' _ v hP
  have e1 : (#[a, b] : Array Value).size - 1 = xs.length := by omega
  have e2 := (PySem.W.argBest_fold PySem.W.dataLt PyData.none x xs xs.length (Nat.le_refl _)).2
  rw [List.take_length] at e2
  rw [e1] at r
  exact h _ v h' tk bs (by rw [← List.getElem?_toArray]; exact hP) (PyProof.Rows.Reads.keeps hk' (by unfold PySem.W.minD; rw [← e2]; exact r)) fun b o q => hk' b o (kp b o q)
theorem args_min4 (a b c d : Value) : argsOk "min" ⟨[a, b, c, d], []⟩ := by unfold argsOk; kernel_rfl
theorem call_min_4H {a b c d : Value} {Q : Value → Shared → Prop}
    (h : wpAny (model prog w) A.in1 (pyIter (.ref s.heap.objs.size)) (fun it s₂ => ∃ I fp wr G n P St H bt, it = .ref I ∧ WalksS prog w A.in1 I fp wr G n P St ∧ St 0 s₂ ∧ (∀ b ∈ fp, b < s₂.heap.objs.size) ∧ 0 < n ∧
      (∀ b o, H.get? b = some o → b ∉ wr) ∧ (∀ b o, H.get? b = some o → s₂.heap.get? b = some o) ∧ PySem.CmpIn prog w A.in1 .Lt H P bt ∧ ∀ v s', P (argBest bt (n - 1)) v → Moved wr G s₂ s' → Q v s') E { s with heap := s.heap.push { cls := .type "tuple", data := .seq #[a, b, c, d] } }) :
    wpAny (model prog w) A (call (.builtin "min") [a, b, c, d]) Q E s := by
  have hname : (toString "min" ++ toString ".loop" : String) = "min.loop" := by decide
  refine call_function_tree PySem.F.kind_min PySem.F.plain_min PySem.F.entry_min (args_min4 _ _ _ _) ?_
  show wpAny _ A.in1 (Builtin.Builtins.bindParams "min" ["key", "default"] 0 ⟨[], []⟩ >>= _) _ _ s
  refine wpAny_bind (wpAny_of_eq (show Builtin.Builtins.bindParams "min" ["key", "default"] 0 ⟨[], []⟩ = pure [none, none] from rfl) ?_)
  show wpAny _ A.in1 (newTuple [a, b, c, d] >>= _) _ _ s
  refine wpAny_bind (wpAny_newObj_type ?_)
  refine wpAny_bind (wpAny_mono h (fun it s₂ h₂ => ?_) fun _ _ e => e)
  obtain ⟨I, fp, wr, G, n, P, St, H, bt, rfl, W, hst, hfp, hn, hw, hkeep, hcmp, hQ⟩ := h₂
  refine wpAny_bind (wpAny_newObj_type ?_)
  have hSf : s₂.heap.objs.size ∉ fp := fun hm => Nat.lt_irrefl _ (hfp _ hm)
  rw [hname]
  refine wpAny_pure ⟨plainId_quiet PySem.F.plain_min_loop _, codeAny_min_loop_firstH W H hw bt hcmp s₂.heap.objs.size hSf (fresh_in hkeep) _ hn (fun b o e => Heap.get?_push_of_some _ (hkeep b o e)) (W.frame 0 s₂ _ s₂.toks hst (Nat.le_refl _) fun b _ o e => Heap.get?_push_of_some _ e) (Heap.get?_push_size _ rfl) fun v s' hP hm => ?_⟩
  exact hQ v s' hP (Moved.drop_new (tk := s₂.toks) hm (Nat.le_refl _))
theorem min_args4_data {a b c d : Value} {x : PyData} {xs : List PyData} {as : List Addr} {Q : Value → Shared → Prop} (hh : A.handled = none) (hr : ReadsAll s.heap [a, b, c, d] (x :: xs) as) (ha : PySem.W.AlikeAll (x :: xs)) (hu : A.units + 1 + PyData.depthAll (x :: xs) < cLine)
    (h : ∀ (i : Nat) v h' tk bs, ([a, b, c, d] : List Value)[i]? = some v → Reads h' v (PySem.W.minD x xs) bs → (∀ b o, s.heap.get? b = some o → h'.get? b = some o) → Q v { s with heap := h', toks := tk }) :
    wpAny (model prog w) A (call (.builtin "min") [a, b, c, d]) Q E s := by
  have hn : (#[a, b, c, d] : Array Value).size = xs.length + 1 := PySem.W.readsAll_len (vs := #[a, b, c, d]) hr
  have kp : ∀ q o, s.heap.get? q = some o → (s.heap.push { cls := .type "tuple", data := .seq #[a, b, c, d] }).get? q = some o := fun q o e => Heap.get?_push_of_some _ e
  have hr' : ReadsAll (s.heap.push { cls := .type "tuple", data := .seq #[a, b, c, d] }) (#[a, b, c, d] : Array Value).toList (x :: xs) as := PyProof.Rows.ReadsAll.keeps kp hr
  refine call_min_4H (PySem.W.iter_tupleW (A := A.in1) (s := { s with heap := s.heap.push { cls := .type "tuple", data := .seq #[a, b, c, d] } }) hh ⟨_, Heap.get?_push_size _ rfl, rfl, _, rfl⟩ fun s₂ e W st hfp hw hk => ?_)
  refine ⟨_, _, _, _, _, _, _, (s.heap.push { cls := .type "tuple", data := .seq #[a, b, c, d] }), _, rfl, W, st, hfp, by omega, hw, hk, PySem.W.cmpIn_lt (A := A.in1) (s := { s with heap := s.heap.push { cls := .type "tuple", data := .seq #[a, b, c, d] } }) hr' ha (by show A.units + 1 + _ < _; exact hu), fun v s' hP m => ?_⟩
  obtain ⟨h', tk, rfl, hk'⟩ := PySem.W.moved_old e rfl m
  obtain ⟨bs, r, _, _, _⟩ := PySem.W.readsAll_atA hr' _ v hP
  have e1 : (#[a, b, c, d] : Array Value).size - 1 = xs.length := by omega
  have e2 := (PySem.W.argBest_fold PySem.W.dataLt PyData.none x xs xs.length (Nat.le_refl _)).2
  rw [List.take_length] at e2
  rw [e1] at r
  exact h _ v h' tk bs (by rw [← List.getElem?_toArray]; exact hP) (PyProof.Rows.Reads.keeps hk' (by unfold PySem.W.minD; rw [← e2]; exact r)) fun b o q => hk' b o (kp b o q)
theorem args_max2 (a b : Value) : argsOk "max" ⟨[a, b], []⟩ := by unfold argsOk; kernel_rfl
theorem call_max_2H {a b : Value} {Q : Value → Shared → Prop}
    (h : wpAny (model prog w) A.in1 (pyIter (.ref s.heap.objs.size)) (fun it s₂ => ∃ I fp wr G n P St H bt, it = .ref I ∧ WalksS prog w A.in1 I fp wr G n P St ∧ St 0 s₂ ∧ (∀ b ∈ fp, b < s₂.heap.objs.size) ∧ 0 < n ∧
      (∀ b o, H.get? b = some o → b ∉ wr) ∧ (∀ b o, H.get? b = some o → s₂.heap.get? b = some o) ∧ PySem.CmpIn prog w A.in1 .Gt H P bt ∧ ∀ v s', P (argBest bt (n - 1)) v → Moved wr G s₂ s' → Q v s') E { s with heap := s.heap.push { cls := .type "tuple", data := .seq #[a, b] } }) :
    wpAny (model prog w) A (call (.builtin "max") [a, b]) Q E s := by
  have hname : (toString "max" ++ toString ".loop" : String) = "max.loop" := by decide
  refine call_function_tree PySem.F.kind_max PySem.F.plain_max PySem.F.entry_max (args_max2 _ _) ?_
  show wpAny _ A.in1 (Builtin.Builtins.bindParams "max" ["key", "default"] 0 ⟨[], []⟩ >>= _) _ _ s
  refine wpAny_bind (wpAny_of_eq (show Builtin.Builtins.bindParams "max" ["key", "default"] 0 ⟨[], []⟩ = pure [none, none] from rfl) ?_)
  show wpAny _ A.in1 (newTuple [a, b] >>= _) _ _ s
  refine wpAny_bind (wpAny_newObj_type ?_)
  refine wpAny_bind (wpAny_mono h (fun it s₂ h₂ => ?_) fun _ _ e => e)
  obtain ⟨I, fp, wr, G, n, P, St, H, bt, rfl, W, hst, hfp, hn, hw, hkeep, hcmp, hQ⟩ := h₂
  refine wpAny_bind (wpAny_newObj_type ?_)
  have hSf : s₂.heap.objs.size ∉ fp := fun hm => Nat.lt_irrefl _ (hfp _ hm)
  rw [hname]
  refine wpAny_pure ⟨plainId_quiet PySem.F.plain_max_loop _, codeAny_max_loop_firstH W H hw bt hcmp s₂.heap.objs.size hSf (fresh_in hkeep) _ hn (fun b o e => Heap.get?_push_of_some _ (hkeep b o e)) (W.frame 0 s₂ _ s₂.toks hst (Nat.le_refl _) fun b _ o e => Heap.get?_push_of_some _ e) (Heap.get?_push_size _ rfl) fun v s' hP hm => ?_⟩
  exact hQ v s' hP (Moved.drop_new (tk := s₂.toks) hm (Nat.le_refl _))
theorem max_args2_data {a b : Value} {x : PyData} {xs : List PyData} {as : List Addr} {Q : Value → Shared → Prop} (hh : A.handled = none) (hr : ReadsAll s.heap [a, b] (x :: xs) as) (ha : PySem.W.AlikeAll (x :: xs)) (hu : A.units + 1 + PyData.depthAll (x :: xs) < cLine)
    (h : ∀ (i : Nat) v h' tk bs, ([a, b] : List Value)[i]? = some v → Reads h' v (PySem.W.maxD x xs) bs → (∀ b o, s.heap.get? b = some o → h'.get? b = some o) → Q v { s with heap := h', toks := tk }) :
    wpAny (model prog w) A (call (.builtin "max") [a, b]) Q E s := by
  have hn : (#[a, b] : Array Value).size = xs.length + 1 := PySem.W.readsAll_len (vs := #[a, b]) hr
  have kp : ∀ q o, s.heap.get? q = some o → (s.heap.push { cls := .type "tuple", data := .seq #[a, b] }).get? q = some o := fun q o e => Heap.get?_push_of_some _ e
  have hr' : ReadsAll (s.heap.push { cls := .type "tuple", data := .seq #[a, b] }) (#[a, b] : Array Value).toList (x :: xs) as := PyProof.Rows.ReadsAll.keeps kp hr
  refine call_max_2H (PySem.W.iter_tupleW (A := A.in1) (s := { s with heap := s.heap.push { cls := .type "tuple", data := .seq #[a, b] } }) hh ⟨_, Heap.get?_push_size _ rfl, rfl, _, rfl⟩ fun s₂ e W st hfp hw hk => ?_)
  refine ⟨_, _, _, _, _, _, _, (s.heap.push { cls := .type "tuple", data := .seq #[a, b] }), _, rfl, W, st, hfp, by omega, hw, hk, PySem.W.cmpIn_gt (A := A.in1) (s := { s with heap := s.heap.push { cls := .type "tuple", data := .seq #[a, b] } }) hr' ha (by show A.units + 1 + _ < _; exact hu), fun v s' hP m => ?_⟩
  obtain ⟨h', tk, rfl, hk'⟩ := PySem.W.moved_old e rfl m
  obtain ⟨bs, r, _, _, _⟩ := PySem.W.readsAll_atA hr' _ v hP
  have e1 : (#[a, b] : Array Value).size - 1 = xs.length := by omega
  have e2 := (PySem.W.argBest_fold (fun a b => PySem.W.dataLt b a) PyData.none x xs xs.length (Nat.le_refl _)).2
  rw [List.take_length] at e2
  rw [e1] at r
  exact h _ v h' tk bs (by rw [← List.getElem?_toArray]; exact hP) (PyProof.Rows.Reads.keeps hk' (by unfold PySem.W.maxD; rw [← e2]; exact r)) fun b o q => hk' b o (kp b o q)
theorem args_max4 (a b c d : Value) : argsOk "max" ⟨[a, b, c, d], []⟩ := by unfold argsOk; kernel_rfl
theorem call_max_4H {a b c d : Value} {Q : Value → Shared → Prop}
    (h : wpAny (model prog w) A.in1 (pyIter (.ref s.heap.objs.size)) (fun it s₂ => ∃ I fp wr G n P St H bt, it = .ref I ∧ WalksS prog w A.in1 I fp wr G n P St ∧ St 0 s₂ ∧ (∀ b ∈ fp, b < s₂.heap.objs.size) ∧ 0 < n ∧
      (∀ b o, H.get? b = some o → b ∉ wr) ∧ (∀ b o, H.get? b = some o → s₂.heap.get? b = some o) ∧ PySem.CmpIn prog w A.in1 .Gt H P bt ∧ ∀ v s', P (argBest bt (n - 1)) v → Moved wr G s₂ s' → Q v s') E { s with heap := s.heap.push { cls := .type "tuple", data := .seq #[a, b, c, d] } }) :
    wpAny (model prog w) A (call (.builtin "max") [a, b, c, d]) Q E s := by
  have hname : (toString "max" ++ toString ".loop" : String) = "max.loop" := by decide
  refine call_function_tree PySem.F.kind_max PySem.F.plain_max PySem.F.entry_max (args_max4 _ _ _ _) ?_
  show wpAny _ A.in1 (Builtin.Builtins.bindParams "max" ["key", "default"] 0 ⟨[], []⟩ >>= _) _ _ s
  refine wpAny_bind (wpAny_of_eq (show Builtin.Builtins.bindParams "max" ["key", "default"] 0 ⟨[], []⟩ = pure [none, none] from rfl) ?_)
  show wpAny _ A.in1 (newTuple [a, b, c, d] >>= _) _ _ s
  refine wpAny_bind (wpAny_newObj_type ?_)
  refine wpAny_bind (wpAny_mono h (fun it s₂ h₂ => ?_) fun _ _ e => e)
  obtain ⟨I, fp, wr, G, n, P, St, H, bt, rfl, W, hst, hfp, hn, hw, hkeep, hcmp, hQ⟩ := h₂
  refine wpAny_bind (wpAny_newObj_type ?_)
  have hSf : s₂.heap.objs.size ∉ fp := fun hm => Nat.lt_irrefl _ (hfp _ hm)
  rw [hname]
  refine wpAny_pure ⟨plainId_quiet PySem.F.plain_max_loop _, codeAny_max_loop_firstH W H hw bt hcmp s₂.heap.objs.size hSf (fresh_in hkeep) _ hn (fun b o e => Heap.get?_push_of_some _ (hkeep b o e)) (W.frame 0 s₂ _ s₂.toks hst (Nat.le_refl _) fun b _ o e => Heap.get?_push_of_some _ e) (Heap.get?_push_size _ rfl) fun v s' hP hm => ?_⟩
  exact hQ v s' hP (Moved.drop_new (tk := s₂.toks) hm (Nat.le_refl _))
theorem max_args4_data {a b c d : Value} {x : PyData} {xs : List PyData} {as : List Addr} {Q : Value → Shared → Prop} (hh : A.handled = none) (hr : ReadsAll s.heap [a, b, c, d] (x :: xs) as) (ha : PySem.W.AlikeAll (x :: xs)) (hu : A.units + 1 + PyData.depthAll (x :: xs) < cLine)
    (h : ∀ (i : Nat) v h' tk bs, ([a, b, c, d] : List Value)[i]? = some v → Reads h' v (PySem.W.maxD x xs) bs → (∀ b o, s.heap.get? b = some o → h'.get? b = some o) → Q v { s with heap := h', toks := tk }) :
    wpAny (model prog w) A (call (.builtin "max") [a, b, c, d]) Q E s := by
  have hn : (#[a, b, c, d] : Array Value).size = xs.length + 1 := PySem.W.readsAll_len (vs := #[a, b, c, d]) hr
  have kp : ∀ q o, s.heap.get? q = some o → (s.heap.push { cls := .type "tuple", data := .seq #[a, b, c, d] }).get? q = some o := fun q o e => Heap.get?_push_of_some _ e
  have hr' : ReadsAll (s.heap.push { cls := .type "tuple", data := .seq #[a, b, c, d] }) (#[a, b, c, d] : Array Value).toList (x :: xs) as := PyProof.Rows.ReadsAll.keeps kp hr
  refine call_max_4H (PySem.W.iter_tupleW (A := A.in1) (s := { s with heap := s.heap.push { cls := .type "tuple", data := .seq #[a, b, c, d] } }) hh ⟨_, Heap.get?_push_size _ rfl, rfl, _, rfl⟩ fun s₂ e W st hfp hw hk => ?_)
  refine ⟨_, _, _, _, _, _, _, (s.heap.push { cls := .type "tuple", data := .seq #[a, b, c, d] }), _, rfl, W, st, hfp, by omega, hw, hk, PySem.W.cmpIn_gt (A := A.in1) (s := { s with heap := s.heap.push { cls := .type "tuple", data := .seq #[a, b, c, d] } }) hr' ha (by show A.units + 1 + _ < _; exact hu), fun v s' hP m => ?_⟩
  obtain ⟨h', tk, rfl, hk'⟩ := PySem.W.moved_old e rfl m
  obtain ⟨bs, r, _, _, _⟩ := PySem.W.readsAll_atA hr' _ v hP
  have e1 : (#[a, b, c, d] : Array Value).size - 1 = xs.length := by omega
  have e2 := (PySem.W.argBest_fold (fun a b => PySem.W.dataLt b a) PyData.none x xs xs.length (Nat.le_refl _)).2
  rw [List.take_length] at e2
  rw [e1] at r
  exact h _ v h' tk bs (by rw [← List.getElem?_toArray]; exact hP) (PyProof.Rows.Reads.keeps hk' (by unfold PySem.W.maxD; rw [← e2]; exact r)) fun b o q => hk' b o (kp b o q)
end
section
variable {X : Cx}
theorem best_fin {pins : List (Addr × Obj)} {s : Shared} {σ : St} {H : Hp} {Q : VK} {zs : List V} {xs : List D} {its : List Value} {w : D} (I : Inv X pins σ H s) (h3 : Fzs X.K H xs zs) (pl : PyData.plainAll xs = true) (rv : Vals zs its) (q : Gives X.K H (.val w) Q) {i : Nat} {v : Value} {h' : Heap} {tk : Nat} {bs : List Addr}
    (e : its[i]? = some v) (hr : Reads h' v w bs) (hk : ∀ b o, s.heap.get? b = some o → h'.get? b = some o) : EP X pins σ Q v { s with heap := h', toks := tk } := by
  have hlen := rv.length
  obtain ⟨hi, _⟩ := List.getElem?_eq_some_iff.mp e
  obtain ⟨u, e5, ru⟩ := rv.get (List.getElem?_eq_getElem (by omega : i < zs.length))
  rw [e] at e5; cases e5
  obtain ⟨d', e6, f6⟩ := h3.at (List.getElem?_eq_getElem (by omega : i < zs.length))
  have hp : d'.plain = true := (PySem.W.plain_mem pl (List.mem_of_getElem? e6))
  obtain ⟨as', r6⟩ := Dp.reads I d' _ v (Fz.dp _ _ hp f6) ru
  have := PySem.SeqAt.plain_unique d' w v as' bs hp (Reads.keeps hk r6) hr
  subst this
  exact ⟨_, H, I.kept hk, ru, q.self f6⟩
/-- what reads as a container whose own items are not written: no containers of one's own within -/
theorem Rds.fzs_scal {K : PySem.W.Frag} {H : Hp} : ∀ {ds : List D} {vs : List V}, (∀ d ∈ ds, ∀ v, Rdv K H d v → Fz K H d v) → Rds K H ds vs → Fzs K H ds vs
  | [], _, _, h => by simp only [Rds] at h; subst h; exact .nil
  | d :: ds, _, c, h => by
    simp only [Rds] at h
    obtain ⟨v, r, rfl, h1, h2⟩ := h
    exact .cons (c d List.mem_cons_self v h1) (Rds.fzs_scal (fun e he => c e (List.mem_cons_of_mem _ he)) h2)
theorem Rdv.tupOnly {K : PySem.W.Frag} {H : Hp} {d : D} {v : V} (c : tupOnly d = true) (h : Rdv K H d v) : Fz K H d v := by
  rcases h with h | h
  · exact h
  · cases d <;> first | exact h.elim | cases c
theorem cb_best (hc : X.calm = true) (hu : X.A.units + 64 < cLine) (mx : Bool) : CallR X (.builtin (if mx then "max" else "min")) (rBi X.K (bestD mx)) := by
  intro pins s σ H vs us Q I r h
  obtain ⟨ds, v, hd, e, q⟩ := h
  unfold bestD at e
  split at e
  · exact best_list hc hu mx pins s σ H vs us Q I r ⟨_, v, hd, e, q⟩
  · rename_i a b
    unfold best2 at e
    split at e
    · cases e
      obtain ⟨x, y, rfl, h1, h2⟩ := hd.two
      have := h1.int
      subst this
      have := h2.int
      subst this
      cases mx with
      | true => exact call_max2 hc pins s σ H _ us Q I r ⟨_, _, rfl, q.int⟩
      | false => exact call_min2 hc pins s σ H _ us Q I r ⟨_, _, rfl, q.int⟩
    · obtain ⟨w, e3, rfl⟩ := Option.map_eq_some_iff.mp e
      simp only [bestA] at e3
      split at e3
      · rename_i hz
        rw [Bool.and_eq_true, Bool.and_eq_true] at hz
        obtain ⟨al, pl, _⟩ := alike_all (by rw [Bool.and_eq_true]; exact ⟨hz.1.1, hz.2⟩)
        have to := hz.1.2
        rw [List.all_eq_true] at to
        have h3 : Fzs X.K H _ vs := hd.fzs_scal fun d hd v hv => hv.tupOnly (to d hd)
        obtain ⟨x, y, rfl, _⟩ := hd.two
        obtain ⟨as, hr⟩ := Dp.readsAll I _ _ us (Fzs.dps _ _ pl.1 h3) r
        cases r with
        | cons r1 t =>
        cases t with
        | cons r2 t =>
        cases t
        cases mx with
        | true =>
          cases e3
          exact max_args2_data (I.ok.hd hc) hr al (by omega) fun i v h' tk bs e hr hk => best_fin I h3 pl.1 (.cons r1 (.cons r2 .nil)) q e hr hk
        | false =>
          cases e3
          exact min_args2_data (I.ok.hd hc) hr al (by omega) fun i v h' tk bs e hr hk => best_fin I h3 pl.1 (.cons r1 (.cons r2 .nil)) q e hr hk
      · cases e3
  · rename_i a b c d
    split at e
    · cases e
      rename_i i j k l
      have h3 : Fzs X.K H _ vs := hd.fzs_scal fun d hd v hv => hv.tupOnly (by
        simp only [List.mem_cons, List.not_mem_nil, or_false] at hd
        rcases hd with rfl | rfl | rfl | rfl <;> rfl)
      have al : PySem.W.AlikeAll [PyData.int i, .int j, .int k, .int l] := by
        refine ⟨fun x hx y hy => ?_, fun x hx => ?_⟩
        · simp only [List.mem_cons, List.not_mem_nil, or_false] at hx hy
          rcases hx with rfl | rfl | rfl | rfl <;> rcases hy with rfl | rfl | rfl | rfl <;> simp [PySem.W.alike]
        · simp only [List.mem_cons, List.not_mem_nil, or_false] at hx
          rcases hx with rfl | rfl | rfl | rfl <;> simp
      have pl : PyData.plainAll [PyData.int i, .int j, .int k, .int l] = true := by simp [PyData.plainAll, PyData.plain]
      have dp : PyData.depthAll [PyData.int i, .int j, .int k, .int l] = 0 := by simp [PyData.depthAll, PyData.depth]
      have e6 := h3.of_ints (ns := [i, j, k, l])
      subst e6
      obtain ⟨as, hr⟩ := Dp.readsAll I _ _ us (Fzs.dps _ _ pl h3) r
      cases r with
      | cons r1 t =>
      cases t with
      | cons r2 t =>
      cases t with
      | cons r3 t =>
      cases t with
      | cons r4 t =>
      cases t
      cases mx with
      | true => exact max_args4_data (I.ok.hd hc) hr al (by omega) fun i v h' tk bs e hr hk => best_fin I h3 pl (.cons r1 (.cons r2 (.cons r3 (.cons r4 .nil)))) q e hr hk
      | false => exact min_args4_data (I.ok.hd hc) hr al (by omega) fun i v h' tk bs e hr hk => best_fin I h3 pl (.cons r1 (.cons r2 (.cons r3 (.cons r4 .nil)))) q e hr hk
    · cases e
  · cases e
end
end Fw

/-! Fw: sorted, of a list or a tuple -/
namespace Fw
open PySem PySem.Spec PyProof.Rows PySem.W L2
section
variable {prog : Program} {w : World} {A : Around} {E : Value → Shared → Prop} {s : Shared}
theorem collect_seq {T : String} (hT : (Value.type T == Value.type "list" || Value.type T == Value.type "tuple") = true) {l : Addr} {o : Obj} {n : Nat} {vs : List Value} {Q : List Value → Shared → Prop} (ho : s.heap.get? l = some o) (hc : o.cls = .type T) (hd : o.data = .seq vs.toArray n)
    (h : Q vs { s with heap := (s.heap.push (seqObj "list" #[] 0)).update s.heap.objs.size (Obj.mapSeq (· ++ vs.toArray)) }) (hsz : vs.length ≤ sizeLine) :
    wpAny (model prog w) A (collect (.ref l)) Q E s := by
  unfold collect
  refine wpAny_bind (wpAny_runValue (codeAny_builtin entry_proto_collect' ?_))
  show wpAny _ _ (do again (.builtin "list.__iadd__" ⟨[← newList [], .ref l], []⟩)) _ _ s
  refine wpAny_bind (wpAny_newList (wpAny_pure ⟨Code.quiet_builtin _ (by decide +kernel), codeAny_builtin entry_list_iadd' ?_⟩))
  show wpAny _ _ (Builtin.List.listExtendWith (.ref s.heap.objs.size) (.ref l) (.ref s.heap.objs.size)) _ _ { s with heap := s.heap.push (seqObj "list" #[] 0) }
  unfold Builtin.List.listExtendWith
  have ho' : (s.heap.push (seqObj "list" #[] 0)).get? l = some o := Heap.get?_push_of_some _ ho
  refine wpAny_bind (wpAny_typeOf (T := T) ⟨o, ho', hc⟩ ?_)
  rw [if_pos (by rw [Bool.or_assoc, hT, Bool.or_true])]
  refine wpAny_bind (listItems_at ho' hd ?_)
  refine wpAny_bind (listItems_at (xs := #[]) (n := 0) (Heap.get?_push_size _ rfl) rfl ?_)
  rw [if_neg (by simp)]
  refine wpAny_bind (listUpdate_at (xs := #[]) (n := 0) (Heap.get?_push_size _ rfl) rfl ?_ (Nat.zero_le _) (by show (#[] ++ vs.toArray).size ≤ sizeLine + 1; simp only [Array.size_append, List.size_toArray, List.length_nil]; omega))
  refine wpAny_pure ?_
  show wpAny (model prog w) A (do
      let o ← load s.heap.objs.size
      match o.data with
      | .seq xs _ => pure xs.toList
      | _ => unsupported "internal:collect") Q E { s with heap := (s.heap.push (seqObj "list" #[] 0)).update s.heap.objs.size (Obj.mapSeq (· ++ vs.toArray)) }
  refine wpAny_bind (wpAny_load (get?_update_seq (Heap.get?_push_size _ rfl) _) ?_)
  show wpAny _ _ (pure ((#[] : Array Value) ++ vs.toArray).toList) Q E _
  rw [show ((#[] : Array Value) ++ vs.toArray).toList = vs by simp]
  exact wpAny_pure h
theorem sorted_of_seq {T : String} (hT : (Value.type T == Value.type "list" || Value.type T == Value.type "tuple") = true) {l : Addr} {o : Obj} {n : Nat} {vs : List Value} {Q : Value → Shared → Prop} (ho : s.heap.get? l = some o) (hc : o.cls = .type T) (hd : o.data = .seq vs.toArray n) (hL : vs.length ≤ sizeLine)
    (body : ∀ E' : Value → Shared → Prop, wpAny (model prog w) A.in1.in1 (Builtin.«list.sort» ⟨[.ref (s.heap.objs.size + 1)], []⟩) (fun f s' => f = .done (.ret .none) ∧ Q (.ref (s.heap.objs.size + 1)) s') E' { s with heap := copyHeap s.heap vs }) :
    wpAny (model prog w) A (call (.builtin "sorted") [.ref l]) Q E s := by
  refine call_function_entry_kw kind_sorted plain_sorted entry_sorted (args_sorted1 _) ?_
  unfold Builtin.«sorted»
  refine wpAny_bind (m := checkCount "sorted" 1 1 _) (wpAny_pure ?_)
  refine wpAny_bind (collect_seq hT ho hc hd ?_ hL)
  refine wpAny_bind (wpAny_newList ?_ hL)
  have hsz : ((s.heap.push (seqObj "list" #[] 0)).update s.heap.objs.size (Obj.mapSeq (· ++ vs.toArray))).objs.size = s.heap.objs.size + 1 := by
    rw [Heap.size_update, size_push']
  show wpAny _ _ _ _ _ { s with heap := copyHeap s.heap vs }
  rw [hsz]
  refine wpAny_bind (wpAny_holding (wpAny_call_entry_kw slot_list_sort ⟨_, copyHeap_at s.heap vs, rfl⟩ entry_list_sort ?body (args_list_sort _)))
  case body =>
    show wpAny (model prog w) A.in1.in1 (Builtin.«list.sort» ⟨[.ref (s.heap.objs.size + 1)], []⟩) _ _ _
    refine wpAny_mono (body _) (fun f s' hf => ?_) fun _ _ e => e
    obtain ⟨rfl, hq⟩ := hf
    exact ⟨_, rfl, wpAny_pure ⟨_, rfl, hq⟩⟩
theorem sorted_seq_data {T : String} (hT : (Value.type T == Value.type "list" || Value.type T == Value.type "tuple") = true) {l : Addr} {o : Obj} {n : Nat} {β : Type} {vs : List Value} {bs : List β} {enc : β → PyData} {R : Value → β → Prop} {Q : Value → Shared → Prop} (ho : s.heap.get? l = some o) (hc : o.cls = .type T) (hd : o.data = .seq vs.toArray n) (e : EachIs R vs bs) (er : EachIs (fun v b => ∃ as, Reads s.heap v (enc b) as) vs bs) (hal : AllAlike (bs.map enc)) (hk : Sortable (bs.map enc)) (hL : bs.length ≤ sizeLine)
    (hu : ∀ b, b ∈ bs → A.units + 2 + (enc b).depth < cLine) (h : ∀ out, out.length = bs.length → EachIs R out (bs.mergeSort (dataLe false enc)) → Q (.ref (s.heap.objs.size + 1)) { s with heap := sortedAll s.heap vs (List.toArray out) }) :
    wpAny (model prog w) A (call (.builtin "sorted") [.ref l]) Q E s := by
  have er' : EachIs (fun v b => ∃ as, Reads (sortingHeap (copyHeap s.heap vs) (s.heap.objs.size + 1) vs) v (enc b) as) vs bs := er.mono fun _ _ ⟨as, r⟩ => ⟨as, PyProof.Rows.Reads.keeps (fun _ _ => sorting_copy_old) r⟩
  have hL' : vs.length ≤ sizeLine := by rw [e.length]; exact hL
  refine sorted_of_seq hT ho hc hd hL' fun _ => list_sort_vals (s := { s with heap := copyHeap s.heap vs }) (copyHeap_at s.heap vs) (SortsAt.data (s := { s with heap := sortingHeap (copyHeap s.heap vs) (s.heap.objs.size + 1) vs }) (each_map (R := fun v d => ∃ as, Reads (sortingHeap (copyHeap s.heap vs) (s.heap.objs.size + 1) vs) v d as) enc er') hal hk (bound_map hu)) hL' ⟨rfl, ?_⟩
  exact h _ (by rw [sortVals_length false rfl]; exact e.length) (sortVals_data false e er' hal)
end
variable {X : Cx}
theorem Fzs.pairs {K : PySem.W.Frag} {H : Hp} : ∀ {bs : List (V × D)}, (∀ b ∈ bs, Fz K H b.2 b.1) → Fzs K H (bs.map Prod.snd) (bs.map Prod.fst)
  | [], _ => by simp [Fzs]
  | b :: bs, h => by
    simp only [List.map_cons, Fzs]
    exact ⟨_, _, rfl, h b (by simp), Fzs.pairs fun c hc => h c (by simp [hc])⟩
theorem Fzs.zip {K : PySem.W.Frag} {H : Hp} : ∀ {ds : List D} {vs : List V}, Fzs K H ds vs → ∀ b ∈ vs.zip ds, Fz K H b.2 b.1
  | [], _, _, b, hb => by simp at hb
  | d :: ds, vs, h, b, hb => by
    simp only [Fzs] at h
    obtain ⟨v, vs', rfl, h1, h2⟩ := h
    rw [List.zip_cons_cons] at hb
    rcases List.mem_cons.mp hb with rfl | hb
    · exact h1
    · exact Fzs.zip h2 b hb
theorem each_bs {K : PySem.W.Frag} : ∀ {zs : List V} {xs : List D} {its : List Value}, Vals zs its → zs.length = xs.length → EachIs (fun v (b : V × D) => RelV b.1 v) its (zs.zip xs)
  | [], [], _, .nil, _ => .nil
  | z :: zs, x :: xs, _, .cons r t, h => .cons r (each_bs (K := K) t (by simpa using h))
theorem each_vals : ∀ {out : List Value} {bs : List (V × D)}, EachIs (fun v (b : V × D) => RelV b.1 v) out bs → Vals (bs.map Prod.fst) out
  | _, _, .nil => .nil
  | _, _, .cons r t => .cons r (each_vals t)
theorem Fzs.len {K : PySem.W.Frag} {H : Hp} {ds : List D} {vs : List V} (h : Fzs K H ds vs) : vs.length = ds.length := h.length.symm
theorem zip_snd : ∀ {zs : List V} {xs : List D}, zs.length = xs.length → (zs.zip xs).map Prod.snd = xs
  | [], [], _ => rfl
  | z :: zs, x :: xs, h => by
    rw [List.zip_cons_cons, List.map_cons, zip_snd (by simpa using h)]
theorem sortable_of {xs : List D} (h : (alikeL xs && !noneAny xs && !xs.any (fun x => match x with | .tuple [] => true | _ => false)) = true) : Sortable xs := by
  rw [Bool.and_eq_true] at h
  obtain ⟨h1, h2⟩ := h
  obtain ⟨a1, _, a3⟩ := alike_all h1
  rw [Bool.not_eq_true', List.any_eq_false] at h2
  by_cases ht : ∃ ys, PyData.tuple ys ∈ xs
  · obtain ⟨ys, hy⟩ := ht
    refine .inl fun d hd => ?_
    have al := a3 d hd _ hy
    cases d with
    | tuple zs =>
      cases zs with
      | nil => exact absurd rfl (h2 _ hd)
      | cons z zs => exact ⟨z, zs, rfl⟩
    | _ => simp [PySem.W.alike] at al
  · exact .inr fun d hd => ⟨fun e => a1.2 d hd e, fun ys e => ht ⟨ys, e ▸ hd⟩⟩
theorem sortL_out {xs ys : List D} (e : sortL xs = some ys) : (alikeL xs && !noneAny xs && !xs.any (fun x => match x with | .tuple [] => true | _ => false)) = true ∧ ys = xs.mergeSort leB := by
  unfold sortL at e
  split at e
  · rename_i h
    cases e
    exact ⟨h, rfl⟩
  · cases e
theorem depth_mem {x : D} : ∀ {xs : List D}, x ∈ xs → x.depth ≤ PyData.depthAll xs
  | y :: ys, h => by
    rw [PyData.depthAll]
    rcases List.mem_cons.mp h with rfl | h
    · omega
    · have := depth_mem h
      omega
theorem cb_sorted (hu : X.A.units + 64 < cLine) : CallR X (.builtin "sorted") (rBi X.K (one1 sortD)) := cb_one fun pins s σ H x us Q d v I r h1 e q => by
  obtain ⟨xs, e1, e2⟩ := Option.bind_eq_some_iff.mp e
  obtain ⟨ys, e3, rfl⟩ := Option.map_eq_some_iff.mp e2
  obtain ⟨hz, rfl⟩ := sortL_out e3
  have hs := sortable_of hz
  obtain ⟨al, pl, aa⟩ := alike_all (Bool.and_eq_true _ _ |>.mp hz).1
  obtain ⟨a, zs, rfl, h2, h3⟩ := h1.seq e1
  have hlen := h3.len
  rw [Vals.ref1 r]
  have main : ∀ {T : String} {o : Obj} {n : Nat} {its : List Value}, (Value.type T == Value.type "list" || Value.type T == Value.type "tuple") = true → s.heap.get? a = some o → o.cls = .type T → o.data = .seq its.toArray n → Vals zs its → zs.length ≤ sizeLine → wpAny (model X.prog X.w) X.A (call (.builtin "sorted") [.ref a]) (EP X pins σ Q) X.xe s := fun {T o n its} hT ho hc hd rv hz => by
    have es := each_bs (K := X.K) rv hlen
    refine sorted_seq_data hT (bs := zs.zip xs) (enc := Prod.snd) ho hc hd es ?_ (by rw [zip_snd hlen]; exact aa) (by rw [zip_snd hlen]; exact hs) (by rw [List.length_zip]; omega) (fun b hb => ?_) fun out ho he => ?_
    · have : ∀ {zs : List V} {xs : List D} {its : List Value}, Vals zs its → PyData.plainAll xs = true → Fzs X.K H xs zs → EachIs (fun v (b : V × D) => ∃ as, Reads s.heap v b.2 as) its (zs.zip xs) := by
        intro zs xs its rv
        induction rv generalizing xs with
        | nil => intro _ _; exact .nil
        | @cons z u zs us rz rt ih =>
          intro hp hf
          cases xs with
          | nil => simp only [Fzs] at hf; cases hf
          | cons d ds =>
            simp only [Fzs] at hf
            obtain ⟨v', r', hv, f1, f2⟩ := hf
            cases hv
            simp only [PyData.plainAll, Bool.and_eq_true] at hp
            exact .cons (Dp.reads I d _ _ (Fz.dp _ _ hp.1 f1) rz) (ih hp.2 f2)
      exact this rv pl.1 h3
    · have hm : b.2 ∈ xs := (List.of_mem_zip hb).2
      have := depth_mem hm
      have := pl.2
      omega
    · obtain ⟨ep, he'⟩ := PyProof.Rows.sortedAll_at s.heap its out.toArray
      have ev := each_vals he
      have lo : ((zs.zip xs).mergeSort (dataLe false Prod.snd)).length ≤ sizeLine := by rw [List.length_mergeSort, List.length_zip]; omega
      have hp : ((zs.zip xs).mergeSort (dataLe false Prod.snd)).map Prod.snd = xs.mergeSort leB := by
        rw [List.map_mergeSort (r := dataLe false Prod.snd) (s := leB) (f := Prod.snd) (fun _ _ _ _ => rfl), zip_snd hlen]
      refine ⟨.ref _, upd H (s.heap.objs.size + 1) (.lst (((zs.zip xs).mergeSort (dataLe false Prod.snd)).map Prod.fst)), I.laid (t' := s.toks) (fun _ _ => PyProof.Rows.sortedAll_old) (Nat.le_succ _) ⟨by rw [List.length_map]; exact lo, out, ep, ev, he'⟩, rfl, q.lst ?_ (I.hok.fresh (Nat.le_succ _))⟩
      rw [← hp]
      exact Fzs.pairs fun b hb => Fzs.zip h3 b ((List.mergeSort_perm _ _).mem_iff.mp hb)
  rcases h2 with h2 | h2
  · obtain ⟨its, rv, hl, hz⟩ := I.list h2
    obtain ⟨o, ho, hc, n, hd⟩ := hl.isList
    exact main rfl ho hc hd rv hz
  · obtain ⟨its, rv, hl, hz⟩ := I.tuple h2
    obtain ⟨o, ho, hc, n, hd⟩ := id hl
    exact main rfl ho hc hd rv hz
end Fw

/-! Fw: within an except suite: an iterator's end, a tuple's parts -/
namespace Fw
open PySem PySem.Spec PyProof.Rows HotX
section
variable {prog : Program} {w : World} {A : Around} {E : Value → Shared → Prop} {s : Shared}
theorem hot_set {x1 : Addr} {h h' : Heap} (hot : HotAt A x1 h) (k : h.get? x1 = h'.get? x1) : HotAt A x1 h' := by
  obtain ⟨hh, o1, vs1, h1, d1, c1⟩ := hot
  exact ⟨hh, o1, vs1, k ▸ h1, d1, c1⟩
/-- what remains when an iterator has come to its end: a new StopIteration, raised while x1 is handled, and seen -/
theorem stop_hot {it x1 : Addr} {s1 : Shared} {Q : Option Value → Shared → Prop} (hot : HotAt A x1 s1.heap) (kb : Heap.ExtBut it s.heap s1.heap) (hQ : ∀ h', Heap.ExtBut it s.heap h' → Q none { s1 with heap := h' }) :
    wpAny (model prog w) A.in1 (newExc (.type "StopIteration") [])
      (fun v s2 => wpAny (model prog w) A.in1 (raiseNew v : Sem Fin) (fun _ _ => False) (fun e s3 => s3.TypeIs e "StopIteration" ∧ ∃ h', Heap.ExtBut it s.heap h' ∧ s3 = { s1 with heap := h' }) s2) (fun _ _ => False) s1 := by
  have old := hot
  obtain ⟨hh, o1, vs1, h1, d1, c1⟩ := hot
  simp only [newExc, newTuple]
  refine wpAny_bind (wpAny_newObj_type ?_ (by size_fits))
  refine wpAny_bind (m := firstArgMember _ _) (wpAny_of_eq (a := Value.none) (by first | rfl | (simp only [firstArgMember]; rfl)) (wpAny_newObj_type ?_ (by size_fits)))
  have lt := fun (p q : Obj) => Heap.lt_size (Heap.get?_push_of_some q (Heap.get?_push_of_some p h1))
  refine raiseNew_hot ⟨hh, o1, vs1, Heap.get?_push_of_some _ (Heap.get?_push_of_some _ h1), d1, c1⟩ (Nat.ne_of_lt (Heap.lt_size (Heap.get?_push_of_some _ h1))) (Heap.get?_push_size _ rfl) rfl (by first | (simp; done) | (simp; omega) | (simp only [Array.size_append]; simp; omega)) ⟨⟨_, Heap.get?_update_self _ (Heap.get?_push_size _ rfl) rfl, rfl⟩, _, fun b o hb e => ?_, rfl⟩
  have e1 := kb b o hb e
  rw [Heap.get?_update_other _ _ (Nat.ne_of_gt (Heap.lt_size (Heap.get?_push_of_some _ e1)))]
  exact Heap.get?_push_of_some _ (Heap.get?_push_of_some _ e1)
theorem list_end_hot {it l x1 : Addr} {i : Nat} {items : Array Value} {Q : Option Value → Shared → Prop} (hot : HotAt A x1 s.heap) (ne : x1 ≠ it) (hit : s.heap.IsListIter it l i) (hl : s.heap.IsList l items) (hx : items[i]? = none)
    (hQ : ∀ h', Heap.ExtBut it s.heap h' → Q none { s with heap := h' }) : wpAny (model prog w) A (pyNext (.ref it)) Q E s := by
  obtain ⟨oi, hoi, ci, di⟩ := id hit
  obtain ⟨ol, hol, _, nl, dl⟩ := hl
  unfold pyNext
  refine wpAny_bind (wpAny_attempt (wpAny_callSpecial?_slot (name := Str.ofString "__next__") hit.typeIs slot_listiter_next (wpAny_call_entry slot_listiter_next hit.typeIs entry_listiter_next ?_ (args_listiter_next _))))
  refine wpAny_bind (m := field (.ref it) 0) (wpAny_field hoi di (x := .ref l) rfl ?_)
  rw [if_neg (show ¬ ((Value.ref l == Value.none) = true) from Bool.false_ne_true)]
  refine wpAny_bind (m := field (.ref it) 1) (wpAny_field hoi di (x := .int i 0) rfl (wpAny_bind (m := seqItems? (.ref l)) (wpAny_seqItems hol dl ?_)))
  simp only [Int.toNat_natCast, hx]
  refine wpAny_bind (wpAny_rule (wpAny_bind (wpAny_setField hoi di (by simp) (wpAny_bind (m := newExc (.type "StopIteration") []) ?_))))
  refine wpAny_mono (stop_hot (it := it) (s := s) (Q := Q) (hot_set hot (Heap.get?_update_other _ _ ne.symm).symm) (Heap.SameBut.update ..).extBut hQ) (fun v s2 h2 => wpAny_mono h2 (fun _ _ z => z.elim) fun e s3 ⟨ty, h', k, e3⟩ => ?_) fun _ _ z => z.elim
  subst e3
  exact wpAny_bind (wpAny_isInstance (T := "StopIteration") (b := true) ty isSubtype_stop (wpAny_pure (hQ _ k)))
theorem tuple_end_hot {it t x1 : Addr} {i : Nat} {items : Array Value} {Q : Option Value → Shared → Prop} (hot : HotAt A x1 s.heap) (ne : x1 ≠ it) (hit : IsTupIter s.heap it t i) (hl : IsTup s.heap t items) (hx : items[i]? = none)
    (hQ : ∀ h', Heap.ExtBut it s.heap h' → Q none { s with heap := h' }) : wpAny (model prog w) A (pyNext (.ref it)) Q E s := by
  obtain ⟨oi, hoi, ci, di⟩ := id hit
  obtain ⟨ol, hol, _, nl, dl⟩ := hl
  unfold pyNext
  refine wpAny_bind (wpAny_attempt (wpAny_callSpecial?_slot (name := Str.ofString "__next__") hit.typeIs slot_tupleiter_next (wpAny_call_entry slot_tupleiter_next hit.typeIs entry_tupleiter_next ?_ (args_tupleiter_next _))))
  refine wpAny_bind (m := field (.ref it) 0) (wpAny_field hoi di (x := .ref t) rfl ?_)
  rw [if_neg (show ¬ ((Value.ref t == Value.none) = true) from Bool.false_ne_true)]
  refine wpAny_bind (m := field (.ref it) 1) (wpAny_field hoi di (x := .int i 0) rfl (wpAny_bind (m := seqItems? (.ref t)) (wpAny_seqItems hol dl ?_)))
  simp only [Int.toNat_natCast, hx]
  refine wpAny_bind (wpAny_rule (wpAny_bind (wpAny_setField hoi di (by simp) (wpAny_bind (m := newExc (.type "StopIteration") []) ?_))))
  refine wpAny_mono (stop_hot (it := it) (s := s) (Q := Q) (hot_set hot (Heap.get?_update_other _ _ ne.symm).symm) (Heap.SameBut.update ..).extBut hQ) (fun v s2 h2 => wpAny_mono h2 (fun _ _ z => z.elim) fun e s3 ⟨ty, h', k, e3⟩ => ?_) fun _ _ z => z.elim
  subst e3
  exact wpAny_bind (wpAny_isInstance (T := "StopIteration") (b := true) ty isSubtype_stop (wpAny_pure (hQ _ k)))
/-- (a, b, ..) = a tuple, within a suite -/
theorem tuple_parts_hot {env : PySem.Env} {elts : List Expr} {k : Nat} {pos : Pos} {t x1 : Addr} {items : Array Value} {Q : Unit → Shared → Prop} (hot : HotAt A x1 s.heap) (ht : IsTup s.heap t items)
    (hn : (assignEach elts env).length = items.size) (hstar : (assignEach elts env).findIdx? (·.1) = none)
    (h : ∀ h', Heap.ExtBut s.heap.objs.size s.heap h' → wpAny (model prog w) A (assignInOrder ((assignEach elts env).map (·.2)) items.toList) Q E { s with heap := h' }) : wpAny (model prog w) A (assign (.Tuple elts k pos) env (.ref t)) Q E s := by
  obtain ⟨hh, o1, vs1, h1, d1, c1⟩ := hot
  have n1 : x1 ≠ s.heap.objs.size := Nat.ne_of_lt (Heap.lt_size h1)
  have nt : t ≠ s.heap.objs.size := by obtain ⟨o, ho, _⟩ := ht; exact Nat.ne_of_lt (Heap.lt_size ho)
  rw [assign_Tuple]
  refine wpAny_bind (wpAny_standAt ?_)
  unfold unpack
  rw [hn, hstar]
  refine wpAny_bind (wpAny_holding ?_)
  unfold unpackItems notIterableAtAll
  refine wpAny_bind (wpAny_bind (wpAny_specialOf ht.typeIs slot_tuple_iter.lookup (wpAny_pure ?_)))
  simp only [Bool.false_eq_true, if_false]
  refine wpAny_bind (wpAny_holding (iter_tuple ht (wpAny_bind (wpAny_holding (draw_tuple nt items.size 0 _ _ ⟨_, Heap.get?_push_size _ rfl, rfl, rfl⟩ (ht.push _) (by omega) fun h2 hit2 sb2 => ?_)))))
  have all : List.take items.size (List.drop 0 items.toList) = items.toList := by rw [List.drop_zero]; exact List.take_of_length_le (by simp)
  rw [all, if_neg (by simp)]
  have k2 : ∀ b o, b ≠ s.heap.objs.size → s.heap.get? b = some o → h2.get? b = some o := fun b o hb e => sb2.extBut b o hb (Heap.get?_push_of_some _ e)
  refine wpAny_bind (wpAny_holding (tuple_end_hot (x1 := x1) ⟨hh, o1, vs1, k2 _ _ n1 h1, d1, c1⟩ n1 hit2 ((ht.push _).extBut sb2.extBut nt) (by simp) fun h3 e3 => ?_))
  simp only [Option.isSome_none, Bool.false_eq_true, if_false]
  exact wpAny_pure (h h3 fun b o hb e => e3 b o hb (k2 b o hb e))
end
end Fw

/-! Fw: a list comprehension over a list within an except suite -/
namespace Fw
open PySem PySem.Spec PyProof.Rows L2 HotX

/-- the exception that is handled is known to the object -/
def HotT (X : Cx) : Prop := ∃ (a : Addr) (oe : Obj) (φ : Heap → Prop) (vs : Array Value), X.A.handled = some (.ref a) ∧ X.H_0 a = some (.frz oe (.ext φ)) ∧ oe.data = .fields vs ∧ vs[2]? = some .none
section
variable {X : Cx} {pins : List (Addr × Obj)} {σ : L2.St} {H : Hp} {s : Shared}
theorem HotT.at (c : HotT X) (I : Inv X pins σ H s) : ∃ a oe φ, HotAt X.A a s.heap ∧ H a = some (.frz oe (.ext φ)) := by
  obtain ⟨a, oe, φ, vs, h1, h2, h3, h4⟩ := c
  have e := I.base.frzs _ _ _ h2
  exact ⟨a, oe, φ, ⟨h1, oe, vs, (I.hok a _ e).1, h3, h4⟩, e⟩
theorem HotT.blk {s' : Shared} {scope : Scope} {ce : PySem.Env} {fp : List Addr} (c : HotT X) (I : Inv X pins σ H s) : HotT (X.blk s' H scope ce fp) := by
  obtain ⟨a, oe, φ, vs, h1, h2, h3, h4⟩ := c
  exact ⟨a, oe, φ, vs, h1, I.base.frzs _ _ _ h2, h3, h4⟩
/-- a list that is walked -/
def iLst (K : PySem.W.Frag) (te : TE) : TI := fun σ H R => te σ H fun x H1 => ∃ a xs, x = .ref a ∧ SqL K H1 a xs ∧ (xs.length ≤ sizeLine → R (Itl K a) H1)
section
variable {elt tg iter : Expr} {ifs : List Expr} {scope : Scope} {own : List (Str × Nat)} {pos : Pos} {te0 : TE} {g : TG} {tt : TT} {te : TE}
/-- the block's parts, wherever it is laid -/
structure BlkP (X : Cx) (tg elt : Expr) (ifs : List Expr) (scope : Scope) (g : TG) (tt : TT) (te : TE) : Prop where
  pg : ∀ (s : Shared) (H : Hp) (C : Addr) (cl : List (Str × Addr)) (fp : List Addr), HotT (X.blk s H scope (compEnvC scope cl C X.env) fp) → PG (X.blk s H scope (compEnvC scope cl C X.env) fp) tg g
  pt : ∀ (s : Shared) (H : Hp) (C : Addr) (cl : List (Str × Addr)) (fp : List Addr), HotT (X.blk s H scope (compEnvC scope cl C X.env) fp) → PTs (X.blk s H scope (compEnvC scope cl C X.env) fp) ifs tt
  pe : ∀ (s : Shared) (H : Hp) (C : Addr) (cl : List (Str × Addr)) (fp : List Addr), HotT (X.blk s H scope (compEnvC scope cl C X.env) fp) → PE (X.blk s H scope (compEnvC scope cl C X.env) fp) elt te
theorem lcH_core {Q : VK} {pos' : Pos} {use : Option (Value → Sem Unit)} {Qf : Value → Shared → Prop} (hot : HotT X) (nd : X.N.Nodup) (I : Inv X pins σ H s) (hi : PE X iter te0) (ok : BlkOk X.N X.env.scope scope own) (B : BlkP X tg elt ifs scope g tt te)
    (hs : ∀ x, foldedSetIterable iter X.env x = pure x) (h : tLc (iLst X.K te0) g tt te (own.map (·.2)) σ H Q)
    (fin : ∀ D C s' m H', Inv X pins σ H' s' → Q (.ref D) H' → s'.heap.Ns C m → FpOk X pins H' C → compPost (model X.prog X.w) X.A X.xe use Qf (.ref D) C (.ok .next) s') :
    wpAny (model X.prog X.w) X.A (comprehension (.ListComp elt [⟨tg, iter, ifs, 0⟩] scope pos) scope X.env pos' (newList []) false (eval iter X.env) use) Qf X.xe s := by
  refine wpAny_comprehension_free (use := use) rfl hs (closure_ok fun y hy e => (ok.free y hy e).elim (fun k => I.ok.has _ (.inl k)) fun k => I.ok.has _ (.inr k)) ok.kind (fun y hy e => by rw [ok.uniq y hy, e]) ?_
  refine thn (hi.run pins s σ H _ I h) fun xv s1 ⟨x, H2, I2, r1, l, xs, ex, hl, q⟩ => ?_
  subst ex
  cases r1
  obtain ⟨its, _, pl, hz⟩ := I2.list hl
  refine wpAny_pyIter_list pl.isList (wpAny_newObj_type (newEnv_comp ?_) (by show 0 ≤ sizeLine; decide))
  -- the iterator it, the new list D
  have nIt : H2 s1.heap.objs.size = none := I2.hok.fresh (Nat.le_refl _)
  have I3 := I2.kept (t' := s1.toks) fun b o e => Heap.get?_push_of_some { cls := .type "list_iterator", data := .fields #[.ref l, .int 0 0] } e
  have f3 : FpOk X pins H2 s1.heap.objs.size := I2.fpOk (Nat.le_refl _) nIt
  have st3 : (s1.heap.push { cls := .type "list_iterator", data := .fields #[.ref l, .int 0 0] }).IsListIter s1.heap.objs.size l 0 := ⟨_, Heap.get?_push_size _ rfl, rfl, rfl⟩
  generalize hit : s1.heap.objs.size = it at nIt f3 st3 ⊢
  generalize hs2 : ({ s1 with heap := s1.heap.push { cls := .type "list_iterator", data := .fields #[.ref l, .int 0 0] } } : Shared) = s2 at I3 st3 ⊢
  have st3 : s2.heap.IsListIter it l 0 := by rw [← hs2]; exact st3
  generalize hD : s2.heap.objs.size = D
  have nD : H2 D = none := I3.hok.fresh (Nat.le_of_eq hD)
  obtain ⟨W, ⟨m0, w0⟩, turn⟩ := q hz D nD
  have I4 : Inv X pins σ (upd H2 D (.lst [])) { s2 with heap := s2.heap.push { cls := .type "list", data := .seq ([] : List Value).toArray } } :=
    I3.laid (t' := s2.toks) (fun b o e => Heap.get?_push_of_some _ e) (Nat.le_of_eq hD) ⟨Nat.zero_le _, [], 0, .nil, by rw [← hD]; exact Heap.get?_push_size _ rfl⟩
  have lt : it < s2.heap.objs.size := by obtain ⟨o, e, _⟩ := st3; exact Heap.lt_size e
  have hotB : ∀ (ce : PySem.Env) (s' : Shared), HotT (X.blk s' (upd H2 D (.lst [])) scope ce [it]) := fun ce s' => hot.blk I4
  generalize hs4 : ({ s2 with heap := s2.heap.push { cls := .type "list", data := .seq ([] : List Value).toArray } } : Shared) = s4 at I4 ⊢
  have h4 : s4.heap = s2.heap.push { cls := .type "list", data := .seq ([] : List Value).toArray } := by rw [← hs4]
  have st4 : s4.heap.IsListIter it l 0 := st3.at fun o e => by rw [h4]; exact Heap.get?_push_of_some _ e
  have f4 : FpOk X pins (upd H2 D (.lst [])) it := ⟨by rw [upd_ne (by rw [← hD]; exact Nat.ne_of_lt lt)]; exact f3.1, f3.2⟩
  have I5 := block_start (fp := [it]) I4 ok nd fun b hb => by
    obtain rfl : b = it := by simpa using hb
    exact ⟨f4, by rw [h4, Heap.size_push]; exact Nat.lt_succ_of_lt lt⟩
  have hotB := hotB (compEnvC scope (cellsFrom (s4.heap.objs.size + 1) scope.names (cloFrom X.env.cells scope.names [])) s4.heap.objs.size X.env) s4
  have pg := B.pg _ _ _ _ _ hotB
  have pt := B.pt _ _ _ _ _ hotB
  have pe := B.pe _ _ _ _ _ hotB
  generalize hce : compEnvC scope (cellsFrom (s4.heap.objs.size + 1) scope.names (cloFrom X.env.cells scope.names [])) s4.heap.objs.size X.env = ce at I5 pg pt pe hotB
  have cL : ce.locals = s4.heap.objs.size := by subst hce; rfl
  generalize hH4 : upd H2 D (.lst []) = H4 at I4 I5 pg pt pe w0 f4 hotB
  show codeAny _ _ (.compStart (.ListComp elt [⟨tg, iter, ifs, 0⟩] scope pos) 0 (.ref it) (.ref D) (compEnvC scope (cellsFrom (s4.heap.objs.size + 1) scope.names (cloFrom X.env.cells scope.names [])) s4.heap.objs.size X.env)) (compPost (model X.prog X.w) X.A X.xe use Qf (.ref D) s4.heap.objs.size) { s4 with heap := pushCells (s4.heap.push { cls := .type "dict", data := .dict #[] }) scope.names }
  rw [hce]
  generalize hs5 : ({ s4 with heap := pushCells (s4.heap.push { cls := .type "dict", data := .dict #[] }) scope.names } : Shared) = s5 at I5 ⊢
  have st5 : s5.heap.IsListIter it l 0 := st4.at fun o e => by rw [← hs5]; exact pushCells_keeps _ _ _ _ (Heap.get?_push_of_some _ e)
  have fB : ∀ {σ' : L2.St} {H' : Hp} {s' : Shared}, Inv (X.blk s4 H4 scope ce [it]) [] σ' H' s' → H' it = none → FpOk (X.blk s4 H4 scope ce [it]) [] H' it := fun {σ' H' s'} J hn =>
    ⟨hn, (J.ok.exf it (List.mem_singleton.mpr rfl)).1, J.ok.exfs it (List.mem_singleton.mpr rfl), .inl (List.mem_singleton.mpr rfl), fun x c e => (J.ok.exf it (List.mem_singleton.mpr rfl)).2 x c e, fun p hp => absurd (show p ∈ ([] : List (Addr × Obj)) ++ [] from hp) (by simp)⟩
  have loop : codeAny (model X.prog X.w) X.A (.compLoop (.ListComp elt [⟨tg, iter, ifs, 0⟩] scope pos) 0 (.ref it) (.ref D) ce) (compPost (model X.prog X.w) X.A X.xe use Qf (.ref D) s4.heap.objs.size) s5 := by
    refine compLoop_any (fun n s' => ∃ i H', Inv (X.blk s4 H4 scope ce [it]) [] (L2.wipe σ (own.map (·.2))) H' s' ∧ s'.heap.IsListIter it l i ∧ H' it = none ∧ W i n H') ?_ m0 ⟨0, H4, I5, st5, f4.1, w0⟩
    rintro n s6 ⟨i, H6, I6, st6, n6, w6⟩
    obtain ⟨f0, f1, f2, f3', f4', f5'⟩ := fB I6 n6
    rcases turn i n H6 w6 with ⟨⟨ys, hy, hle⟩, qq⟩ | ⟨⟨ys, y, hy, hyi⟩, Nx, hNx, step⟩
    · -- the end
      obtain ⟨its6, rv6, p6, _⟩ := I6.list hy
      obtain ⟨x1, oe, φ, ht, hx1⟩ := hotB.at I6
      have hl6 := rv6.length
      refine list_end_hot ht (fun e => by subst e; rw [n6] at hx1; cases hx1) st6 p6.isList (by simp; omega) fun h' eb => ?_
      have J6 := I6.turned (h' := h') (t' := s6.toks) (fun b o hb e => eb b o hb e) f0 f1 f3' f4' f5'
      have J7 : Inv X pins σ H6 { s6 with heap := h' } := I4.call' (ch := [it]) J6.os J6.base J6.hok J6.bare fun b hb => by
        obtain rfl : b = it := by simpa using hb
        exact ⟨f4.2.2.2.1, f4.2.1, f4.2.2.2.2.1, f4.2.2.2.2.2⟩
      have nC : H6 s4.heap.objs.size = none := by
        have z : H6 ce.locals = none := J6.free
        rwa [cL] at z
      obtain ⟨m, hn, _⟩ := J6.loc
      have hn : h'.Ns ce.locals m := hn
      rw [cL] at hn
      exact fin D s4.heap.objs.size _ m H6 J7 qq hn (I4.fpOk (Nat.le_refl _) nC)
    · obtain ⟨its6, rv6, p6, _⟩ := I6.list hy
      obtain ⟨u, hu, ru⟩ := rv6.get hyi
      refine wpAny_pyNext_list_item st6 p6.isList (x := u) (by simpa using hu) fun h' st7 sb => ?_
      have J7 := I6.turned (h' := h') (t' := s6.toks) (fun b o hb e => (sb.2 b hb).trans e) f0 f1 f3' f4' f5'
      obtain ⟨oi, eo, co, dd⟩ := id st7
      refine go_of (s := { s6 with heap := h' }) eo co dd (by decide) ?_
      have J7' := J7.pinned (fp := [it]) (fun b hb => List.mem_singleton.mp hb ▸ fB J7 n6) fun b hb => by
        obtain rfl : b = it := by simpa using hb
        exact ⟨oi, eo, fun v z => by rw [dd] at z; cases z⟩
      refine thnF (pg.run _ _ _ H6 y u _ J7' ru (step y H6 ⟨rfl, fun zs hq => by rw [I6.list_inj hq hy]; exact hyi⟩)) fun _ s8 ⟨σ8, H8, J8, w8, q8⟩ => ?_
      refine thnF (pt.run _ s8 σ8 H8 _ J8 q8) fun b s9 ⟨H9, J9, q9⟩ => ?_
      have next : ∀ {s' : Shared} {H' : Hp}, Inv (X.blk s4 H4 scope ce [it]) ([] ++ pinsAt [it] h') σ8 H' s' → Nx H' → ∃ m, m < n ∧ ∃ i H', Inv (X.blk s4 H4 scope ce [it]) [] (L2.wipe σ (own.map (·.2))) H' s' ∧ s'.heap.IsListIter it l i ∧ H' it = none ∧ W i m H' := fun {s' H'} J nx => by
        obtain ⟨m, hm, w'⟩ := hNx H' nx
        have z := J.pin (it, oi) (List.mem_append_right _ (List.mem_append_right _ (mem_pinsAt (List.mem_singleton.mpr rfl) eo)))
        have hl : (L2.wipe σ (own.map (·.2))).length = σ8.length := by rw [← w8, wipe_length]
        exact ⟨m, hm, i + 1, H', (J.unpinned (pins := [])).weak hl fun j v e => by rw [← w8] at e; exact (wipe_some e).1, st7.at fun o e => by rw [eo] at e; cases e; exact z.1, z.2.1, w'⟩
      cases b with
      | false => simp only [Bool.false_eq_true, if_false] at q9 ⊢; exact next J9 q9
      | true =>
        simp only [if_true] at q9 ⊢
        exact thnF (pe.run _ s9 σ8 H9 _ J9 q9) fun z s10 ⟨yv, H10, J10, r10, acc, hD10, hz10, nx⟩ => app_ok (X := X.blk s4 H4 scope ce [it]) J10 hD10 hz10 r10 fun s11 J11 => next J11 nx
  exact codeAny_compStart_list loop (wpAny_pyIter_listiter st5 loop)
theorem pe_lcH (hot : HotT X) (nd : X.N.Nodup) (hi : PE X iter te0) (ok : BlkOk X.N X.env.scope scope own) (B : BlkP X tg elt ifs scope g tt te) (hs : ∀ x, foldedSetIterable iter X.env x = pure x) :
    PE X (.ListComp elt [⟨tg, iter, ifs, 0⟩] scope pos) (tLc (iLst X.K te0) g tt te (own.map (·.2))) := by
  refine ⟨fun pins s σ H Q I h => ?_⟩
  rw [eval_ListComp]
  refine lcH_core hot nd I hi ok B hs h fun D C s' m H' J q hn ⟨a0, a1, a2, a3, a4, a5⟩ => ⟨m, hn, fun h'' sb => ?_⟩
  exact ⟨.ref D, H', J.turned (t' := s'.toks) (fun b o hb e => (sb.2 b hb).trans e) a0 a1 a3 a4 a5, rfl, q⟩
theorem ps_setLcH {i : Nat} {y : Str} {py spos : Pos} (hot : HotT X) (nd : X.N.Nodup) (hy : X.N[i]? = some y) (hyl : X.env.scope.names.lookup y = some .local) (hsw : swapsWith (.ListComp elt [⟨tg, iter, ifs, 0⟩] scope pos) (some (.Name y py)) spos.line X.env = pure true)
    (hi : PE X iter te0) (ok : BlkOk X.N X.env.scope scope own) (B : BlkP X tg elt ifs scope g tt te) (hs : ∀ x, foldedSetIterable iter X.env x = pure x) :
    PS X (.Assign [.Name y py] (.ListComp elt [⟨tg, iter, ifs, 0⟩] scope pos) spos) (tAsg (tLc (iLst X.K te0) g tt te (own.map (·.2))) (gName i)) := by
  refine ⟨fun pins s σ H D I h => ?_⟩
  rw [exec_Assign_Name_used _ _ _ _ hsw]
  refine wpAny_bind (wpAny_standAt (wpAny_bind (wpAny_bind (m := comprehension (.ListComp elt [⟨tg, iter, ifs, 0⟩] scope pos) scope X.env (firstIterPos [⟨tg, iter, ifs, 0⟩] pos) (newList []) false (eval iter X.env) (some (assign (.Name y py) X.env)))
    (thn (lcH_core (Q := fun x H1 => gName i x σ H1 D.nx) (Qf := fun _ s' => SP X pins D .next s') hot nd I hi ok B hs h fun L C s' m H' J q hn ⟨a0, a1, a2, a3, a4, a5⟩ => ?_) fun _ s' hq => wpAny_pure (wpAny_pure hq)))))
  refine wpAny_assign_Name (store_ok2 (v := V.ref L) J nd hy (.inl hyl) rfl (fun s2 J2 ⟨a, sb, ha⟩ => ⟨m, hn.sameBut sb ?_, fun h3 sb3 => ⟨_, H', J2.turned (t' := s2.toks) (fun b o hb e => (sb3.2 b hb).trans e) a0 a1 a3 a4 a5, q⟩⟩) (.inr hyl))
  rcases ha with z | z
  · rw [z]; exact a1
  · exact fun e => a4 y a z e.symm
/-- (a, b, ..) = a tuple -/
theorem pg_tupH {es : List Expr} {k : Nat} {t : TGs} {n : Nat} (hot : HotT X) (h : PGs X es t) (hn : (assignEach es X.env).length = n) (hst : (assignEach es X.env).findIdx? (·.1) = none) : PG X (.Tuple es k pos) (gTup X.K n t) := by
  refine ⟨fun pins s σ H v u Q I r ⟨a, xs, e1, hq, hl, hw⟩ => ?_⟩
  subst e1
  cases r
  obtain ⟨its, rv, ht, hz⟩ := I.tuple hq
  obtain ⟨x1, _, _, ha, _⟩ := hot.at I
  exact tuple_parts_hot ha ht (by simp [hn, ← hl, rv.length]) hst fun h' hx => h.run pins _ σ H xs _ Q (I.kept (t' := s.toks) fun b o e => hx b o (Nat.ne_of_lt (Heap.lt_size e)) e) (by simpa using rv) hw
end
end
end Fw

/-! Fw: a def that is called within an except suite -/
namespace Fw
open PySem PySem.Spec PyProof.Rows L2 HotX L2H

/-- the exception that is handled stands in H -/
structure HotA (A : Around) (H : Hp) : Prop where
  ex : ∃ (a : Addr) (oe : Obj) (φ : Heap → Prop) (vs : Array Value), A.handled = some (.ref a) ∧ H a = some (.frz oe (.ext φ)) ∧ oe.data = .fields vs ∧ vs[2]? = some .none
/-- what a def promises there -/
structure FnX (P : Program) (w : World) (K : PySem.W.Frag) (mg : Str → Option Value) (base : Heap) (CX : CXT) (k : Nat) (f : Addr) (fd : FuncData) (ps : List Str) (sp : Sp) : Prop where
  len : ∀ vs H Q E, sp vs H Q E → vs.length = ps.length
  run : ∀ (A : Around) (outer : List PySem.Env) (s : Shared) (H : Hp) (args : Args) (us : List Value) (vs : List V) (Q : VK) (E : XK), RoomH k A → HotA A H → Env0 P w K mg base A outer s H → BindsTo s fd args (ps.zip us) → Vals vs us → sp vs H Q E →
    codeAny (model P w) A (.call (.ref f) args) (CR CX outer P w H s Q E) s
abbrev cxX (CX : CXT) (P : Program) (w : World) (K : PySem.W.Frag) (mg : Str → Option Value) (base : Heap) (N : List Str) (qual : Str) (scope : Scope) (f : Addr) (cd : Value) (A : Around) (outer : List PySem.Env) (s : Shared) (H : Hp) (E : XK) : Cx :=
  { cxOf CX P w K mg base N qual scope f cd A outer s H E with calm := false }
/-- an invariant said of another surrounding -/
theorem inv_re {X : Cx} {pins : List (Addr × Obj)} {σ : L2.St} {H : Hp} {s : Shared} {A : Around} {c : Bool} {xe : Value → Shared → Prop} (I : Inv X pins σ H s) (hf : A.frames = X.A.frames) (hc : c = true → A.handled = none) : Inv { X with A := A, calm := c, xe := xe } pins σ H s :=
  ⟨⟨I.ok.mod, I.ok.kind, I.ok.glob, I.ok.blt, I.ok.above, I.ok.inj, I.ok.has, I.ok.cab, hc, hf.trans I.ok.frames, I.ok.stk, I.ok.exf, I.ok.bs, I.ok.bsz, I.ok.noex, I.ok.exfs, I.ok.funs, I.ok.frf⟩, I.os, I.bare, I.base, I.loc, I.cell, I.free, I.freeC, I.pin, I.hok, I.len⟩
theorem fn_hot {CX : CXT} {P : Program} {w : World} {K : PySem.W.Frag} {mg : Str → Option Value} {base : Heap} {k : Nat} {f : Addr} {name qual : Str} {params : Arguments} {body : List Stmt} {scope : Scope} {dV kV doc pm cdv ct oc : Value} {an od : Option Addr}
    {osl : Array (Option Value)} {N ps : List Str} {sp : Sp} (lk : K.lookup f = some ⟨oc, od, .func (PySem.W.fnOf name qual params body scope dV kV doc pm an cdv ct), osl⟩) (hcd : PySem.W.codeIn K cdv qual = true) (S : FnScope N ps scope) (len : ∀ vs H Q E, sp vs H Q E → vs.length = ps.length)
    (hb : ∀ (A : Around) (outer : List PySem.Env) (s : Shared) (H : Hp) (vs : List V) (Q : VK) (E : XK), HotA A H → RoomH k (A.deeper (envOfC qual scope s.heap.objs.size f cdv)) → sp vs H Q E → ∃ t, PSs (cxX CX P w K mg base N qual scope f cdv A outer s H E) body t ∧ t { nx := fun _ H' => Q .non H', rt := Q } (L2.start N vs) H) :
    FnX P w K mg base CX (k + 1) f (PySem.W.fnOf name qual params body scope dV kV doc pm an cdv ct) ps sp := by
  refine ⟨len, fun A outer s H args us vs Q E hr hot e0 bd r hsp => ?_⟩
  have hl := len _ _ _ _ hsp
  have kin : K.In s.heap := e0.mod.kin.keeps fun b o e => (e0.bs b o e).1
  have nolim : s.heap.NoLimit := e0.mod.nolimit.keeps fun b o e => (e0.bs b o e).1
  refine codeAny_call_function hr.depth (kin _ _ lk) rfl S.co S.gen rfl (PySem.W.codeRec_of kin hcd) (bd _ _ _ _ ?_)
  refine wpAny_newFunctionEnv_cells S.kind (fun ⟨n, v⟩ hy => (S.par n (List.of_mem_zip hy).1).imp id fun q => ⟨q, PySem.W.cellsFrom_some _ _ _ (.inl q)⟩) fun env he s1 x => ?_
  subst he
  refine ⟨nolim.keeps x.toInCall.keep, codeAny_func ?_⟩
  obtain ⟨t, ht, hq⟩ := hb A outer s H vs Q E hot (hr.deeper _) hsp
  have e1 : Env0 P w K mg base { A with handled := none } outer s H := ⟨e0.frames, e0.mod, e0.bs, e0.bsz, e0.funs, e0.frf, e0.hok, e0.bare⟩
  have I0 := inv_start (CX := CX) (E := E) S rfl e1 hl r x
  have I : Inv (cxX CX P w K mg base N qual scope f cdv A outer s H E) [] (L2.start N vs) H s1 := by
    have J := inv_re (A := A.deeper (envOfC qual scope s.heap.objs.size f cdv)) (c := false) (xe := (cxX CX P w K mg base N qual scope f cdv A outer s H E).xe) I0 rfl fun z => by cases z
    exact J
  refine wpAny_mono (ht.run [] s1 (L2.start N vs) H _ I hq) (fun fl s' hs => ?_) fun e s' hs => hs
  cases fl with
  | ret u =>
    obtain ⟨v, σ', H', J, rv, q⟩ := hs
    exact ⟨v, H', J.os, J.bare, J.base, J.hok, rv, q⟩
  | next =>
    obtain ⟨σ', H', J, q⟩ := hs
    exact ⟨.non, H', J.os, J.bare, J.base, J.hok, rfl, q⟩
  | brk => exact hs.choose_spec.choose_spec.2.elim
  | cont => exact hs.choose_spec.choose_spec.2.elim
/-- f(e, ..) within a suite -/
theorem pe_callX {X : Cx} {CX : CXT} {k : Nat} {f : Addr} {fd : FuncData} {ps : List Str} {sp : Sp} {x : Str} {p pos : Pos} {e : Expr} {es : List Expr} {t : TA} {W : WX} (F : FnX X.prog X.w X.K X.mg X.base CX k f fd ps sp) (hr : RoomH k X.A) (hg : Gl X x) (hm : X.mg x = some (.ref f)) (hk : PySem.W.keepIn X.K (.ref f) = true) (hb : Binds X.K fd ps [])
    (hx : ∀ (pins : List (Addr × Obj)) (σ : L2.St) (H : Hp) (s : Shared) (e : Value) (s' : Shared), Inv X pins σ H s → CX X.stack H s (fun cls d H' => W cls d σ H') e s' → X.xe e s') (ha : PA X (e :: es) t) (hdb : (x == ("__debug__" : Str)) = false)
    (he : starEach (e :: es) X.env = (false, eval e X.env) :: starEach es X.env) (hes : (backTo pos (starEach es X.env)).any (·.1) = false) :
    PE X (.Call (.Name x p) (e :: es) [] pos) (fun σ H Q => t σ H fun vs H1 => HotA X.A H1 ∧ sp vs H1 Q fun cls d H' => W cls d σ H') := by
  refine ⟨fun pins s σ H Q I h => wpAny_Call_Name_kw (ld_glob I hg hm ?_ hdb)⟩
  refine PySem.W.callWith_K (h₀ := X.base) I.ok.mod.kin hk (thn (ha.run pos pins s σ H _ I h) fun us s1 ⟨vs, H1, I1, r, hot, q⟩ => ⟨I1.kIn, ?_⟩) he hes
  have hl : (us ++ []).length = ps.length := by rw [List.append_nil, ← r.length]; exact F.len _ _ _ _ q
  have bd := hb s1 us I1.kIn hl
  rw [List.append_nil] at bd
  refine wpAny_call (codeAny_mono (F.run X.A X.stack s1 H1 ⟨us, []⟩ us vs Q _ hr hot I1.env0 bd r q) fun r s' hq => ?_)
  cases r with
  | error e => exact hx pins σ H1 s1 e s' I1 hq
  | ok fl =>
    cases fl with
    | ret u => exact I1.after hq
    | _ => exact False.elim hq
end Fw

/-! Fw: the soundness of expressions, construct by construct -/
namespace Fw
open PySem PySem.Spec PyProof.Rows L2

/-- what a def promises: g its meaning -/
def spF (T : List Addr) (xc : Nat → Value) (K : PySem.W.Frag) (g : List D → COut) (np : Nat) (io : Bool) : Sp := fun vs H Q E => vs.length = np ∧ (∀ p ∈ T, GxR.TabG H p) ∧
  if io = true then ∃ (a : Addr) (d0 : D) (ds : List D) (ws : List V), vs = .ref a :: ws ∧ OwD K H d0 (.ref a) ∧ Fzs K H ds ws ∧ match g (d0 :: ds) with
    | .ret v d1 => ∀ z H', (∀ p ∈ T, GxR.TabG H' p) → (∀ b o, H b = some o → (∀ ps, o ≠ .tbl ps) → b ≠ a → H' b = some o) → (∀ b, H b ≠ none → H' b ≠ none) → OwD K H' d1 (.ref a) → RvV K H H' v z → Q z H'
    | .ex c d1 => ∀ H', (∀ p ∈ T, GxR.TabG H' p) → (∀ b o, H b = some o → (∀ ps, o ≠ .tbl ps) → b ≠ a → H' b = some o) → (∀ b, H b ≠ none → H' b ≠ none) → OwD K H' d1 (.ref a) → E (xc c) none H'
    | .no => False
  else ∃ ds, Fzs K H ds vs ∧ match g ds with
    | .ret v _ => ∀ z H', (∀ p ∈ T, GxR.TabG H' p) → (∀ b o, H b = some o → (∀ ps, o ≠ .tbl ps) → H' b = some o) → (∀ b, H b ≠ none → H' b ≠ none) → RvV K H H' v z → Q z H'
    | .ex c _ => ∀ H', (∀ p ∈ T, GxR.TabG H' p) → (∀ b o, H b = some o → (∀ ps, o ≠ .tbl ps) → H' b = some o) → (∀ b, H b ≠ none → H' b ≠ none) → E (xc c) none H'
    | .no => False
def biNames : List Str := ["len", "abs", "min", "max", "sum", "tuple", "list", "sorted", "int", "all", "any", "range", "enumerate", "zip", "reversed", "isinstance", "bool", "str", "dict"]
/-- a class of exceptions of one's own, as the top has it -/
structure ExcC0 (K : PySem.W.Frag) (mg : Str → Option Value) (nm : Str) (cv : Value) : Prop where
  ex : ∃ C, cv = .ref C ∧ mg nm = some (.ref C) ∧ ExcOk K nm C ∧ PySem.W.excIn K C PySem.HandSPX.veTail "ValueError.__new__" = true ∧ PySem.W.keepIn K (.ref C) = true ∧ PySem.W.subIn K (.ref C) (.type "BaseException") = some true ∧ PySem.W.typeIn K (.ref C) = some (.type "type")
structure Ck (CX : CXT) (X : Cx) (c : Cc) (Y : Yc) (G : Nat → Option D) (f : CE) (n : Nat) : Prop where
  N : X.N = c.N
  nd : X.N.Nodup
  sc : X.env.scope = c.sc
  calm : c.ca = true → X.calm = true
  hot : c.hb = true → HotT X
  hbca : c.hb = true → c.ca = false
  hchb : c.hc = true → c.hb = true
  roomH : c.hc = true → L2H.RoomH n X.A
  un : X.A.units + 200 < cLine
  room : c.ca = true → Room (n + if c.gd = true then 1 else 0) X.A
  bi : ∀ x ∈ biNames, X.mg x = none
  gcd : c.gcd = true → X.mg "gcd" = some (.builtin "math.gcd")
  glo : ∀ k x d, ixOf x c.glo = some k → G k = some d → ∃ u v, X.mg x = some u ∧ RelV v u ∧ ∀ H, Fz X.K H d v
  fn : c.ca = true → ∀ x io k, c.hot.contains x = false → c.defs.lookup x = some io → ixOf x (c.defs.map Prod.fst) = some k → ∃ fa fd ps np, X.mg x = some (.ref fa) ∧ PySem.W.keepIn X.K (.ref fa) = true ∧ Binds X.K fd ps [] ∧ (∀ ds, f k ds ≠ .no → ds.length = np) ∧ FnOk X.prog X.w X.K X.mg X.base CX n fa fd ps (spF Y.T Y.xc X.K (f k) np io)
  fnH : ∀ x k, c.hot.contains x = true → c.defs.lookup x = some false → ixOf x (c.defs.map Prod.fst) = some k → ∃ fa fd ps np, X.mg x = some (.ref fa) ∧ PySem.W.keepIn X.K (.ref fa) = true ∧ Binds X.K fd ps [] ∧ (∀ ds, f k ds ≠ .no → ds.length = np) ∧ FnX X.prog X.w X.K X.mg X.base CX n fa fd ps (spF Y.T Y.xc X.K (f k) np false)
  pass : ∀ (pins : List (Addr × Obj)) (σ : L2.St) (H : Hp) (s : Shared) (e : Value) (s' : Shared), Inv X pins σ H s → CX X.stack H s (fun cls d H' => Y.W cls d σ H') e s' → X.xe e s'
  cxf : ∀ (l : List PySem.Env) (H : Hp) (s : Shared) (e : Value) (s' : Shared), ¬ CX l H s (fun _ _ _ => False) e s'
  code : c.gd = true → ∃ cA P, P ∈ Y.T ∧ GxR.TabB X.base X.mg cA P ∧ X.env.code = .ref cA
  st : ∀ x, c.st.contains x = true → c.sc.names.lookup x = some .local ∨ (c.sc.names.lookup x = some .cell ∧ X.fn x = true)
  glo0 : ∀ x ∈ c.glo, x ≠ "__debug__" ∧ x ≠ "__name__"
  def0 : ∀ x ∈ c.defs.map Prod.fst, x ≠ "__debug__" ∧ x ≠ "__name__"
  N0 : ∀ x ∈ c.N, x ≠ "__debug__" ∧ x ≠ "__classdict__"
  xnd : (c.xT.map Prod.fst).Nodup
  xcl : ∀ x k, ixOf x (c.xT.map Prod.fst) = some k → ExcC0 X.K X.mg x (Y.xc k) ∧ x ≠ "__debug__" ∧ x ≠ "__name__"
  xsub : ∀ x y anc C D, c.xT.lookup x = some anc → y ∈ c.xT.map Prod.fst → X.mg x = some (.ref C) → X.mg y = some (.ref D) → PySem.W.kitOne X.K (.ref C) (.ref D) = some (anc.contains y) ∧ PySem.W.exmOne X.K (.ref C) (.ref D) = some (anc.contains y)
theorem ixOf_get {α : Type} [BEq α] [LawfulBEq α] {x : α} : ∀ {l : List α} {i : Nat}, ixOf x l = some i → l[i]? = some x
  | [], _, h => by cases h
  | y :: r, i, h => by
    unfold ixOf at h
    split at h
    · rename_i e
      cases h
      rw [LawfulBEq.eq_of_beq e]; rfl
    · obtain ⟨j, h1, rfl⟩ := Option.map_eq_some_iff.mp h
      show r[j]? = some x
      exact ixOf_get h1
theorem ixOf_mem {α : Type} [BEq α] [LawfulBEq α] {x : α} {l : List α} {i : Nat} (h : ixOf x l = some i) : x ∈ l := List.mem_of_getElem? (ixOf_get h)
theorem ixOf_of_mem {α : Type} [BEq α] [LawfulBEq α] {x : α} : ∀ {l : List α}, x ∈ l → ∃ k, ixOf x l = some k
  | y :: r, h => by
    unfold ixOf
    by_cases e : (y == x) = true
    · exact ⟨0, if_pos e⟩
    · rw [if_neg e]
      have : x ∈ r := (List.mem_cons.mp h).resolve_left fun z => e (by rw [z]; exact beq_self_eq_true y)
      obtain ⟨k, hk⟩ := ixOf_of_mem this
      exact ⟨k + 1, by rw [hk]; rfl⟩
theorem ixOf_nodup {α : Type} [BEq α] [LawfulBEq α] {x : α} : ∀ {l : List α} {k : Nat}, l.Nodup → l[k]? = some x → ixOf x l = some k
  | [], _, _, h => by simp at h
  | y :: r, 0, _, h => by
    have : y = x := by simpa using h
    subst this
    exact if_pos (beq_self_eq_true _)
  | y :: r, k + 1, nd, h => by
    rw [List.nodup_cons] at nd
    have h : r[k]? = some x := by simpa using h
    have ne : ¬ (y == x) = true := fun e => nd.1 (by rw [LawfulBEq.eq_of_beq e]; exact List.mem_of_getElem? h)
    unfold ixOf
    rw [if_neg ne, ixOf_nodup nd.2 h]
    rfl
theorem lookup_nodup {α : Type} : ∀ {l : List (Str × α)} {y : Str × α}, (l.map Prod.fst).Nodup → y ∈ l → l.lookup y.1 = some y.2
  | z :: r, y, nd, h => by
    obtain ⟨a, b⟩ := z
    rw [List.map_cons, List.nodup_cons] at nd
    rw [List.lookup_cons]
    rcases List.mem_cons.mp h with rfl | h
    · rw [beq_self_eq_true]
    · have ne : (y.1 == a) = false := beq_eq_false_iff_ne.mpr fun e => nd.1 (e ▸ List.mem_map.mpr ⟨y, h, rfl⟩)
      rw [ne]
      exact lookup_nodup nd.2 h
/-- no star, no set display -/
def plainE : Expr → Bool
  | .Starred .. => false
  | .Set .. => false
  | .Slice .. => false
  | _ => true
theorem plainE_star {e : Expr} (h : plainE e = true) (es : List Expr) (env : PySem.Env) : starEach (e :: es) env = (false, eval e env) :: starEach es env := by
  cases e <;> first | rfl | cases h
theorem plainE_ix {e : Expr} (h : plainE e = true) : PlainIx e := by
  intro o i
  cases e <;> first | rfl | cases h
theorem plainE_mark {e : Expr} (h : plainE e = true) (op : CmpOp) : behindInMarks op e = false := by
  cases e <;> first | rfl | cases h
theorem plainE_fold {e : Expr} (h : plainE e = true) (env : PySem.Env) : ∀ x, foldedSetIterable e env x = pure x := by
  intro x
  cases e <;> first | rfl | cases h
theorem plainE_any {es : List Expr} (h : es.all plainE = true) (pos : Pos) (env : PySem.Env) : (backTo pos (starEach es env)).any (·.1) = false := by
  cases es with
  | nil => rfl
  | cons e es =>
    have key : ∀ es : List Expr, es.all plainE = true → (starEach es env).any (·.1) = false := by
      intro es
      induction es with
      | nil => intro _; rfl
      | cons e es ih =>
        intro h
        rw [List.all_cons, Bool.and_eq_true] at h
        rw [plainE_star h.1, List.any_cons, ih h.2]; rfl
    have := key (e :: es) h
    generalize starEach (e :: es) env = l at this
    cases l with
    | nil => rfl
    | cons a l =>
      have e2 : (backTo pos (a :: l)).any (·.1) = (a :: l).any (·.1) := by
        unfold backTo
        simp only [List.any_cons, List.any_map]
        rfl
      rw [e2]; exact this
/-- a test is its value's truth -/
def testE : Expr → Bool
  | .UnaryOp .Not _ _ => false
  | .BoolOp .. => false
  | .IfExp .. => false
  | .Compare .. => false
  | _ => true
theorem testE_ok {e : Expr} (h : testE e = true) (env : PySem.Env) : ∀ whole, isTrue e env whole = (do let v ← whole; standAt e.pos; holding [v] (PySem.truthy v)) := by
  intro whole
  cases e <;> first | rfl | (cases h; done) | skip
  rename_i op _ _
  cases op <;> first | rfl | cases h
theorem Ck.room0 {CX : CXT} {X : Cx} {c : Cc} {Y : Yc} {G : Nat → Option D} {f : CE} {n : Nat} (C : Ck CX X c Y G f n) (h : c.ca = true) : Room n X.A := (C.room h).mono (Nat.le_add_right _ _)
theorem Ck.units {CX : CXT} {X : Cx} {c : Cc} {Y : Yc} {G : Nat → Option D} {f : CE} {n : Nat} (C : Ck CX X c Y G f n) : X.A.units + 64 < cLine := by have := C.un; omega
section
variable {CX : CXT} {X : Cx} {c : Cc} {Y : Yc} {G : Nat → Option D} {f : CE} {n : Nat} {σ : St} {H : Hp} {Q : VK}
theorem slot_vis {x : Str} {i : Nat} (C : Ck CX X c Y G f n) (h : slotOf c x = some i) : X.N[i]? = some x ∧ Vis X.env.scope x ∧ (x == ("__debug__" : Str)) = false ∧ (x == ("__classdict__" : Str)) = false := by
  have key : ∀ j, ixOf x c.N = some j → (x == ("__debug__" : Str)) = false ∧ (x == ("__classdict__" : Str)) = false := fun j e => by
    obtain ⟨h1, h2⟩ := C.N0 x (ixOf_mem e)
    exact ⟨beq_eq_false_iff_ne.mpr h1, beq_eq_false_iff_ne.mpr h2⟩
  unfold slotOf at h
  rw [C.N, C.sc]
  split at h
  · rename_i e; exact ⟨ixOf_get h, .inl e, key i h⟩
  · rename_i e; exact ⟨ixOf_get h, .inr (.inl e), key i h⟩
  · rename_i e; exact ⟨ixOf_get h, .inr (.inr e), key i h⟩
  · cases h
theorem gl_of {x : Str} (C : Ck CX X c Y G f n) (h : isGl c x = true) : Gl X x := by
  unfold isGl at h
  show X.env.scope.names.lookup x = _
  rw [C.sc]
  split at h
  · assumption
  · cases h

/-! ### one, two operands -/
theorem Wd.bd' {α β : Type} {m : M α} {g : α → M β} {r : Env} {j : Nat → Env → Prop} {k : β → Env → Prop} (h : Wd (m r) j fun a r' => Wd (g a r') j k) : Wd (Fw.bd m g r) j k := by
  unfold Fw.bd
  cases e : m r with
  | ok a r' => rw [e] at h; exact h
  | ex c r' => rw [e] at h; exact h
  | no => rw [e] at h; exact h.elim
theorem Wd.rd1 {T : List Addr} {K : PySem.W.Frag} {o : Op} {v : V} {r' : Env} {H0 H' : Hp} {j : Nat → Env → Prop} {k : D → Env → Prop} (g : Gd K T r' σ H') (h : OpV K σ H0 H' o v) (w : Wd (rd o r') j k) : ∃ d, Rdv K H' d v ∧ rd o r' = .ok d r' ∧ k d r' := by
  cases e : rd o r' with
  | ok d r1 =>
    rw [e] at w
    obtain ⟨rfl, h1⟩ := g.rd h e
    exact ⟨d, h1, rfl, w⟩
  | ex c r1 =>
    cases o with
    | ref i =>
      have e : Fw.opt (dataAt r' i) r' = Res.ex c r1 := e
      unfold Fw.opt at e
      split at e <;> cases e
    | val d => cases e
    | new d => cases e
  | no => rw [e] at w; exact w.elim
/-- an end: the answer of a rule by values -/
theorem tE_fin {r : Env} {o : Option Rv} {H0 : Hp} {r0 : Env} {j : Nat → Env → Prop} (p : Post X.K Y.T r0 σ H0 r H) (w : Wd (bd (opt o) (fun v => ret v.op) r) j fun o r' => ∀ v H', Post X.K Y.T r0 σ H0 r' H' → OpV X.K σ H0 H' o v → Q v H') :
    ∃ v, o = some v ∧ Gives X.K H v Q := by
  obtain ⟨v, e, q⟩ := w.bd.opt
  refine ⟨v, e, fun z H' s hz => ?_⟩
  have q : ∀ v' H', Post X.K Y.T r0 σ H0 r H' → OpV X.K σ H0 H' v.op v' → Q v' H' := q
  refine q z H' (p.trans (.same p.gd s)) ?_
  cases v with
  | val d => exact hz
  | new d => exact ⟨hz.1, fun a e => by
      cases w : H0 a with
      | none => rfl
      | some o => exact absurd (hz.2 a e) (p.tr a (by rw [w]; simp))⟩
theorem tE_finB {r : Env} {o : Option Bool} {H0 : Hp} {r0 : Env} {j : Nat → Env → Prop} (p : Post X.K Y.T r0 σ H0 r H) (w : Wd (bd (opt o) (fun b => ret (.val (.bool b))) r) j fun o r' => ∀ v H', Post X.K Y.T r0 σ H0 r' H' → OpV X.K σ H0 H' o v → Q v H') :
    ∃ b, o = some b ∧ Q (.bl b) H := by
  obtain ⟨b, e, q⟩ := w.bd.opt
  have q : ∀ v' H', Post X.K Y.T r0 σ H0 r H' → OpV X.K σ H0 H' (.val (.bool b)) v' → Q v' H' := q
  exact ⟨b, e, q (.bl b) H p (by show Fz X.K H (.bool b) (.bl b); simp [Fz])⟩
theorem tE_one {ma : M Op} {k : D → M Op} (h : tE X.K Y (bd ma fun x => bd (rd x) fun d => k d) σ H Q) :
    tE X.K Y ma σ H fun x H1 => ∃ r r1 d, Gd X.K Y.T r σ H ∧ Post X.K Y.T r σ H r1 H1 ∧ Rdv X.K H1 d x ∧ Wd (k d r1) (exK X.K Y r σ H) fun o r' => ∀ v H', Post X.K Y.T r σ H r' H' → OpV X.K σ H H' o v → Q v H' := by
  obtain ⟨r, g, w⟩ := h
  refine ⟨r, g, w.bd.mono (fun _ _ z => z) fun o r1 e q x H1 p1 o1 => ?_⟩
  obtain ⟨d, h1, _, q⟩ := q.bd.rd1 p1.gd o1
  exact ⟨r, r1, d, g, p1, h1, q⟩
theorem tE_two {ma mb : M Op} {k : D → D → M Op} (h : tE X.K Y (bd ma fun x => bd mb fun y => bd (rd x) fun d => bd (rd y) fun e => k d e) σ H Q) :
    tE X.K Y ma σ H fun x H1 => tE X.K Y mb σ H1 fun y H2 => ∃ r r2 d e, Gd X.K Y.T r σ H ∧ Post X.K Y.T r σ H r2 H2 ∧ Rdv X.K H2 d x ∧ Rdv X.K H2 e y ∧ Wd (k d e r2) (exK X.K Y r σ H) fun o r' => ∀ v H', Post X.K Y.T r σ H r' H' → OpV X.K σ H H' o v → Q v H' := by
  obtain ⟨r, g, w⟩ := h
  refine ⟨r, g, w.bd.mono (fun _ _ z => z) fun o r1 e q x H1 p1 o1 => ?_⟩
  refine ⟨r1, p1.gd, q.bd.mono (exK.trans p1) fun o2 r2 e q y H2 p2 o2' => ?_⟩
  obtain ⟨d, h1, _, q⟩ := q.bd.rd1 p2.gd (o1.carry g p1 p2)
  obtain ⟨d2, h2, _, q⟩ := q.bd.rd1 p2.gd o2'
  exact ⟨r, r2, d, d2, g, p1.trans p2, h1, h2, q⟩
theorem tE_val {d : D} {v : V} (hv : ∀ H, Fz X.K H d v) (w : tE X.K Y (ret (.val d)) σ H Q) : Q v H := by
  obtain ⟨r, g, w⟩ := w
  exact w v H (.refl g) (hv H)

/-! ### names, constants -/
theorem snd_var {x : Str} {pos : Pos} {i : Nat} (C : Ck CX X c Y G f n) (h : slotOf c x = some i) : PE X (.Name x pos) (tE X.K Y (ev G f (.var i))) := by
  obtain ⟨h1, h2, hd, hcd⟩ := slot_vis C h
  refine (pe_var h1 h2 hd hcd).to fun σ H Q w => ?_
  obtain ⟨r, g, w⟩ := w
  simp only [ev] at w
  cases q : r[i]? with
  | none => rw [q] at w; exact w.elim
  | some z =>
    rw [q] at w
    cases z with
    | no => exact w.elim
    | fz d =>
      obtain ⟨v, e1, e2⟩ := g.fz i d q
      exact ⟨v, e1, w v H (.refl g) e2⟩
    | ow d =>
      obtain ⟨v, e1, e2⟩ := g.ow i d q
      exact ⟨v, e1, w v H (.refl g) e1⟩
theorem snd_int {i : Int} {j pos} : PE X (.Constant (.int i) j pos) (tE X.K Y (ev G f (.int i))) := pe_int.to fun σ H Q w => tE_val (d := .int i) (fun H => by simp [Fz]) (by simp only [ev] at w; exact w)
theorem snd_bl {i : Bool} {j pos} : PE X (.Constant (.bool i) j pos) (tE X.K Y (ev G f (.bl i))) := pe_bl.to fun σ H Q w => tE_val (d := .bool i) (fun H => by simp [Fz]) (by simp only [ev] at w; exact w)
theorem snd_non {j pos} : PE X (.Constant .none j pos) (tE X.K Y (ev G f .non)) := pe_non.to fun σ H Q w => tE_val (d := .none) (fun H => by simp [Fz]) (by simp only [ev] at w; exact w)
theorem snd_str {x : Str} {j pos} : PE X (.Constant (.str x) j pos) (tE X.K Y (ev G f (.str x))) := pe_str.to fun σ H Q w => tE_val (d := .str x) (fun H => by simp [Fz]) (by simp only [ev] at w; exact w)
theorem snd_glob {x : Str} {pos : Pos} {k : Nat} (C : Ck CX X c Y G f n) (hg : isGl c x = true) (h : ixOf x c.glo = some k) : PE X (.Name x pos) (tE X.K Y (ev G f (.glob k))) := by
  refine ⟨fun pins s σ H Q I w => ?_⟩
  obtain ⟨r, g, w⟩ := w
  simp only [ev] at w
  obtain ⟨a, e, w⟩ := w.opt
  obtain ⟨d, e1, rfl⟩ := Option.map_eq_some_iff.mp e
  obtain ⟨u, v, hu, hr, hf⟩ := C.glo k x d h e1
  exact (pe_glob (gl_of C hg) hu hr (beq_eq_false_iff_ne.mpr (C.glo0 x (ixOf_mem h)).1)).run pins s σ H Q I (w v H (.refl g) (hf H))

/-! ### operators -/
theorem snd_bin {a b : Expr} {o : Bop} {pos : Pos} {ea eb : E} (ha : PE X a (tE X.K Y (ev G f ea))) (hb : PE X b (tE X.K Y (ev G f eb))) : PE X (.BinOp a (opr o) b pos) (tE X.K Y (ev G f (.bin o ea eb))) := by
  refine (pe_op (or_bin o) ha hb).to fun σ H Q w => ?_
  simp only [ev] at w
  obtain ⟨r, g, w⟩ := tE_two w
  refine ⟨r, g, w.mono (fun _ _ z => z) fun o r1 e q x H1 p1 o1 => ?_⟩
  obtain ⟨r', g', w'⟩ := q x H1 p1 o1
  refine ⟨r', g', w'.mono (fun _ _ z => z) fun o r1 e q y H2 p2 o2 => ?_⟩
  obtain ⟨r, r2, d, e, g, p, h1, h2, w⟩ := q y H2 p2 o2
  obtain ⟨v, e1, e2⟩ := tE_fin p w
  exact ⟨d, e, v, h1, h2, e1, e2⟩
abbrev rCmp (K : PySem.W.Frag) (o : Cop) : R2 := fun x y H Q => ∃ d e b, Rdv K H d x ∧ Rdv K H e y ∧ cmpD o d e = some b ∧ Q (.bl b) H
theorem cmp_to {o : Cop} {ea eb : E} {σ : St} {H : Hp} {Q : VK} (w : tE X.K Y (ev G f (.cmp o ea eb)) σ H Q) : tOp (rCmp X.K o) (tE X.K Y (ev G f ea)) (tE X.K Y (ev G f eb)) σ H Q := by
  simp only [ev] at w
  obtain ⟨r, g, w⟩ := tE_two w
  refine ⟨r, g, w.mono (fun _ _ z => z) fun o r1 e q x H1 p1 o1 => ?_⟩
  obtain ⟨r', g', w'⟩ := q x H1 p1 o1
  refine ⟨r', g', w'.mono (fun _ _ z => z) fun o r1 e q y H2 p2 o2 => ?_⟩
  obtain ⟨r, r2, d, e, g, p, h1, h2, w⟩ := q y H2 p2 o2
  obtain ⟨v, e1, e2⟩ := tE_finB p w
  exact ⟨d, e, v, h1, h2, e1, e2⟩
theorem snd_cmp {a b : Expr} {o : Cop} {pos : Pos} {ea eb : E} (C : Ck CX X c Y G f n) (ha : PE X a (tE X.K Y (ev G f ea))) (hb : PE X b (tE X.K Y (ev G f eb))) (hm : plainE b = true) : PE X (.Compare a [cpr o] [b] pos) (tE X.K Y (ev G f (.cmp o ea eb))) :=
  (pe_cmpR (or_cmp C.units o) ha hb (plainE_mark hm _)).to fun σ H Q w => cmp_to w
/-- a test of a bool -/
theorem tT_bool {m : M Op} {σ : St} {H : Hp} {Q : Bool → Hp → Prop} (hm : ∀ r o r', m r = .ok o r' → ∃ b, o = .val (.bool b)) (w : tT X.K Y (tsM m) σ H Q) : tE X.K Y m σ H fun x H' => ∃ k, x = .bl k ∧ Q k H' := by
  obtain ⟨r, g, w⟩ := w
  refine ⟨r, g, w.bd.mono (fun _ _ z => z) fun o r1 e q v H' p hv => ?_⟩
  obtain ⟨b, rfl⟩ := hm r o r1 e
  have hv : Fz X.K H' (.bool b) v := hv
  simp only [Fz] at hv
  exact ⟨b, hv, q H' p⟩
theorem ok_bd {α β : Type} {m : M α} {g : α → M β} {r r' : Env} {b : β} (h : bd m g r = .ok b r') : ∃ a r1, m r = .ok a r1 ∧ g a r1 = .ok b r' := by
  unfold bd at h
  cases e : m r with
  | ok a r1 => rw [e] at h; exact ⟨a, r1, rfl, h⟩
  | ex c r1 => rw [e] at h; cases h
  | no => rw [e] at h; cases h
theorem cmp_isB {o : Cop} {ea eb : E} (r : Env) (x : Op) (r' : Env) (h : ev G f (.cmp o ea eb) r = .ok x r') : ∃ b, x = .val (.bool b) := by
  simp only [ev] at h
  obtain ⟨_, _, _, h⟩ := ok_bd h
  obtain ⟨_, _, _, h⟩ := ok_bd h
  obtain ⟨_, _, _, h⟩ := ok_bd h
  obtain ⟨_, _, _, h⟩ := ok_bd h
  obtain ⟨b, _, _, h⟩ := ok_bd h
  cases h
  exact ⟨b, rfl⟩
theorem sndt_cmp {a b : Expr} {o : Cop} {pos : Pos} {ea eb : E} (C : Ck CX X c Y G f n) (ha : PE X a (tE X.K Y (ev G f ea))) (hb : PE X b (tE X.K Y (ev G f eb))) (hm : plainE b = true) : PT X (.Compare a [cpr o] [b] pos) (tT X.K Y (tsM (ev G f (.cmp o ea eb)))) :=
  (pt_cmpR (or_cmp C.units o) ha hb (plainE_mark hm _)).to fun σ H Q w => cmp_to (tT_bool cmp_isB w)
theorem chain_to {o p : Cop} {ea eb ec : E} {σ : St} {H : Hp} {Q : VK} (w : tE X.K Y (ev G f (.chain o p ea eb ec)) σ H Q) : tChain (rCmp X.K o) (rCmp X.K p) (tE X.K Y (ev G f ea)) (tE X.K Y (ev G f eb)) (tE X.K Y (ev G f ec)) σ H Q := by
  simp only [ev] at w
  obtain ⟨r, g, w⟩ := w
  refine ⟨r, g, w.bd.mono (fun _ _ z => z) fun ox r1 e q x H1 p1 o1 => ?_⟩
  refine ⟨r1, p1.gd, q.bd.mono (exK.trans p1) fun oy r2 e q y H2 p2 o2 => ?_⟩
  obtain ⟨d, h1, _, q⟩ := q.bd.rd1 p2.gd (o1.carry g p1 p2)
  obtain ⟨d2, h2, _, q⟩ := q.bd.rd1 p2.gd o2
  obtain ⟨t, e1, q⟩ := q.bd.opt
  refine ⟨d, d2, t, h1, h2, e1, t, rfl, ?_⟩
  cases t with
  | false =>
    simp only [Bool.false_eq_true, if_false] at q ⊢
    have q : ∀ v' H', Post X.K Y.T r σ H r2 H' → OpV X.K σ H H' (.val (.bool false)) v' → Q v' H' := q
    exact q (.bl false) H2 (p1.trans p2) (by show Fz X.K H2 (.bool false) (.bl false); simp [Fz])
  | true =>
    simp only [if_true] at q ⊢
    refine ⟨r2, p2.gd, q.bd.mono (exK.trans (p1.trans p2)) fun oz r3 e q z H3 p3 o3 => ?_⟩
    obtain ⟨d3, h3, _, q⟩ := q.bd.rd1 p3.gd (o2.carry p1.gd p2 p3)
    obtain ⟨d4, h4, _, q⟩ := q.bd.rd1 p3.gd o3
    obtain ⟨b, e1, q⟩ := tE_finB ((p1.trans p2).trans p3) q
    exact ⟨d3, d4, b, h3, h4, e1, q⟩
theorem plainE_marks {b c : Expr} (h : plainE c = true) (o p : CmpOp) : lastMarks [o, p] [b, c] = false := plainE_mark h p
theorem snd_chain {a b d : Expr} {o p : Cop} {pos : Pos} {ea eb ed : E} (C : Ck CX X c Y G f n) (ha : PE X a (tE X.K Y (ev G f ea))) (hb : PE X b (tE X.K Y (ev G f eb))) (hd : PE X d (tE X.K Y (ev G f ed))) (hm : plainE d = true) :
    PE X (.Compare a [cpr o, cpr p] [b, d] pos) (tE X.K Y (ev G f (.chain o p ea eb ed))) :=
  (pe_chain (or_cmp C.units o) (or_cmp C.units p) ha hb hd (plainE_marks hm _ _)).to fun σ H Q w => chain_to w
theorem chain_isB {o p : Cop} {ea eb ec : E} (r : Env) (x : Op) (r' : Env) (h : ev G f (.chain o p ea eb ec) r = .ok x r') : ∃ b, x = .val (.bool b) := by
  simp only [ev] at h
  obtain ⟨_, _, _, h⟩ := ok_bd h
  obtain ⟨_, _, _, h⟩ := ok_bd h
  obtain ⟨_, _, _, h⟩ := ok_bd h
  obtain ⟨_, _, _, h⟩ := ok_bd h
  obtain ⟨t, _, _, h⟩ := ok_bd h
  cases t with
  | false => cases h; exact ⟨_, rfl⟩
  | true =>
    simp only [if_true] at h
    obtain ⟨_, _, _, h⟩ := ok_bd h
    obtain ⟨_, _, _, h⟩ := ok_bd h
    obtain ⟨_, _, _, h⟩ := ok_bd h
    obtain ⟨b, _, _, h⟩ := ok_bd h
    cases h
    exact ⟨b, rfl⟩
theorem sndt_chain {a b d : Expr} {o p : Cop} {pos : Pos} {ea eb ed : E} (C : Ck CX X c Y G f n) (ha : PE X a (tE X.K Y (ev G f ea))) (hb : PE X b (tE X.K Y (ev G f eb))) (hd : PE X d (tE X.K Y (ev G f ed))) (hm : plainE d = true) :
    PT X (.Compare a [cpr o, cpr p] [b, d] pos) (tT X.K Y (tsM (ev G f (.chain o p ea eb ed)))) :=
  (pt_chain (or_cmp C.units o) (or_cmp C.units p) ha hb hd (plainE_marks hm _ _)).to fun σ H Q w => chain_to (tT_bool chain_isB w)
theorem un_neg' : UnR X (unaryOp .USub) (fun x H Q => ∃ i : Int, Rdv X.K H (.int i) x ∧ Q (.int (-i)) H) := by
  intro pins s σ H x v Q I rx h
  obtain ⟨i, h1, q⟩ := h
  exact un_neg pins s σ H x v Q I rx ⟨i, h1.int, q⟩
theorem snd_neg {a : Expr} {pos : Pos} {ea : E} (ha : PE X a (tE X.K Y (ev G f ea))) : PE X (.UnaryOp .USub a pos) (tE X.K Y (ev G f (.neg ea))) := by
  refine (pe_un un_neg' ha).to fun σ H Q w => ?_
  simp only [ev] at w
  obtain ⟨r, g, w⟩ := tE_one w
  refine ⟨r, g, w.mono (fun _ _ z => z) fun o r1 e q x H1 p1 o1 => ?_⟩
  obtain ⟨r, r2, d, g, p, h1, w⟩ := q x H1 p1 o1
  cases d with
  | int i => exact ⟨i, h1, w (.int (-i)) H1 p (by show Fz X.K H1 (.int (-i)) _; simp [Fz])⟩
  | _ => exact w.elim
end
end Fw

/-! Fw: truth, displays, subscripts -/
namespace Fw
open PySem PySem.Spec PyProof.Rows L2

theorem Wd.rd {o : Op} {r : Env} {j : Nat → Env → Prop} {k : D → Env → Prop} (w : Wd (Fw.rd o r) j k) : ∃ d, Fw.rd o r = .ok d r ∧ k d r := by
  cases o with
  | ref i =>
    have e : Fw.rd (.ref i) r = Fw.opt (dataAt r i) r := rfl
    rw [e] at w ⊢
    obtain ⟨d, h1, h2⟩ := w.opt
    rw [h1]
    exact ⟨d, rfl, h2⟩
  | val d => exact ⟨d, rfl, w⟩
  | new d => exact ⟨d, rfl, w⟩
theorem Wd.esc {o : Op} {r : Env} {j : Nat → Env → Prop} {k : D → Env → Prop} (w : Wd (Fw.esc o r) j k) : ∃ d r', Fw.esc o r = .ok d r' ∧ k d r' := by
  cases o with
  | ref i =>
    have e : Fw.esc (.ref i) r = Fw.opt (dataAt r i) (freeze i r) := rfl
    rw [e] at w ⊢
    obtain ⟨d, h1, h2⟩ := w.opt
    rw [h1]
    exact ⟨d, _, rfl, h2⟩
  | val d => exact ⟨d, r, rfl, w⟩
  | new d => exact ⟨d, r, rfl, w⟩
theorem Wd.escAll : ∀ {os : List Op} {r : Env} {j : Nat → Env → Prop} {k : List D → Env → Prop}, Wd (Fw.escAll os r) j k → ∃ ds r', Fw.escAll os r = .ok ds r' ∧ k ds r'
  | [], r, j, k, w => ⟨[], r, rfl, w⟩
  | o :: os, r, j, k, w => by
    have w : Wd (Fw.bd (Fw.esc o) (fun d => Fw.bd (Fw.escAll os) fun ds => ret (d :: ds)) r) j k := w
    obtain ⟨d, r1, e1, w⟩ := w.bd.esc
    obtain ⟨ds, r2, e2, w⟩ := Wd.escAll w.bd
    refine ⟨d :: ds, r2, ?_, w⟩
    show Fw.bd (Fw.esc o) (fun d => Fw.bd (Fw.escAll os) fun ds => ret (d :: ds)) r = _
    unfold Fw.bd
    rw [e1]
    show (Fw.escAll os r1).bd (fun ds => ret (d :: ds)) = _
    rw [e2]; rfl
theorem Wd.rdAll : ∀ {os : List Op} {r : Env} {j : Nat → Env → Prop} {k : List D → Env → Prop}, Wd (Fw.rdAll os r) j k → ∃ ds, Fw.rdAll os r = .ok ds r ∧ k ds r
  | [], r, j, k, w => ⟨[], rfl, w⟩
  | o :: os, r, j, k, w => by
    have w : Wd (Fw.bd (Fw.rd o) (fun d => Fw.bd (Fw.rdAll os) fun ds => ret (d :: ds)) r) j k := w
    obtain ⟨d, e1, w⟩ := w.bd.rd
    obtain ⟨ds, e2, w⟩ := Wd.rdAll w.bd
    refine ⟨d :: ds, ?_, w⟩
    show Fw.bd (Fw.rd o) (fun d => Fw.bd (Fw.rdAll os) fun ds => ret (d :: ds)) r = _
    unfold Fw.bd
    rw [e1]
    show (Fw.rdAll os r).bd (fun ds => ret (d :: ds)) = _
    rw [e2]; rfl
/-- its truth -/
theorem Rdv.tru {K : PySem.W.Frag} {H : Hp} {d : D} {x : V} {b : Bool} (h : Rdv K H d x) (e : Fw.truthy d = some b) : TruV K x H b := by
  cases d with
  | none => rw [h.non]; cases e; exact rfl
  | bool c => rw [h.bool]; cases e; exact rfl
  | int i => rw [h.int]; cases e; exact rfl
  | str y =>
    rw [h.str]
    simp only [Fw.truthy] at e
    split at e
    · rename_i hz
      cases e
      refine ⟨hz, ?_⟩
      rw [Bool.eq_iff_iff]
      simp
    · cases e
  | list xs =>
    obtain ⟨a, ys, rfl, h1, h2⟩ := h.list
    cases e
    refine .inl ⟨ys, h1, ?_⟩
    have := h2.length
    cases xs <;> cases ys <;> first | rfl | cases this
  | tuple xs =>
    obtain ⟨a, ys, rfl, h1, h2⟩ := h.tuple
    cases e
    refine .inr (.inl ⟨ys, h1, ?_⟩)
    have := h2.length
    cases xs <;> cases ys <;> first | rfl | cases this
  | dict _ => cases e
section
variable {CX : CXT} {X : Cx} {c : Cc} {Y : Yc} {G : Nat → Option D} {f : CE} {n : Nat} {σ : St} {H : Hp} {Q : VK}
/-- an operand and its truth -/
theorem tE_tru {m : M Op} {k : Op → Bool → M Op} (h : tE X.K Y (bd m fun x => bd (rd x) fun d => bd (opt (Fw.truthy d)) fun t => k x t) σ H Q) :
    tE X.K Y m σ H fun x H1 => ∃ t, TruV X.K x H1 t ∧ ∃ r r1 o d, Gd X.K Y.T r σ H ∧ Post X.K Y.T r σ H r1 H1 ∧ OpV X.K σ H H1 o x ∧ rd o r1 = .ok d r1 ∧ Fw.truthy d = some t ∧ Wd (k o t r1) (exK X.K Y r σ H) fun o r' => ∀ v H', Post X.K Y.T r σ H r' H' → OpV X.K σ H H' o v → Q v H' := by
  obtain ⟨r, g, w⟩ := h
  refine ⟨r, g, w.bd.mono (fun _ _ z => z) fun o r1 e q x H1 p1 o1 => ?_⟩
  obtain ⟨d, h1, e1, q⟩ := q.bd.rd1 p1.gd o1
  obtain ⟨t, e2, q⟩ := q.bd.opt
  exact ⟨t, h1.tru e2, r, r1, o, d, g, p1, o1, e1, e2, q⟩
theorem tE_cont {m : M Op} {r r1 : Env} {H1 : Hp} (p : Post X.K Y.T r σ H r1 H1) (w : Wd (m r1) (exK X.K Y r σ H) fun o r' => ∀ v H', Post X.K Y.T r σ H r' H' → OpV X.K σ H H' o v → Q v H') : tE X.K Y m σ H1 Q := by
  refine ⟨r1, p.gd, w.mono (exK.trans p) fun o r' e q v H' p2 hv => q v H' (p.trans p2) ?_⟩
  cases o with
  | ref i => exact hv
  | val d => exact hv
  | new d => exact ⟨hv.1, fun a e => by
      cases z : H a with
      | none => rfl
      | some o => exact absurd (hv.2 a e) (p.tr a (by rw [z]; simp))⟩
theorem snd_and {a b : Expr} {rest : List Expr} {pos : Pos} {ea eb : E} (ha : PE X a (tE X.K Y (ev G f ea))) (hb : PE X (.BoolOp .And (b :: rest) pos) (tE X.K Y (ev G f eb))) : PE X (.BoolOp .And (a :: b :: rest) pos) (tE X.K Y (ev G f (.and ea eb))) := by
  refine ⟨fun pins s σ H Q I w => ?_⟩
  simp only [ev] at w
  refine BoolOp_and (thn (ha.run pins s σ H _ I (tE_tru w)) fun v s1 ⟨x, H1, I1, r1, t, h1, ra, rb, o, d, g, p, ho, _, _, q⟩ => ?_)
  refine thn (tru_ok pins s1 σ H1 x v (fun b H' => b = t ∧ H' = H1) I1 r1 ⟨t, h1, rfl, rfl⟩) fun b s2 ⟨H2, I2, e1, e2⟩ => ?_
  subst e1 e2
  cases b with
  | true =>
    simp only [if_true] at q ⊢
    exact hb.run pins s2 σ H2 Q I2 (tE_cont p q)
  | false =>
    simp only [Bool.false_eq_true, if_false] at q ⊢
    exact ⟨x, H2, I2, r1, q x H2 p ho⟩
theorem snd_or {a b : Expr} {rest : List Expr} {pos : Pos} {ea eb : E} (ha : PE X a (tE X.K Y (ev G f ea))) (hb : PE X (.BoolOp .Or (b :: rest) pos) (tE X.K Y (ev G f eb))) : PE X (.BoolOp .Or (a :: b :: rest) pos) (tE X.K Y (ev G f (.or ea eb))) := by
  refine ⟨fun pins s σ H Q I w => ?_⟩
  simp only [ev] at w
  refine BoolOp_or (thn (ha.run pins s σ H _ I (tE_tru w)) fun v s1 ⟨x, H1, I1, r1, t, h1, ra, rb, o, d, g, p, ho, _, _, q⟩ => ?_)
  refine thn (tru_ok pins s1 σ H1 x v (fun b H' => b = t ∧ H' = H1) I1 r1 ⟨t, h1, rfl, rfl⟩) fun b s2 ⟨H2, I2, e1, e2⟩ => ?_
  subst e1 e2
  cases b with
  | false =>
    simp only [Bool.false_eq_true, if_false] at q ⊢
    exact hb.run pins s2 σ H2 Q I2 (tE_cont p q)
  | true =>
    simp only [if_true] at q ⊢
    exact ⟨x, H2, I2, r1, q x H2 p ho⟩
/-- a test by its value -/
theorem sndt_plain {a : Expr} {m : M Op} (ha : PE X a (tE X.K Y m)) (he : testE a = true) : PT X a (tT X.K Y (tsM m)) := by
  refine (pt_truth ha (testE_ok he _)).to fun σ H Q w => ?_
  obtain ⟨r, g, w⟩ := w
  refine ⟨r, g, w.bd.mono (fun _ _ z => z) fun o r1 e q x H1 p1 o1 => ?_⟩
  obtain ⟨d, h1, e1, q⟩ := q.bd.rd1 p1.gd o1
  obtain ⟨t, e2, q⟩ := q.opt
  exact ⟨t, h1.tru e2, q H1 p1⟩
/-- the test's reading goes on behind a beginning -/
theorem tT_cont {m : M Bool} {r r1 : Env} {H1 : Hp} {Q : Bool → Hp → Prop} (p : Post X.K Y.T r σ H r1 H1) (w : Wd (m r1) (exK X.K Y r σ H) fun b r' => ∀ H', Post X.K Y.T r σ H r' H' → Q b H') : tT X.K Y m σ H1 Q :=
  ⟨r1, p.gd, w.mono (exK.trans p) fun o r' e q H' p2 => q H' (p.trans p2)⟩
theorem tT_and {ea eb : E} {Q : Bool → Hp → Prop} (w : tT X.K Y (tsM (ev G f (.and ea eb))) σ H Q) : tAnd (tT X.K Y (tsM (ev G f ea))) (tT X.K Y (tsM (ev G f eb))) σ H Q := by
  obtain ⟨r, g, w⟩ := w
  simp only [ev] at w
  refine ⟨r, g, Wd.bd' (w.bd.bd.mono (fun _ _ z => z) fun o r1 e q => ?_)⟩
  obtain ⟨d, e1, q⟩ := q.bd.rd
  obtain ⟨t, e2, q⟩ := q.bd.opt
  refine Wd.bd' ?_
  rw [e1]
  show Wd (opt (Fw.truthy d) r1) _ _
  rw [e2]
  show ∀ H', _ → _
  intro H' p
  cases t with
  | false =>
    simp only [Bool.false_eq_true, if_false] at q ⊢
    have q : Wd (bd (rd o) (fun d => opt (Fw.truthy d)) r1) (exK X.K Y r σ H) fun b r' => ∀ H', Post X.K Y.T r σ H r' H' → Q b H' := q
    obtain ⟨d', e1', q⟩ := q.bd.rd
    rw [e1] at e1'; cases e1'
    rw [e2] at q
    exact q H' p
  | true =>
    simp only [if_true] at q ⊢
    exact tT_cont p (Wd.bd' q)
theorem tT_or {ea eb : E} {Q : Bool → Hp → Prop} (w : tT X.K Y (tsM (ev G f (.or ea eb))) σ H Q) : tOr (tT X.K Y (tsM (ev G f ea))) (tT X.K Y (tsM (ev G f eb))) σ H Q := by
  obtain ⟨r, g, w⟩ := w
  simp only [ev] at w
  refine ⟨r, g, Wd.bd' (w.bd.bd.mono (fun _ _ z => z) fun o r1 e q => ?_)⟩
  obtain ⟨d, e1, q⟩ := q.bd.rd
  obtain ⟨t, e2, q⟩ := q.bd.opt
  refine Wd.bd' ?_
  rw [e1]
  show Wd (opt (Fw.truthy d) r1) _ _
  rw [e2]
  show ∀ H', _ → _
  intro H' p
  cases t with
  | true =>
    simp only [if_true] at q ⊢
    have q : Wd (bd (rd o) (fun d => opt (Fw.truthy d)) r1) (exK X.K Y r σ H) fun b r' => ∀ H', Post X.K Y.T r σ H r' H' → Q b H' := q
    obtain ⟨d', e1', q⟩ := q.bd.rd
    rw [e1] at e1'; cases e1'
    rw [e2] at q
    exact q H' p
  | false =>
    simp only [Bool.false_eq_true, if_false] at q ⊢
    exact tT_cont p (Wd.bd' q)
theorem tT_not {ea : E} {Q : Bool → Hp → Prop} (w : tT X.K Y (tsM (ev G f (.not ea))) σ H Q) : tNot (tT X.K Y (tsM (ev G f ea))) σ H Q := by
  obtain ⟨r, g, w⟩ := w
  simp only [ev] at w
  refine ⟨r, g, w.bd.bd.mono (fun _ _ z => z) fun t r1 e q H' p => ?_⟩
  exact q H' p
theorem sndt_not {a : Expr} {pos : Pos} {ea : E} (ha : PT X a (tT X.K Y (tsM (ev G f ea)))) : PT X (.UnaryOp .Not a pos) (tT X.K Y (tsM (ev G f (.not ea)))) := (pt_not ha).to fun σ H Q w => tT_not w
theorem snd_not {a : Expr} {pos : Pos} {ea : E} (ha : PE X a (tE X.K Y (ev G f ea))) : PE X (.UnaryOp .Not a pos) (tE X.K Y (ev G f (.not ea))) := by
  refine ⟨fun pins s σ H Q I w => ?_⟩
  simp only [ev] at w
  obtain ⟨r, g, w⟩ := w
  have w2 : tE X.K Y (ev G f ea) σ H fun x H1 => ∃ t, TruV X.K x H1 t ∧ Q (.bl (!t)) H1 := by
    refine ⟨r, g, w.bd.bd.mono (fun _ _ z => z) fun o r1 e q x H1 p1 o1 => ?_⟩
    obtain ⟨d, h1, e1, q⟩ := q.bd.rd1 p1.gd o1
    obtain ⟨t, e2, q⟩ := q.opt
    exact ⟨t, h1.tru e2, q (.bl (!t)) H1 p1 (by show Fz X.K H1 (.bool (!t)) _; simp [Fz])⟩
  refine UnaryOp_ (thn (ha.run pins s σ H _ I w2) fun v s1 ⟨x, H1, I1, r1, t, h1, q⟩ => ?_)
  refine not_of (thn (tru_ok pins s1 σ H1 x v (fun b H' => b = t ∧ H' = H1) I1 r1 ⟨t, h1, rfl, rfl⟩) fun b s2 ⟨H2, I2, e1, e2⟩ => ?_)
  subst e1 e2
  exact ⟨.bl (!b), H2, I2, rfl, q⟩
theorem tE_ite {ec ea eb : E} (w : tE X.K Y (ev G f (.ite ec ea eb)) σ H Q) : tIf (tT X.K Y (tsM (ev G f ec))) (tE X.K Y (ev G f ea)) (tE X.K Y (ev G f eb)) σ H Q := by
  obtain ⟨r, g, w⟩ := w
  simp only [ev] at w
  refine ⟨r, g, w.bd.mono (fun _ _ z => z) fun t r1 e q H1 p => ?_⟩
  cases t with
  | true => simp only [if_true] at q ⊢; exact tE_cont p q
  | false => simp only [Bool.false_eq_true, if_false] at q ⊢; exact tE_cont p q
theorem snd_ite {c a b : Expr} {pos : Pos} {ec ea eb : E} (hc : PT X c (tT X.K Y (tsM (ev G f ec)))) (ha : PE X a (tE X.K Y (ev G f ea))) (hb : PE X b (tE X.K Y (ev G f eb))) : PE X (.IfExp c a b pos) (tE X.K Y (ev G f (.ite ec ea eb))) :=
  (pe_ifExp hc ha hb).to fun σ H Q w => tE_ite w
theorem sndt_ite {c a b : Expr} {pos : Pos} {ec ea eb : E} (hc : PT X c (tT X.K Y (tsM (ev G f ec)))) (ha : PT X a (tT X.K Y (tsM (ev G f ea)))) (hb : PT X b (tT X.K Y (tsM (ev G f eb)))) : PT X (.IfExp c a b pos) (tT X.K Y (tsM (ev G f (.ite ec ea eb)))) := by
  refine ⟨fun pins s σ H Q I w => ?_⟩
  obtain ⟨r, g, w⟩ := w
  simp only [ev] at w
  have w2 : tT X.K Y (tsM (ev G f ec)) σ H fun t H1 => if t = true then tT X.K Y (tsM (ev G f ea)) σ H1 Q else tT X.K Y (tsM (ev G f eb)) σ H1 Q := by
    refine ⟨r, g, w.bd.bd.mono (fun _ _ z => z) fun t r1 e q H1 p => ?_⟩
    cases t with
    | true => simp only [if_true] at q ⊢; exact tT_cont p (Wd.bd' q)
    | false => simp only [Bool.false_eq_true, if_false] at q ⊢; exact tT_cont p (Wd.bd' q)
  refine isTrue_IfExp (thn (hc.run pins s σ H _ I w2) fun d s1 ⟨H1, I1, q1⟩ => ?_)
  cases d with
  | true => exact ha.run pins s1 σ H1 Q I1 q1
  | false => exact hb.run pins s1 σ H1 Q I1 q1

/-! ### lists of expressions -/
theorem snd_nil : PA X [] (tA X.K Y (evs G f [])) := pa_nil.to fun σ H Q w => by
  obtain ⟨r, g, w⟩ := w
  simp only [evs] at w
  exact w [] H (.refl g) .nil
theorem OpVs.from {K : PySem.W.Frag} {T : List Addr} {σ : St} {r r1 r2 : Env} {H0 H1 H2 : Hp} {o : Op} {v : V} {os : List Op} {vs : List V} (g : Gd K T r σ H0) (p1 : Post K T r σ H0 r1 H1) (p2 : Post K T r1 σ H1 r2 H2) (h : OpV K σ H0 H1 o v) (hs : OpVs K σ H1 H2 os vs) : OpVs K σ H0 H2 (o :: os) (v :: vs) := by
  refine .cons (h.carry g p1 p2) (fun d a e1 e2 => ?_) (fun a z => p1.tr a z) hs
  subst e1 e2
  cases d with
  | list ds =>
    obtain ⟨⟨a', xs, e, h2, _⟩, _⟩ := h
    cases e
    rw [h2]; simp
  | _ => exact h.1.elim
theorem snd_cons {e : Expr} {es : List Expr} {ie : E} {ies : List E} (he : PE X e (tE X.K Y (ev G f ie))) (hp : plainE e = true) (hs : PA X es (tA X.K Y (evs G f ies))) : PA X (e :: es) (tA X.K Y (evs G f (ie :: ies))) := by
  refine (pa_cons he hs (plainE_star hp _ _)).to fun σ H Q w => ?_
  obtain ⟨r, g, w⟩ := w
  simp only [evs] at w
  refine ⟨r, g, w.bd.mono (fun _ _ z => z) fun o r1 e q x H1 p1 o1 => ?_⟩
  refine ⟨r1, p1.gd, q.bd.mono (exK.trans p1) fun os r2 e q xs H2 p2 o2 => ?_⟩
  exact q (x :: xs) H2 (p1.trans p2) (.from g p1 p2 o1 o2)
theorem OpVs.len {K : PySem.W.Frag} {σ : St} {H0 H : Hp} {os : List Op} {vs : List V} (h : OpVs K σ H0 H os vs) : vs.length = os.length := by
  induction h with
  | nil => rfl
  | cons _ _ _ _ ih => simp [ih]
theorem evs_len : ∀ {es : List E} {r r' : Env} {os : List Op}, evs G f es r = .ok os r' → os.length = es.length
  | [], r, r', os, h => by
    simp only [evs] at h
    cases h; rfl
  | e :: es, r, r', os, h => by
    simp only [evs] at h
    obtain ⟨o, r1, h1, h⟩ := ok_bd h
    obtain ⟨os', r2, h2, h⟩ := ok_bd h
    cases h
    simp [evs_len h2]
theorem Post.own_some {K : PySem.W.Frag} {T : List Addr} {r r1 : Env} {H1 : Hp} (g : Gd K T r σ H) (p : Post K T r σ H r1 H1) (a : Addr) (h : Own r1 σ a) : H a ≠ none := by
  obtain ⟨xs, e⟩ := g.own (p.sub a h)
  rw [e]; simp
/-- the items of a display: known for good -/
theorem disp_to {es : List E} {k : List D → M Op} {R : List V → Hp → Prop} (hl : es.length ≤ 1000) (w : tE X.K Y (bd (evs G f es) fun os => bd (escAll os) fun ds => k ds) σ H Q)
    (fin : ∀ r r1 ds vs H2, Gd X.K Y.T r σ H → Post X.K Y.T r σ H r1 H2 → Fzs X.K H2 ds vs → vs.length ≤ sizeLine → (Wd (k ds r1) (exK X.K Y r σ H) fun o r' => ∀ v H', Post X.K Y.T r σ H r' H' → OpV X.K σ H H' o v → Q v H') → R vs H2) :
    tGa X (tA X.K Y (evs G f es)) σ H R := by
  obtain ⟨r, g, w⟩ := w
  refine ⟨r, g, w.bd.mono (fun _ _ z => z) fun os r1 e q vs H1 p1 ho pins s I => ?_⟩
  obtain ⟨ds, r2, e2, q⟩ := q.bd.escAll
  obtain ⟨H2, I2, f2, g2, s2, k2, b2⟩ := escAll_ok p1.gd I ho (fun a z => p1.own_some g a z) e2
  have h1 := ho.len
  have h2 := evs_len e
  have h3 := sizeLine_eq
  exact ⟨H2, I2, fin r r2 ds vs H2 g (esc_post p1 g2 s2 b2) f2 (by omega) q⟩
theorem snd_tup {es : List Expr} {x1 : Nat} {pos : Pos} {ies : List E} (hl : ies.length ≤ 1000) (hs : PA X es (tA X.K Y (evs G f ies))) : PE X (.Tuple es x1 pos) (tE X.K Y (ev G f (.tup ies))) := by
  refine (pe_tup (pa_ge hs)).to fun σ H Q w => ?_
  simp only [ev] at w
  refine disp_to hl w fun r r1 ds vs H2 g p h2 hz q => ⟨hz, fun a ha => ?_⟩
  have s := same_upd (o := .tup vs) ha
  refine q (.ref a) _ (p.trans (.same p.gd s)) ?_
  show Fz X.K _ (.tuple ds) _
  simp only [Fz]
  exact ⟨a, vs, rfl, .inl (.inl upd_same), Fzs.keep ⟨fun a o u e => s _ _ e, fun a ys e => s _ _ e⟩ _ _ h2⟩
theorem snd_lst {es : List Expr} {pos : Pos} {ies : List E} (hl : ies.length ≤ 1000) (hs : PA X es (tA X.K Y (evs G f ies))) : PE X (.List es pos) (tE X.K Y (ev G f (.lst ies))) := by
  refine (pe_lst (pa_ge hs)).to fun σ H Q w => ?_
  simp only [ev] at w
  refine disp_to hl w fun r r1 ds vs H2 g p h2 hz q => ⟨hz, fun a ha => ?_⟩
  have s := same_upd (o := .lst vs) ha
  refine q (.ref a) _ (p.trans (.same p.gd s)) ⟨⟨a, vs, rfl, upd_same, Fzs.keep ⟨fun a o u e => s _ _ e, fun a ys e => s _ _ e⟩ _ _ h2⟩, fun b e => ?_⟩
  cases e
  cases z : H a with
  | none => rfl
  | some o => exact absurd ha (p.tr a (by rw [z]; simp))

/-! ### subscripts -/
theorem Fzs.atI {K : PySem.W.Frag} {H : Hp} {ds : List D} {vs : List V} {i : Int} {d : D} (h : Fzs K H ds vs) (e : ((place i ds.length).bind fun j => ds[j]?) = some d) : ∃ v, L2.atI vs i = some v ∧ Fz K H d v := by
  obtain ⟨j, e1, e2⟩ := Option.bind_eq_some_iff.mp e
  obtain ⟨v, h1, h2⟩ := h.get e2
  refine ⟨v, ?_, h2⟩
  unfold L2.atI
  rw [← h.length]
  show (place i ds.length).bind _ = _
  rw [e1]
  exact h1
theorem snd_ix {a b : Expr} {pos : Pos} {ea eb : E} (ha : PE X a (tE X.K Y (ev G f ea))) (hb : PE X b (tE X.K Y (ev G f eb))) (hp : plainE b = true) : PE X (.Subscript a b pos) (tE X.K Y (ev G f (.ix ea eb))) := by
  refine (pe_ix ix_seq ha hb (plainE_ix hp)).to fun σ H Q w => ?_
  simp only [ev] at w
  obtain ⟨r, g, w⟩ := tE_two w
  refine ⟨r, g, w.mono (fun _ _ z => z) fun o r1 e q x H1 p1 o1 => ?_⟩
  obtain ⟨r', g', w'⟩ := q x H1 p1 o1
  refine ⟨r', g', w'.mono (fun _ _ z => z) fun o r1 e q y H2 p2 o2 => ?_⟩
  obtain ⟨r, r2, d, e, g, p, h1, h2, w⟩ := q y H2 p2 o2
  obtain ⟨v, e1, q⟩ := w.bd.opt
  have qq : ∀ v' H', Post X.K Y.T r σ H r2 H' → OpV X.K σ H H' (.val v) v' → Q v' H' := q
  cases e with
  | int k =>
    have := h2.int
    subst this
    cases d with
    | list xs =>
      obtain ⟨a, ys, rfl, h3, h4⟩ := h1.list
      obtain ⟨z, e3, h5⟩ := h4.atI e1
      exact .inl ⟨a, ys, k, z, rfl, rfl, h3, e3, qq z H2 p h5⟩
    | tuple xs =>
      obtain ⟨a, ys, rfl, h3, h4⟩ := h1.tuple
      obtain ⟨z, e3, h5⟩ := h4.atI e1
      exact .inr (.inl ⟨a, ys, k, z, rfl, rfl, h3, e3, qq z H2 p h5⟩)
    | _ => cases e1
  | _ => cases d <;> cases e1
/-- a slice's part -/
def tO (K : PySem.W.Frag) (Y : Yc) (m : M (Option Int)) : TO := fun σ H Q => ∃ r, Gd K Y.T r σ H ∧ Wd (m r) (exK K Y r σ H) fun o r' => ∀ H', Post K Y.T r σ H r' H' → Q o H'
theorem _root_.L2.PO.to {X : Cx} {e : Option Expr} {t t' : TO} (h : PO X e t) (f : ∀ σ H Q, t' σ H Q → t σ H Q) : PO X e t' := ⟨fun pins s σ H Q I q => h.run pins s σ H Q I (f σ H Q q)⟩
theorem snd_o0 : PO X none (tO X.K Y (evO G f none)) := po_none.to fun σ H Q w => by
  obtain ⟨r, g, w⟩ := w
  simp only [evO] at w
  exact w H (.refl g)
theorem snd_o1 {a : Expr} {ea : E} (ha : PE X a (tE X.K Y (ev G f ea))) : PO X (some a) (tO X.K Y (evO G f (some ea))) := (po_some ha).to fun σ H Q w => by
  obtain ⟨r, g, w⟩ := w
  simp only [evO] at w
  refine ⟨r, g, w.bd.mono (fun _ _ z => z) fun o r1 e q x H1 p1 o1 => ?_⟩
  obtain ⟨d, h1, e1, q⟩ := q.bd.rd1 p1.gd o1
  obtain ⟨t, e2, q⟩ := q.opt
  cases d with
  | int i =>
    cases e2
    exact ⟨i, h1.int, q H1 p1⟩
  | _ => cases e2
theorem Fzs.cut {K : PySem.W.Frag} {H : Hp} {ds : List D} {vs : List V} (lo hi : Option Int) (h : Fzs K H ds vs) : Fzs K H (cutL ds lo hi) (cutV vs lo hi) := by
  unfold cutL cutV
  rw [h.length]
  exact (h.drop _).take _
theorem cutL_whole {xs : List D} {lo hi : Option Int} (h : HT.sIx xs.length 0 lo = 0 ∧ HT.sIx xs.length xs.length hi = xs.length) : cutL xs lo hi = xs := by
  unfold cutL
  rw [h.1, h.2]
  simp
theorem sl_or : SlR X (fun x lo hi H Q => rSlL X.K x lo hi H Q ∨ rSlA X.K x lo hi H Q) := sl_list.or sl_tupA
theorem snd_sl {a : Expr} {lo hi : Option Expr} {p2 pos : Pos} {ea : E} {elo ehi : Option E} (ha : PE X a (tE X.K Y (ev G f ea))) (hl : PO X lo (tO X.K Y (evO G f elo))) (hh : PO X hi (tO X.K Y (evO G f ehi))) :
    PE X (.Subscript a (.Slice lo hi none p2) pos) (tE X.K Y (ev G f (.sl ea elo ehi))) := by
  refine (pe_slice sl_or ha hl hh).to fun σ H Q w => ?_
  simp only [ev] at w
  obtain ⟨r, g, w⟩ := w
  refine ⟨r, g, w.bd.mono (fun _ _ z => z) fun o r1 e q x H1 p1 o1 => ?_⟩
  refine ⟨r1, p1.gd, q.bd.mono (exK.trans p1) fun l r2 e q H2 p2 => ?_⟩
  refine ⟨r2, p2.gd, q.bd.mono (exK.trans (p1.trans p2)) fun u r3 e q H3 p3 => ?_⟩
  have p := (p1.trans p2).trans p3
  obtain ⟨d, h1, e1, q⟩ := q.bd.rd1 p3.gd ((o1.carry g p1 p2).carry g (p1.trans p2) p3)
  obtain ⟨v, e2, gv⟩ := tE_fin p q
  cases d with
  | list xs =>
    cases e2
    obtain ⟨a, ys, rfl, h3, h4⟩ := h1.list
    exact .inl ⟨a, ys, rfl, h3, fun b hb => gv.lst (h4.cut l u) hb⟩
  | tuple xs =>
    cases e2
    obtain ⟨a, ys, rfl, h3, h4⟩ := h1.tuple
    refine .inr ⟨a, ys, rfl, h3, fun hw => ?_, fun _ b hb => gv.tup (h4.cut l u) hb⟩
    refine gv.self ?_
    rw [← h4.length] at hw
    rw [cutL_whole hw]
    simp only [Fz]
    exact ⟨a, ys, rfl, h3, h4⟩
  | _ => cases e2
end
end Fw

/-! Fw: [::-1] -/
namespace Fw
open PySem PySem.Spec PyProof.Rows L2
section
variable {prog : Program} {w : World} {A : Around} {E : Value → Shared → Prop} {s : Shared}
theorem adjust_rev (n : Nat) : Builtin.Slice.sliceAdjust none none (-1) (n : Int) = ((n : Int) - 1, -1) := by
  unfold Builtin.Slice.sliceAdjust
  simp
theorem places_rev (n : Nat) : Builtin.Slice.slicePlaces ((n : Int) - 1) (-1) (-1) = n := by
  unfold Builtin.Slice.slicePlaces
  simp
  try omega
theorem sliceApplied_rev {sl : Addr} {t : Tok} {n : Nat} {Q : Int × Int × Nat → Shared → Prop} (hs : s.heap.IsSliceOf sl .none .none (.int (-1) t))
    (h : Q ((n : Int) - 1, -1, n) s) : wpAny (model prog w) A (Builtin.Slice.sliceApplied (.ref sl) (pure (n : Int))) Q E s := by
  obtain ⟨os, hos, hcs, hds⟩ := id hs
  unfold Builtin.Slice.sliceApplied Builtin.Slice.sliceFields
  refine wpAny_bind (wpAny_bind (wpAny_field hos hds (x := .none) rfl (wpAny_bind (wpAny_field hos hds (x := .none) rfl (wpAny_bind (wpAny_field hos hds (x := .int (-1) t) rfl (wpAny_pure ?_)))))))
  refine wpAny_bind (HT.slicePart_ (.int (-1) t) ?_)
  show wpAny _ _ (if ((-1 : Int) == 0) = true then _ else _) _ _ s
  rw [if_neg (by decide)]
  refine wpAny_bind (HT.slicePart_ .none (wpAny_bind (HT.slicePart_ .none (wpAny_bind (wpAny_pure ?_)))))
  show wpAny _ _ (match Builtin.Slice.sliceAdjust none none (-1) (n : Int) with | (lo, hi) => pure (lo, (-1 : Int), Builtin.Slice.slicePlaces lo hi (-1))) _ _ s
  rw [adjust_rev n]
  show wpAny _ _ (pure ((n : Int) - 1, (-1 : Int), Builtin.Slice.slicePlaces ((n : Int) - 1) (-1) (-1))) _ _ s
  rw [places_rev]
  exact wpAny_pure h
theorem pick_rev (xs : Array Value) : ((List.range xs.size).filterMap fun (m : Nat) => xs[(((xs.size : Nat) : Int) - 1 + (m : Int) * -1).toNat]?).toArray = xs.toList.reverse.toArray := by
  congr 1
  have e : (List.range xs.size).filterMap (fun (m : Nat) => xs[(((xs.size : Nat) : Int) - 1 + (m : Int) * -1).toNat]?) = (List.range xs.size).filterMap (fun m => xs.toList.reverse[m]?) := by
    refine flt (List.range xs.size) fun m hm => ?_
    have hm := List.mem_range.mp hm
    rw [List.getElem?_reverse (by simpa using hm), ← Array.getElem?_toList]
    congr 1
    simp
    omega
  rw [e]
  have : xs.size = xs.toList.reverse.length := by simp
  rw [this]
  exact all_get xs.toList.reverse
where
  flt {α β : Type} {f g : α → Option β} : ∀ (l : List α), (∀ x ∈ l, f x = g x) → l.filterMap f = l.filterMap g
    | [], _ => rfl
    | a :: r, h => by
      rw [List.filterMap_cons, List.filterMap_cons, h a List.mem_cons_self, flt r fun x hx => h x (List.mem_cons_of_mem _ hx)]
  all_get {α : Type} (l : List α) : (List.range l.length).filterMap (fun m => l[m]?) = l := by
    induction l with
    | nil => rfl
    | cons a r ih =>
      rw [List.length_cons, List.range_succ_eq_map, List.filterMap_cons]
      show a :: _ = _
      rw [List.filterMap_map]
      congr 1
theorem getItem_tuple_rev {t sl : Addr} {tk : Tok} {items : Array Value} {Q : Value → Shared → Prop} (ht : IsTup s.heap t items) (hs : s.heap.IsSliceOf sl .none .none (.int (-1) tk))
    (h : Q (.ref s.heap.objs.size) { s with heap := s.heap.push { cls := .type "tuple", data := .seq items.toList.reverse.toArray } })
    (hsz : items.size ≤ sizeLine) : wpAny (model prog w) A (getItem (.ref t) (.ref sl)) Q E s := by
  have htake : sizeOk (.seq items.toList.reverse.toArray) := by
    show items.toList.reverse.toArray.size ≤ sizeLine
    simpa using hsz
  obtain ⟨os, hos, hcs, hds⟩ := id hs
  have hTs : s.TypeIs (.ref sl) "slice" := ⟨os, hos, hcs⟩
  unfold getItem
  try with_reducible refine wpAny_holding ?_
  first | refine wpAny_bind (wpAny_pure ?_) | skip
  refine wpAny_bind (wpAny_sequenceKey ht.typeIs (by decide) ?_)
  refine wpAny_bind (wpAny_callSpecial?_slot (name := Str.ofString "__getitem__") ht.typeIs PyProof.Rows.slot_tuple_getitem
    (wpAny_call_entry PyProof.Rows.slot_tuple_getitem ht.typeIs entry_tuple_getitem ?_ (args_tuple_getitem _ _)))
  show wpAny _ _ (Builtin.Tuple.tupleItemsOf (.ref t) >>= _) _ _ s
  refine wpAny_bind (tupleItemsOf_ ht ?_)
  refine wpAny_bind (wpAny_typeOf hTs ?_)
  rw [if_pos (by decide)]
  refine wpAny_bind (sliceApplied_rev hs ?_)
  show wpAny _ _ (if ((((items.size : Nat) : Int) - 1) == 0 && (-1 : Int) == 1 && items.size == items.size) = true then _ else _) _ _ s
  rw [if_neg (by simp), pick_rev]
  first
    | exact wpAny_bind (m := Builtin.Tuple.tupleExact _) (wpAny_newObj_type (wpAny_pure ⟨_, rfl, wpAny_pure h⟩) htake)
    | exact wpAny_bind (m := Builtin.Tuple.tupleExact _) (wpAny_newObj_type (wpAny_bind (wpAny_pure (wpAny_pure ⟨_, rfl, wpAny_pure h⟩))) htake)
    | exact wpAny_bind (wpAny_bind (m := Builtin.Tuple.tupleExact _) (wpAny_newObj_type (wpAny_pure (wpAny_pure ⟨_, rfl, wpAny_pure h⟩)) htake))
    | exact wpAny_bind (wpAny_bind (m := Builtin.Tuple.tupleExact _) (wpAny_newObj_type (wpAny_pure ⟨_, rfl, wpAny_pure h⟩) htake))
end
/-- x[::-1], a list or a tuple -/
def tRev (K : PySem.W.Frag) (te : TE) : TE := fun σ H Q => te σ H fun x H1 => ∃ a xs, x = .ref a ∧ ((SqL K H1 a xs ∧ ∀ p, H1 p = none → Q (.ref p) (upd H1 p (.lst xs.reverse))) ∨ (SqT K H1 a xs ∧ ∀ p, H1 p = none → Q (.ref p) (upd H1 p (.tup xs.reverse))))
theorem pe_rev {X : Cx} {e : Expr} {te : TE} {k : Nat} {p1 p2 p3 pos : Pos} (he : PE X e te) : PE X (.Subscript e (.Slice none none (some (.UnaryOp .USub (.Constant (.int 1) k p1) p2)) p3) pos) (tRev X.K te) := by
  refine ⟨fun pins s σ H Q I h => ?_⟩
  refine Subscript_ (thn (he.run pins s σ H _ I h) fun v s1 ⟨x, H1, I1, r1, q1⟩ => ?_)
  obtain ⟨a, xs, ex, q⟩ := q1
  subst ex
  cases r1
  have hst : PO X (some (.UnaryOp .USub (.Constant (.int 1) k p1) p2)) (tPart (tUn (rU fun i => .int (-i)) (tC (.int 1)))) := po_some (pe_un un_neg pe_int)
  refine wpAny_Slice (thn (po_none.run pins s1 σ H1 (fun o H2 => o = none ∧ H2 = H1) I1 ⟨rfl, rfl⟩) fun vl s2 ⟨l, H2, I2, pl, el, e2⟩ => ?_)
  subst el e2
  refine thn (po_none.run pins s2 σ H2 (fun o H3 => o = none ∧ H3 = H2) I2 ⟨rfl, rfl⟩) fun vu s3 ⟨u, H3, I3, pu, eu, e3⟩ => ?_
  subst eu e3
  refine thn (hst.run pins s3 σ H3 (fun o H4 => o = some (-1) ∧ H4 = H3) I3 ⟨1, rfl, -1, rfl, rfl, rfl⟩) fun vs s4 ⟨o, H4, I4, ps, eo, e4⟩ => ?_
  subst eo e4
  have I5 : Inv X pins σ H4 { s4 with heap := s4.heap.push { cls := .type "slice", data := .fields #[vl, vu, vs] } } := I4.kept (t' := s4.toks) fun b ob q => Heap.get?_push_of_some _ q
  show wpAny (model X.prog X.w) X.A (subscriptTail e (.Slice none none (some (.UnaryOp .USub (.Constant (.int 1) k p1) p2)) p3) (.ref a) (.ref s4.heap.objs.size)) (EP X pins σ Q) X.xe { s4 with heap := s4.heap.push { cls := .type "slice", data := .fields #[vl, vu, vs] } }
  rcases q with ⟨hx, q⟩ | ⟨hx, q⟩
  · obtain ⟨its, r, ht, hz⟩ := I5.list hx
    refine tail_any (ops := [.ref a, .ref s4.heap.objs.size]) ht.isList.typeIs (PySem.slot_list_getitem.lookup) ?_ (by with_unfolding_all rfl)
    refine wpAny_getItem_list_slice ht.isList (Heap.IsSliceOf.new _ vl vu vs) pl pu ps (by decide) ?_ (by rw [List.size_toArray, ← r.length]; exact hz)
    rw [PySem.W.krv_pick]
    refine ⟨.ref _, _, I5.laid (t' := s4.toks) (o := .lst xs.reverse) (fun b ob q => Heap.get?_push_of_some _ q) (Nat.le_refl _) ?_, rfl, q _ (I5.hok.fresh (Nat.le_refl _))⟩
    exact ⟨by rw [List.length_reverse]; exact hz, _, 0, r.reverse, Heap.get?_push_size _ rfl⟩
  · obtain ⟨its, r, ht, hz⟩ := I5.tuple hx
    cases pl
    cases pu
    cases ps with
    | int _ tk =>
      refine tail_any (ops := [.ref a, .ref s4.heap.objs.size]) ht.typeIs (PyProof.Rows.slot_tuple_getitem.lookup) ?_ (by with_unfolding_all rfl)
      refine getItem_tuple_rev ht (Heap.IsSliceOf.new _ _ _ _) ?_ (by rw [List.size_toArray, ← r.length]; exact hz)
      refine ⟨.ref _, _, I5.laid (t' := s4.toks) (o := .tup xs.reverse) (fun b ob q => Heap.get?_push_of_some _ q) (Nat.le_refl _) ?_, rfl, q _ (I5.hok.fresh (Nat.le_refl _))⟩
      exact ⟨by rw [List.length_reverse]; exact hz, _, r.reverse, IsTup.new _ _⟩
variable {X : Cx} {Y : Yc} {G : Nat → Option D} {f : CE}
theorem snd_rev {a : Expr} {k : Nat} {p1 p2 p3 pos : Pos} {ea : E} (ha : PE X a (tE X.K Y (ev G f ea))) :
    PE X (.Subscript a (.Slice none none (some (.UnaryOp .USub (.Constant (.int 1) k p1) p2)) p3) pos) (tE X.K Y (ev G f (.rev ea))) := by
  refine (pe_rev ha).to fun σ H Q w => ?_
  simp only [ev] at w
  obtain ⟨r, g, w⟩ := w
  refine ⟨r, g, w.bd.mono (fun _ _ z => z) fun o r1 e q x H1 p1 o1 => ?_⟩
  obtain ⟨d, h1, e1, q⟩ := q.bd.rd1 p1.gd o1
  obtain ⟨v, e2, gv⟩ := tE_fin p1 q
  cases d with
  | list xs =>
    cases e2
    obtain ⟨a, ys, rfl, h3, h4⟩ := h1.list
    exact ⟨a, ys, rfl, .inl ⟨h3, fun b hb => gv.lst h4.rev hb⟩⟩
  | tuple xs =>
    cases e2
    obtain ⟨a, ys, rfl, h3, h4⟩ := h1.tuple
    exact ⟨a, ys, rfl, .inr ⟨h3, fun b hb => gv.tup h4.rev hb⟩⟩
  | _ => cases e2
end Fw

/-! Fw: list(reversed(x)), x a list -/
namespace Fw
open PySem PySem.Spec PyProof.Rows PySem.W L2
section
variable {prog : Program} {w : World} {A : Around} {E : Value → Shared → Prop} {s : Shared}
theorem rvl_init {R : Result → Shared → Prop} {it l : Addr} {items : Array Value} (hh : A.handled = none) (hit : s.heap.IsRevIter it l ((items.size : Int) - 1)) (hl : s.heap.IsList l items) (hne : l ≠ it) (hn : items.size ≤ sizeLine) (S : Addr) (hSi : S ≠ it) (hSl : S ≠ l) (hS : s.heap.get? S = some { cls := .type "list", data := .seq #[] })
    (hR : ∀ h' tk acc' c', (∀ b o, b ≠ S → b ≠ it → s.heap.get? b = some o → h'.get? b = some o) → h'.get? S = some { cls := .type "list", dict := none, data := .seq acc' c', slots := #[] } → ItemsOf (fun i v => items[items.size - 1 - i]? = some v) acc' items.size → R (.ok (.ret .none)) { s with heap := h', toks := tk }) :
    wpAny (model prog w) A.in1 (Builtin.«list.__init__» ⟨[.ref S, .ref it], []⟩)
      (fun fin s' => match fin with | .done f => R (.ok f) s' | .again c' => c'.quiet = true ∧ codeAny (model prog w) A c' R s') (fun e s' => R (.error e) s') s := by
  show wpAny _ _ (do let old ← Builtin.List.listItems (.ref S); Builtin.List.listUpdate (.ref S) (fun _ => #[]); letGo old.toList.reverse; Builtin.List.listExtendWith (.ref S) (.ref it) .none) _ _ s
  refine wpAny_bind ?_
  unfold Builtin.List.listItems
  refine wpAny_bind (wpAny_seqItems hS rfl (wpAny_pure ?_))
  show wpAny _ _ (updateSeq S (fun _ => #[]) >>= fun _ => letGo (#[] : Array Value).toList.reverse >>= fun _ => Builtin.List.listExtendWith (.ref S) (.ref it) .none) _ _ s
  refine wpAny_bind (wpAny_updateSeq hS rfl ?_)
  have hS₂ := Heap.get?_update_self (Obj.mapSeq (fun _ => (#[] : Array Value))) hS rfl
  have oth : ∀ b o, b ≠ S → s.heap.get? b = some o → (s.heap.update S (Obj.mapSeq (fun _ => (#[] : Array Value)))).get? b = some o :=
    fun b o hb e => (Heap.get?_update_other _ _ (Ne.symm hb)).trans e
  refine wpAny_bind (wpAny_letGo ?_)
  generalize hG : s.heap.update S (Obj.mapSeq (fun _ => (#[] : Array Value))) = h1 at *
  have hit1 : h1.IsRevIter it l ((items.size : Int) - 1) := hit.at fun o e => oth it o hSi.symm e
  have hl1 : h1.IsList l items := hl.at fun o e => oth l o hSl.symm e
  have hSf : S ∉ [it, l] := by simp only [List.mem_cons, List.not_mem_nil, or_false, not_or]; exact ⟨hSi, hSl⟩
  have W := (Walks.listRev (prog := prog) (w := w) (A := A.in1) hh it l hne items).toS
  have hT : ({ s with heap := h1 } : Shared).TypeIs (.ref it) "list_reverseiterator" := Heap.IsRevIter.typeIs (s := { s with heap := h1 }) hit1
  have hsr : Builtin.List.listSameRef (.ref S) (.ref it) = false := by simp [Builtin.List.listSameRef, hSi]
  unfold Builtin.List.listExtendWith
  refine wpAny_bind (wpAny_typeOf hT ?_)
  rw [if_neg (by rw [hsr]; decide)]
  refine wpAny_bind (wpAny_pyIter_revIter (s := { s with heap := h1 }) hit1 ?_)
  refine wpAny_bind (wpAny_holding ?_)
  unfold Builtin.List.listLengthHint
  refine wpAny_bind (wpAny_specialOf hT RT.nolen_lri ?_)
  show wpAny _ A.in1 (specialOf (Value.ref it) (Str.ofString "__length_hint__") >>= _) _ _ _
  refine wpAny_bind (wpAny_specialOf hT RT.hint_lri ?_)
  generalize hid : ("list_reverseiterator.__length_hint__" : String) = id0
  wp_delta
  rw [show splitId id0 = some ("list_reverseiterator", "__length_hint__") from by subst hid; decide +kernel]
  subst hid
  refine wpAny_bind (wpAny_isInstance (b := true) hT (by rw [isSubtype_type]; kernel_rfl) ?_)
  refine wpAny_pure ?_
  rw [if_neg (by decide)]
  have e0 : ((items.size : Nat) : Int) - 1 - ((0 : Nat) : Int) = (items.size : Int) - 1 := by omega
  refine wpAny_pure ⟨plainId_quiet F.plain_extend_loop _, codeAny_extend_loopS W hn _ hSf _ items.size 0 _ _ _ rfl (Nat.zero_le _) ⟨Nat.zero_le _, by rw [e0]; exact hit1, hl1⟩ hS₂ (ItemsOf.nil _) fun s' acc' c' hm hS' hacc => ?_⟩
  rw [Moved.eq_with hm]
  refine hR s'.heap s'.toks acc' c' (fun b o hb hb2 e => hm.heap b o (fun hmem => ?_) (oth b o hb e)) hS' hacc
  rcases List.mem_cons.mp hmem with e' | hmem
  · exact hb e'
  · exact hb2 (List.mem_singleton.mp hmem)
theorem call_list_rev {it l : Addr} {items : Array Value} {Q : Value → Shared → Prop} (hh : A.handled = none) (hit : s.heap.IsRevIter it l ((items.size : Int) - 1)) (hl : s.heap.IsList l items) (hne : l ≠ it) (hn : items.size ≤ sizeLine)
    (hQ : ∀ h' tk acc' c', (∀ b o, b ≠ it → s.heap.get? b = some o → h'.get? b = some o) → h'.get? s.heap.objs.size = some { cls := .type "list", dict := none, data := .seq acc' c', slots := #[] } → ItemsOf (fun i v => items[items.size - 1 - i]? = some v) acc' items.size → Q (.ref s.heap.objs.size) { s with heap := h', toks := tk }) :
    wpAny (model prog w) A (call (.type "list") [.ref it]) Q E s := by
  refine callType_codes (Q₁ := fun obj s₁ => obj = .ref s.heap.objs.size ∧ s₁ = { s with heap := s.heap.push { cls := .type "list", data := .seq #[] } }) PySem.F.called_list (PySem.F.typeCall_list_1 _) PySem.F.entry_list_init
    (code_list_new _ ⟨rfl, rfl⟩) fun obj s₁ h₁ => ?_
  obtain ⟨rfl, rfl⟩ := h₁
  have hS : (s.heap.push { cls := .type "list", data := .seq #[] }).get? s.heap.objs.size = some { cls := .type "list", data := .seq #[] } := Heap.get?_push_size _ rfl
  obtain ⟨oi, hoi, _⟩ := id hit
  obtain ⟨ol, hol, _⟩ := id hl
  refine ⟨⟨_, hS, rfl⟩, PySem.F.args_list_init_2 _ _, rvl_init (A := A.in1) (s := { s with heap := s.heap.push { cls := .type "list", data := .seq #[] } }) hh (hit.at fun o e => Heap.get?_push_of_some _ e) (hl.push _) hne hn _ (Nat.ne_of_gt (Heap.lt_size hoi)) (Nat.ne_of_gt (Heap.lt_size hol)) hS (fun h' tk acc' c' hk hS' hacc => ?_)⟩
  exact ⟨rfl, hQ h' tk acc' c' (fun b o hb e => hk b o (Nat.ne_of_lt (Heap.lt_size e)) hb (Heap.get?_push_of_some _ e)) hS' hacc⟩
end
/-- list(reversed(x)), x a list: a new list -/
def tLstRev (K : PySem.W.Frag) (te : TE) : TE := fun σ H Q => te σ H fun v H1 => ∃ (a : Addr) (xs : List V), v = .ref a ∧ SqL K H1 a xs ∧ ∀ q, H1 q = none → Q (.ref q) (upd H1 q (.lst xs.reverse))
theorem pe_lstRev {X : Cx} {e : Expr} {te : TE} {p p2 pos pos2 : Pos} (hc : X.calm = true) (hg : Gl X "list") (hm : X.mg "list" = none) (hg2 : Gl X "reversed") (hm2 : X.mg "reversed" = none) (he : PE X e te)
    (hs : starEach [e] X.env = (false, eval e X.env) :: starEach [] X.env)
    (hs2 : starEach [.Call (.Name "reversed" p2) [e] [] pos2] X.env = (false, eval (.Call (.Name "reversed" p2) [e] [] pos2) X.env) :: starEach [] X.env := by rfl) :
    PE X (.Call (.Name "list" p) [.Call (.Name "reversed" p2) [e] [] pos2] [] pos) (tLstRev X.K te) := by
  refine ⟨fun pins s σ H Q I h => ?_⟩
  refine Call_ (ld_blt I hg hm boot_list (PyProof.Rows.callWith_type1 (args_cons (Call_ (ld_blt I hg2 hm2 PyProof.Rows.boot_reversed (PyProof.Rows.callWith_type1 (args_cons (thn (he.run pins s σ H _ I h) fun u s1 ⟨v, H1, I1, r1, q1⟩ => args_nil ?_) hs) hs rfl))) hs2) hs2 rfl))
  obtain ⟨a, xs, ev, hq, q⟩ := q1
  subst ev
  obtain rfl : u = Value.ref a := r1
  obtain ⟨its, rv, p', hz⟩ := I1.list hq
  refine call_reversed_list p'.isList (args_nil ?_)
  have k0 : ∀ b o, s1.heap.get? b = some o → (s1.heap.push (revObj a ((its.toArray.size : Int) - 1))).get? b = some o := fun b o e => Heap.get?_push_of_some _ e
  have I2 : Inv X pins σ H1 { s1 with heap := s1.heap.push (revObj a ((its.toArray.size : Int) - 1)) } := I1.kept (t' := s1.toks) k0
  have fp := I1.fpOk (H' := H1) (b := s1.heap.objs.size) (Nat.le_refl _) (I1.hok.fresh (Nat.le_refl _))
  have hl := p'.isList
  obtain ⟨ol, hol, _⟩ := id hl
  have hne : a ≠ s1.heap.objs.size := Nat.ne_of_lt (Heap.lt_size hol)
  have hn : its.toArray.size ≤ sizeLine := by rw [List.size_toArray, ← rv.length]; exact hz
  refine call_list_rev (s := { s1 with heap := s1.heap.push (revObj a ((its.toArray.size : Int) - 1)) }) (I1.ok.hd hc) ⟨_, Heap.get?_push_size _ rfl, rfl, rfl⟩ (hl.push _) hne hn fun h' tk acc c' hk hS hi => ?_
  refine ⟨.ref _, upd H1 _ (.lst xs.reverse), I2.turnedNew (t' := tk) (ch := [s1.heap.objs.size]) (fun b o hb e => hk b o (by simpa using hb) e) (fun b hb => by
    obtain rfl : b = s1.heap.objs.size := by simpa using hb
    exact fp) (Nat.le_refl _) ?_, rfl, q _ (I2.hok.fresh (Nat.le_refl _))⟩
  refine ⟨by rw [List.length_reverse]; exact hz, acc.toList, c', RT.vals_rev rv hi, ?_⟩
  rw [Array.toArray_toList]
  exact hS
variable {X : Cx} {Y : Yc} {G : Nat → Option D} {f : CE} {CX : CXT} {c : Cc} {n : Nat}
theorem snd_lstRev {a : Expr} {p p2 pos pos2 : Pos} {ea : E} (C : Ck CX X c Y G f n) (hca : c.ca = true) (hg : isGl c "list" = true) (hg2 : isGl c "reversed" = true) (ha : PE X a (tE X.K Y (ev G f ea))) (hp : plainE a = true) :
    PE X (.Call (.Name "list" p) [.Call (.Name "reversed" p2) [a] [] pos2] [] pos) (tE X.K Y (ev G f (.revd ea))) := by
  refine (pe_lstRev (C.calm hca) (gl_of C hg) (C.bi _ (by decide +kernel)) (gl_of C hg2) (C.bi _ (by decide +kernel)) ha (plainE_star hp [] X.env)).to fun σ H Q w => ?_
  simp only [ev] at w
  obtain ⟨r, g, w⟩ := w
  refine ⟨r, g, w.bd.mono (fun _ _ z => z) fun o r1 e q x H1 p1 o1 => ?_⟩
  obtain ⟨d, h1, e1, q⟩ := q.bd.rd1 p1.gd o1
  obtain ⟨v, e2, gv⟩ := tE_fin p1 q
  cases d with
  | list xs' =>
    cases e2
    obtain ⟨a, ys, rfl, h3, h4⟩ := h1.list
    exact ⟨a, ys, rfl, h3, fun b hb => gv.lst h4.rev hb⟩
  | _ => cases e2
end Fw

/-! Fw: (*a, ..), list(range(n)) -/
namespace Fw
open PySem PySem.Spec PyProof.Rows L2
variable {X : Cx} {Y : Yc} {G : Nat → Option D} {f : CE} {CX : CXT} {c : Cc} {n : Nat}
theorem snd_tupS {a : Expr} {es : List Expr} {x1 : Nat} {p pos : Pos} {ea : E} {ies : List E} (hl : ies.length ≤ 1000) (ha : PE X a (tE X.K Y (ev G f ea))) (hs : PA X es (tA X.K Y (evs G f ies))) : PE X (.Tuple (.Starred a p :: es) x1 pos) (tE X.K Y (ev G f (.tupS ea ies))) := by
  refine (pe_tup (StX.pa_star ha (pa_ge hs))).to fun σ H Q w => ?_
  obtain ⟨r, g, w⟩ := w
  simp only [ev] at w
  refine ⟨r, g, w.bd.mono (fun _ _ z => z) fun o r1 e q x H1 p1 o1 => ?_⟩
  obtain ⟨d, h1, e1, q⟩ := q.bd.rd1 p1.gd o1
  obtain ⟨xs, e2, q2⟩ := q.bd.opt
  cases d with
  | tuple xs' =>
    have e2 : (if xs'.length ≤ 1000000 then some xs' else none) = some xs := e2
    split at e2
    · rename_i hz
      cases e2
      obtain ⟨b, ys, rfl, h3, h4⟩ := h1.tuple
      refine ⟨b, ys, rfl, .inl h3, r1, p1.gd, q2.bd.mono (exK.trans p1) fun os r2 e q vs H2 p2 ho pins s I => ?_⟩
      obtain ⟨ds, r3, e3, q⟩ := q.bd.escAll
      obtain ⟨H3, I3, f3, g3, s3, k3, b3⟩ := escAll_ok p2.gd I ho (fun a z => p2.own_some p1.gd a z) e3
      have P3 := esc_post p2 g3 s3 b3
      have P := p1.trans P3
      have h5 := ho.len
      have h6 := evs_len e
      have h7 := h4.length
      have h8 := sizeLine_eq
      refine ⟨H3, I3, by rw [List.length_append]; omega, fun a ha => ?_⟩
      have q : ∀ v H', Post X.K Y.T r σ H r3 H' → OpV X.K σ H H' (.val (.tuple (xs ++ ds))) v → Q v H' := q
      have s := same_upd (o := .tup (ys ++ vs)) ha
      refine q (.ref a) _ (P.trans (.same P.gd s)) ?_
      show Fz X.K _ (.tuple _) _
      simp only [Fz]
      exact ⟨a, ys ++ vs, rfl, .inl (.inl upd_same), Fzs.keep ⟨fun a o u e => s _ _ e, fun a ys e => s _ _ e⟩ _ _ ((Fzs.keep (P3.kp p1.gd) _ _ h4).app f3)⟩
    · cases e2
  | _ => cases e2
theorem snd_lrng {a : Expr} {p p2 pos pos2 : Pos} {ea : E} (C : Ck CX X c Y G f n) (hca : c.ca = true) (hg : isGl c "list" = true) (hg2 : isGl c "range" = true) (ha : PE X a (tE X.K Y (ev G f ea))) (hp : plainE a = true) :
    PE X (.Call (.Name "list" p) [.Call (.Name "range" p2) [a] [] pos2] [] pos) (tE X.K Y (ev G f (.lrng ea))) := by
  refine (pe_listRg (C.calm hca) (gl_of C hg) (C.bi _ (by decide +kernel)) (prg_1 (gl_of C hg2) (C.bi _ (by decide +kernel)) ha (plainE_star hp [] X.env))).to fun σ H Q w => ?_
  simp only [ev] at w
  obtain ⟨r, g, w⟩ := w
  refine ⟨r, g, w.bd.mono (fun _ _ z => z) fun o r1 e q x H1 p1 o1 => ?_⟩
  obtain ⟨d, h1, e1, q⟩ := q.bd.rd1 p1.gd o1
  obtain ⟨v, e2, gv⟩ := tE_fin p1 q
  cases d with
  | int n =>
    have hx := h1.int
    subst hx
    simp only [lrngD] at e2
    split at e2
    · rename_i hz
      cases e2
      refine ⟨n, rfl, ⟨by omega, by omega, by omega, by omega, by omega⟩, fun b hb => gv.lst ?_ hb⟩
      have e1 : (List.range n.toNat).map (fun k => (PyData.int (k : Nat))) = ((List.range n.toNat).map fun k => ((k : Nat) : Int)).map .int := by simp
      have e2 : rgV 0 n = ((List.range n.toNat).map fun k => ((k : Nat) : Int)).map V.int := by simp [rgV]
      rw [e1, e2]
      exact Fzs.ints
    · cases e2
  | _ => cases e2
end Fw

/-! Fw: calls -/
namespace Fw
open PySem PySem.Spec PyProof.Rows L2

/-! ### reading, freezing -/
def frzAll (os : List Op) (r : Env) : Env := os.foldl (fun r o => match o with | .ref i => freeze i r | _ => r) r
theorem dataAt_freeze (i j : Nat) (r : Env) : dataAt (freeze j r) i = dataAt r i := by
  unfold dataAt
  by_cases h : i = j
  · subst h
    cases e : r[i]? with
    | none =>
      have : freeze i r = r := by unfold freeze; rw [e]
      rw [this, e]
    | some z =>
      cases z with
      | no =>
        have : freeze i r = r := by unfold freeze; rw [e]
        rw [this, e]
      | fz d =>
        have : freeze i r = r := by unfold freeze; rw [e]
        rw [this, e]
      | ow d => rw [freeze_at e]
  · rw [freeze_get h]
theorem rd_freeze {o : Op} {r : Env} {d : D} (j : Nat) (h : rd o r = .ok d r) : rd o (freeze j r) = .ok d (freeze j r) := by
  cases o with
  | ref i =>
    have h : opt (dataAt r i) r = .ok d r := h
    obtain ⟨e, _⟩ := opt_ok h
    show opt (dataAt (freeze j r) i) _ = _
    rw [dataAt_freeze, e]; rfl
  | val d' => cases h; rfl
  | new d' => cases h; rfl
theorem rdAll_cons {o : Op} {os : List Op} {r : Env} {ds : List D} (h : rdAll (o :: os) r = .ok ds r) : ∃ d es, ds = d :: es ∧ rd o r = .ok d r ∧ rdAll os r = .ok es r := by
  have h : bd (rd o) (fun d => bd (rdAll os) fun ds => ret (d :: ds)) r = .ok ds r := h
  obtain ⟨d, r1, h1, h⟩ := ok_bd h
  obtain ⟨es, r2, h2, h⟩ := ok_bd h
  have e1 : r1 = r := by
    cases o with
    | ref i => exact (opt_ok (show opt (dataAt r i) r = .ok d r1 from h1)).2
    | val d' => cases h1; rfl
    | new d' => cases h1; rfl
  subst e1
  cases h
  exact ⟨d, es, rfl, h1, h2⟩
theorem rdAll_mk {o : Op} {os : List Op} {r : Env} {d : D} {es : List D} (h1 : rd o r = .ok d r) (h2 : rdAll os r = .ok es r) : rdAll (o :: os) r = .ok (d :: es) r := by
  show bd (rd o) (fun d => bd (rdAll os) fun ds => ret (d :: ds)) r = _
  unfold bd
  rw [h1]
  show (rdAll os r).bd (fun ds => ret (d :: ds)) = _
  rw [h2]; rfl
theorem rdAll_freeze (j : Nat) : ∀ {os : List Op} {r : Env} {ds : List D}, rdAll os r = .ok ds r → rdAll os (freeze j r) = .ok ds (freeze j r)
  | [], r, ds, h => by cases h; rfl
  | o :: os, r, ds, h => by
    obtain ⟨d, es, rfl, h1, h2⟩ := rdAll_cons h
    exact rdAll_mk (rd_freeze j h1) (rdAll_freeze j h2)
theorem rd_escAll : ∀ {os : List Op} {r : Env} {ds : List D}, rdAll os r = .ok ds r → escAll os r = .ok ds (frzAll os r)
  | [], r, ds, h => by cases h; rfl
  | o :: os, r, ds, h => by
    obtain ⟨d, es, rfl, h1, h2⟩ := rdAll_cons h
    show bd (esc o) (fun d => bd (escAll os) fun ds => ret (d :: ds)) r = _
    unfold bd
    cases o with
    | ref i =>
      obtain ⟨e, _⟩ := opt_ok (show opt (dataAt r i) r = .ok d r from h1)
      have e1 : esc (.ref i) r = .ok d (freeze i r) := by
        show opt (dataAt r i) (freeze i r) = _
        rw [e]; rfl
      rw [e1]
      show (escAll os (freeze i r)).bd (fun ds => ret (d :: ds)) = _
      rw [rd_escAll (rdAll_freeze i h2)]; rfl
    | val d' =>
      cases h1
      show (escAll os r).bd (fun ds => ret (d :: ds)) = _
      rw [rd_escAll h2]; rfl
    | new d' =>
      cases h1
      show (escAll os r).bd (fun ds => ret (d :: ds)) = _
      rw [rd_escAll h2]; rfl
theorem after_eq (os : List Op) (d : D) (r : Env) : after os d r = if noMut d then r else frzAll os r := rfl

/-! ### what has no list within -/
section
variable {K : PySem.W.Frag} {H H' : Hp}
mutual
theorem Fz.keepN (k : ∀ b u, H b = some u → (∀ o xs, u ≠ .frz o (.lst xs)) → (∀ xs, u ≠ .lst xs) → H' b = some u) : ∀ (d : D) (v : V), noMut d = true → Fz K H d v → Fz K H' d v
  | .none, _, _, h => h
  | .bool _, _, _, h => h
  | .int _, _, _, h => h
  | .str _, _, _, h => h
  | .list ds, _, hm, h => by simp [noMut] at hm
  | .tuple ds, _, hm, h => by
    simp only [noMut] at hm
    simp only [Fz] at h ⊢
    obtain ⟨a, xs, e, h1, h2⟩ := h
    refine ⟨a, xs, e, ?_, Fzs.keepN k ds xs hm h2⟩
    rcases h1 with (h1 | ⟨o, h1⟩) | h1
    · exact .inl (.inl (k _ _ h1 (fun _ _ z => by cases z) (fun _ z => by cases z)))
    · exact .inl (.inr ⟨o, k _ _ h1 (fun _ _ z => by cases z) (fun _ z => by cases z)⟩)
    · exact .inr h1
  | .dict _, _, hm, h => by simp [noMut] at hm
theorem Fzs.keepN (k : ∀ b u, H b = some u → (∀ o xs, u ≠ .frz o (.lst xs)) → (∀ xs, u ≠ .lst xs) → H' b = some u) : ∀ (ds : List D) (vs : List V), noMutAll ds = true → Fzs K H ds vs → Fzs K H' ds vs
  | [], _, _, h => h
  | d :: ds, _, hm, h => by
    simp only [noMutAll, Bool.and_eq_true] at hm
    simp only [Fzs] at h ⊢
    obtain ⟨v, r, e, h1, h2⟩ := h
    exact ⟨v, r, e, Fz.keepN k d v hm.1 h1, Fzs.keepN k ds r hm.2 h2⟩
end
end

section
variable {CX : CXT} {X : Cx} {c : Cc} {Y : Yc} {G : Nat → Option D} {f : CE} {n : Nat} {σ : St} {H : Hp} {Q : VK}
/-- the callee runs; what it raises is as this place wishes -/
theorem run_fnE {fa : Addr} {fd : FuncData} {ps : List Str} {sp : Sp} {E : XK} {pins : List (Addr × Obj)} {s : Shared} {us : List Value} {vs : List V} (F : FnOk X.prog X.w X.K X.mg X.base CX n fa fd ps sp) (hr : Room n X.A) (hb : Binds X.K fd ps [])
    (hx : ∀ e s', CX X.stack H s E e s' → X.xe e s') (I : Inv X pins σ H s) (r : Vals vs us) (h : sp vs H Q E) : wpAny (model X.prog X.w) X.A (call (.ref fa) us) (EP X pins σ Q) X.xe s := by
  have hl : (us ++ []).length = ps.length := by rw [List.append_nil, ← r.length]; exact F.len _ _ _ _ h
  have hb' := hb s us I.kIn hl
  rw [List.append_nil] at hb'
  refine wpAny_call (codeAny_mono (F.run X.A X.stack s H ⟨us, []⟩ us vs Q E hr I.env0 hb' r h) fun r s' hq => ?_)
  cases r with
  | error e => exact hx e s' hq
  | ok fl =>
    cases fl with
    | ret u => exact I.after hq
    | next => exact False.elim hq
    | brk => exact False.elim hq
    | cont => exact False.elim hq
/-- f(e, ..) -/
theorem pe_callE {x : Str} {p pos : Pos} {e : Expr} {es : List Expr} {t : TA} {fa : Addr} {fd : FuncData} {ps : List Str} {sp : Sp} (C : Ck CX X c Y G f n) (hca : c.ca = true) (F : FnOk X.prog X.w X.K X.mg X.base CX n fa fd ps sp) (hg : Gl X x) (hm : X.mg x = some (.ref fa)) (hk : PySem.W.keepIn X.K (.ref fa) = true) (hb : Binds X.K fd ps [])
    (ha : PA X (e :: es) t) (hdb : (x == ("__debug__" : Str)) = false) (he : plainE e = true) (hes : es.all plainE = true) :
    PE X (.Call (.Name x p) (e :: es) [] pos) (fun σ H Q => t σ H fun vs H1 => sp vs H1 Q fun cls d H' => Y.W cls d σ H') := by
  refine ⟨fun pins s σ H Q I h => ?_⟩
  refine wpAny_Call_Name_kw (ld_glob I hg hm ?_ hdb)
  refine PySem.W.callWith_K (h₀ := X.base) I.ok.mod.kin hk (thn (ha.run pos pins s σ H _ I h) fun us s1 ⟨vs, H1, I1, r, q⟩ => ⟨I1.kIn, ?_⟩) (plainE_star he _ _) (plainE_any hes _ _)
  exact run_fnE F (C.room0 hca) hb (fun e s' z => C.pass pins σ H1 s1 e s' I1 z) I1 r q
/-- f() -/
theorem pe_callE0 {x : Str} {p pos : Pos} {fa : Addr} {fd : FuncData} {ps : List Str} {sp : Sp} (C : Ck CX X c Y G f n) (hca : c.ca = true) (F : FnOk X.prog X.w X.K X.mg X.base CX n fa fd ps sp) (hg : Gl X x) (hm : X.mg x = some (.ref fa)) (hk : PySem.W.keepIn X.K (.ref fa) = true) (hb : Binds X.K fd ps [])
    (hdb : (x == ("__debug__" : Str)) = false) : PE X (.Call (.Name x p) [] [] pos) (fun σ H Q => sp [] H Q fun cls d H' => Y.W cls d σ H') := by
  refine ⟨fun pins s σ H Q I h => ?_⟩
  refine wpAny_Call_Name_kw (ld_glob I hg hm ?_ hdb)
  exact PySem.W.callWith_K0 I.kIn hk (run_fnE (us := []) F (C.room0 hca) hb (fun e s' z => C.pass pins σ H s e s' I z) I .nil h)

/-- behind a call: all that was is as it was -/
theorem post_ext {K : PySem.W.Frag} {T : List Addr} {r : Env} {σ : St} {H H' : Hp} (g : Gd K T r σ H) (ht : ∀ p ∈ T, GxR.TabG H' p) (hx : ∀ b o, H b = some o → (∀ ps, o ≠ .tbl ps) → H' b = some o) (htr : ∀ b, H b ≠ none → H' b ≠ none) : Post K T r σ H r H' := by
  have k : Kp H H' := ⟨fun a o u h => hx _ _ h (fun _ z => by cases z), fun a xs h => hx _ _ h (fun _ z => by cases z)⟩
  refine ⟨⟨g.len, fun i d e => ?_, fun i d e => ?_, g.inj, ht⟩, fun a o h1 h2 _ => hx a o h1 h2, fun _ h => h, htr⟩
  · obtain ⟨v, h1, h2⟩ := g.fz i d e
    exact ⟨v, h1, Fz.keep k d v h2⟩
  · obtain ⟨v, h1, h2⟩ := g.ow i d e
    exact ⟨v, h1, h2.keep k fun a xs _ e2 => hx _ _ e2 (fun _ z => by cases z)⟩
/-- the slots' own lists are their own again -/
theorem unfreeze {K : PySem.W.Frag} {r1 : Env} {pins : List (Addr × Obj)} {s : Shared} {H1 H2 H' : Hp} (g1 : Gd X.K Y.T r1 σ H1) (hf : ∀ b, H2 b = H1 b ∨ FrzAt H1 H2 b) (h0 : ∀ a, Own r1 σ a → ∀ o u, X.H_0 a ≠ some (.frz o u))
    (ht : ∀ p ∈ Y.T, GxR.TabG H' p) (hx : ∀ b o, H2 b = some o → (∀ ps, o ≠ .tbl ps) → H' b = some o) (htr : ∀ b, H2 b ≠ none → H' b ≠ none) (I : Inv X pins σ H' s) :
    ∃ H3, Inv X pins σ H3 s ∧ (∀ p ∈ Y.T, GxR.TabG H3 p) ∧ (∀ b, Own r1 σ b → H3 b = H1 b) ∧ (∀ b, ¬ Own r1 σ b → H3 b = H' b) ∧ ∀ b u, H' b = some u → (∀ o xs, u ≠ .frz o (.lst xs)) → (∀ xs, u ≠ .lst xs) → H3 b = some u := by
  classical
  have hown : ∀ b, Own r1 σ b → ∃ xs, H1 b = some (.lst xs) ∧ (H' b = some (.lst xs) ∨ ∃ o, H' b = some (.frz o (.lst xs))) := fun b hb => by
    obtain ⟨xs, e⟩ := g1.own hb
    refine ⟨xs, e, ?_⟩
    rcases hf b with q | ⟨o, ys, q1, q2⟩
    · exact .inl (hx _ _ (by rw [q]; exact e) (fun _ z => by cases z))
    · rw [e] at q1; cases q1
      exact .inr ⟨o, hx _ _ q2 (fun _ z => by cases z)⟩
  refine ⟨fun b => if Own r1 σ b then H1 b else H' b, ghost I fun b => ?_, fun p hp => ?_, fun b hb => if_pos hb, fun b hb => if_neg hb, fun b u e h1 h2 => ?_⟩
  · by_cases hb : Own r1 σ b
    · obtain ⟨xs, e, e2⟩ := hown b hb
      have e3 : (if Own r1 σ b then H1 b else H' b) = some (.lst xs) := by rw [if_pos hb]; exact e
      rcases e2 with e2 | ⟨o, e2⟩
      · exact .inl (by rw [e3, e2])
      · obtain ⟨ho, _⟩ := I.hok b _ e2
        exact .inr ⟨xs, o, ho, .inr e2, .inl e3, h0 b hb⟩
    · exact .inl (if_neg hb)
  · obtain ⟨ps, h1, h2⟩ := ht p hp
    refine ⟨ps, ?_, h2⟩
    have np : ¬ Own r1 σ p := fun z => by
      obtain ⟨xs, _, e2⟩ := hown p z
      rcases e2 with e2 | ⟨o, e2⟩ <;> rw [h1] at e2 <;> cases e2
    show (if Own r1 σ p then H1 p else H' p) = _
    rw [if_neg np]; exact h1
  · have nb : ¬ Own r1 σ b := fun z => by
      obtain ⟨xs, _, e2⟩ := hown b z
      rcases e2 with e2 | ⟨o, e2⟩ <;> rw [e] at e2 <;> cases e2
      · exact h2 _ rfl
      · exact h1 _ _ rfl
    show (if Own r1 σ b then H1 b else H' b) = _
    rw [if_neg nb]; exact e
theorem own_h0 {r1 : Env} {pins : List (Addr × Obj)} {s : Shared} {H1 : Hp} (g1 : Gd X.K Y.T r1 σ H1) (I : Inv X pins σ H1 s) : ∀ a, Own r1 σ a → ∀ o u, X.H_0 a ≠ some (.frz o u) := fun a ha o u e => by
  obtain ⟨xs, e2⟩ := g1.own ha
  rw [I.base.frzs a o u e] at e2; cases e2
theorem OpV.of_rv {K : PySem.W.Frag} {T : List Addr} {r r1 : Env} {H0 H1 H2 : Hp} {v : Rv} {z : V} (p : ∀ a, H0 a ≠ none → H1 a ≠ none) (h : RvV K H1 H2 v z) : OpV K σ H0 H2 v.op z := by
  cases v with
  | val d => exact h
  | new d => exact ⟨h.1, fun a e => by
      cases w : H0 a with
      | none => rfl
      | some o => exact absurd (h.2 a e) (p a (by rw [w]; simp))⟩
/-- a call by values -/
theorem call_to {k : Nat} {ies : List E} {np : Nat} (w : tE X.K Y (ev G f (.call k ies)) σ H Q) (hnp : ∀ ds, f k ds ≠ .no → ds.length = np) :
    tGa X (tA X.K Y (evs G f ies)) σ H fun vs H2 => spF Y.T Y.xc X.K (f k) np false vs H2 (fun z H' => ∀ pins s, Inv X pins σ H' s → ∃ H3, Inv X pins σ H3 s ∧ Q z H3) fun cls d H' => Y.W cls d σ H' := by
  obtain ⟨r, g, w⟩ := w
  simp only [ev] at w
  refine ⟨r, g, w.bd.mono (fun _ _ z => z) fun os r1 e q vs H1 p1 ho pins s I => ?_⟩
  obtain ⟨ds, e2, q⟩ := q.bd.rdAll
  obtain ⟨H2, I2, f2, g2, s2, k2, b2⟩ := escAll_ok p1.gd I ho (fun a z => p1.own_some g a z) (rd_escAll e2)
  have pf := esc_post p1 g2 s2 b2
  have q : Wd (getCall f k os ds r1) _ _ := q
  unfold getCall at q
  have hl : vs.length = np := by
    rw [← f2.length]
    exact hnp ds fun z => by rw [z] at q; exact q.elim
  refine ⟨H2, I2, hl, g2.tb, ?_⟩
  rw [if_neg (by decide)]
  refine ⟨ds, f2, ?_⟩
  cases hc : f k ds with
  | no => rw [hc] at q; exact q.elim
  | ex cc d1 =>
    rw [hc] at q
    have q : exK X.K Y r σ H cc (after os (.list []) r1) := q
    have e3 : after os (.list []) r1 = frzAll os r1 := rfl
    rw [e3] at q
    exact fun H' ht hx htr => q H' (pf.trans (post_ext g2 ht hx htr))
  | ret v d1 =>
    rw [hc] at q
    have q : ∀ z H', Post X.K Y.T r σ H (after os v.data r1) H' → OpV X.K σ H H' v.op z → Q z H' := q
    intro z H' ht hx htr rv pins' s' I'
    by_cases hn : noMut v.data = true
    · have e3 : after os v.data r1 = r1 := if_pos hn
      rw [e3] at q
      obtain ⟨H3, I3, t3, o3, n3, k3⟩ := unfreeze (K := X.K) p1.gd (fun b => (b2 b).imp id fun z => z.1) (own_h0 p1.gd I) ht hx htr I'
      have kp13 : Kp H1 H3 := by
        have key : ∀ b o, H1 b = some o → (∀ ps, o ≠ .tbl ps) → (∀ xs, o ≠ .lst xs) → H3 b = some o := fun b o e4 nt nl => by
          have nb : ¬ Own r1 σ b := fun z => by
            obtain ⟨xs, e5⟩ := p1.gd.own z
            rw [e4] at e5; cases e5; exact nl _ rfl
          rw [n3 b nb]
          rcases b2 b with q1 | ⟨⟨_, xs, w1, _⟩, _⟩
          · exact hx b o (by rw [q1]; exact e4) nt
          · rw [e4] at w1; cases w1; exact absurd rfl (nl _)
        exact ⟨fun a o u h => key _ _ h (fun _ z => by cases z) (fun _ z => by cases z), fun a xs h => key _ _ h (fun _ z => by cases z) (fun _ z => by cases z)⟩
      have p3 : Post X.K Y.T r σ H r1 H3 := by
        refine ⟨⟨p1.gd.len, fun i d e => ?_, fun i d e => ?_, p1.gd.inj, t3⟩, fun a o e4 nt na => ?_, p1.sub, fun a ha => ?_⟩
        · obtain ⟨v, h1, h2⟩ := p1.gd.fz i d e
          exact ⟨v, h1, Fz.keep kp13 d v h2⟩
        · obtain ⟨v, h1, h2⟩ := p1.gd.ow i d e
          refine ⟨v, h1, h2.keep kp13 fun a xs e5 e6 => ?_⟩
          subst e5
          rw [o3 a ⟨i, d, e, h1⟩]; exact e6
        · have nb : ¬ Own r1 σ a := fun z => na (p1.sub a z)
          rw [n3 a nb]
          have e5 := p1.ext a o e4 nt na
          rcases b2 a with q1 | ⟨_, q2⟩
          · exact hx a o (by rw [q1]; exact e5) nt
          · rcases q2 with q2 | q2
            · exact absurd q2 nb
            · rw [e4] at q2; cases q2
        · by_cases hb : Own r1 σ a
          · rw [o3 a hb]; exact p1.tr a ha
          · rw [n3 a hb]; exact htr a (pf.tr a ha)
      refine ⟨H3, I3, q z H3 p3 ?_⟩
      cases v with
      | val d => exact Fz.keepN k3 d z hn rv
      | new d =>
        cases d with
        | list ds => simp [Rv.data, noMut] at hn
        | _ => exact rv.1.elim
    · have e3 : after os v.data r1 = frzAll os r1 := by rw [after_eq, if_neg hn]
      rw [e3] at q
      exact ⟨H', I', q z H' (pf.trans (post_ext g2 ht hx htr)) (.of_rv (T := Y.T) (r := r) (r1 := r) pf.tr rv)⟩
theorem snd_call {x : Str} {p pos : Pos} {es : List Expr} {k : Nat} {ies : List E} {fa : Addr} {fd : FuncData} {ps : List Str} {np : Nat} (C : Ck CX X c Y G f n) (hca : c.ca = true) (F : FnOk X.prog X.w X.K X.mg X.base CX n fa fd ps (spF Y.T Y.xc X.K (f k) np false)) (hg : Gl X x) (hm : X.mg x = some (.ref fa)) (hk : PySem.W.keepIn X.K (.ref fa) = true) (hb : Binds X.K fd ps [])
    (hdb : (x == ("__debug__" : Str)) = false) (hs : PA X es (tA X.K Y (evs G f ies))) (hes : es.all plainE = true) (hlen : es.length = ies.length) (hnp : ∀ ds, f k ds ≠ .no → ds.length = np) : PE X (.Call (.Name x p) es [] pos) (tE X.K Y (ev G f (.call k ies))) := by
  cases es with
  | nil =>
    have : ies = [] := List.eq_nil_of_length_eq_zero (by rw [← hlen]; rfl)
    subst this
    have h := pe_ge (pe_callE0 (pos := pos) (p := p) C hca F hg hm hk hb hdb)
    refine ⟨fun pins s σ H Q I w => ?_⟩
    have w2 := call_to w hnp
    obtain ⟨r, g, w2⟩ := w2
    simp only [evs] at w2
    obtain ⟨H2, I2, q⟩ := w2 [] H (.refl g) .nil pins s I
    exact h.run pins s σ H2 Q I2 q
  | cons e es =>
    rw [List.all_cons, Bool.and_eq_true] at hes
    exact (pe_ge (pe_callE (pos := pos) (p := p) C hca F hg hm hk hb (pa_ge hs) hdb hes.1 hes.2)).to fun σ H Q w => call_to w hnp

/-- f(e, ..) of a def that handlers call, within a suite -/
theorem pe_callH {x : Str} {p pos : Pos} {e : Expr} {es : List Expr} {t : TA} {fa : Addr} {fd : FuncData} {ps : List Str} {sp : Sp} (C : Ck CX X c Y G f n) (hot : HotT X) (hr : L2H.RoomH n X.A) (F : FnX X.prog X.w X.K X.mg X.base CX n fa fd ps sp) (hg : Gl X x) (hm : X.mg x = some (.ref fa)) (hk : PySem.W.keepIn X.K (.ref fa) = true) (hb : Binds X.K fd ps [])
    (ha : PA X (e :: es) t) (hdb : (x == ("__debug__" : Str)) = false) (he : plainE e = true) (hes : es.all plainE = true) :
    PE X (.Call (.Name x p) (e :: es) [] pos) (fun σ H Q => t σ H fun vs H1 => sp vs H1 Q fun cls d H' => Y.W cls d σ H') := by
  refine ⟨fun pins s σ H Q I h => ?_⟩
  refine wpAny_Call_Name_kw (ld_glob I hg hm ?_ hdb)
  refine PySem.W.callWith_K (h₀ := X.base) I.ok.mod.kin hk (thn (ha.run pos pins s σ H _ I h) fun us s1 ⟨vs, H1, I1, r, q⟩ => ⟨I1.kIn, ?_⟩) (plainE_star he _ _) (plainE_any hes _ _)
  have ha : HotA X.A H1 := by
    obtain ⟨a, oe, φ, xs, h1, h2, h3, h4⟩ := hot
    exact ⟨a, oe, φ, xs, h1, I1.base.frzs _ _ _ h2, h3, h4⟩
  have hl : (us ++ []).length = ps.length := by rw [List.append_nil, ← r.length]; exact F.len _ _ _ _ q
  have bd := hb s1 us I1.kIn hl
  rw [List.append_nil] at bd
  refine wpAny_call (codeAny_mono (F.run X.A X.stack s1 H1 ⟨us, []⟩ us vs Q _ hr ha I1.env0 bd r q) fun r s' hq => ?_)
  cases r with
  | error e => exact C.pass pins σ H1 s1 e s' I1 hq
  | ok fl =>
    cases fl with
    | ret u => exact I1.after hq
    | _ => exact False.elim hq
theorem snd_callH {x : Str} {p pos : Pos} {e : Expr} {es : List Expr} {k : Nat} {ies : List E} {fa : Addr} {fd : FuncData} {ps : List Str} {np : Nat} (C : Ck CX X c Y G f n) (hot : HotT X) (hr : L2H.RoomH n X.A) (F : FnX X.prog X.w X.K X.mg X.base CX n fa fd ps (spF Y.T Y.xc X.K (f k) np false)) (hg : Gl X x) (hm : X.mg x = some (.ref fa)) (hk : PySem.W.keepIn X.K (.ref fa) = true) (hb : Binds X.K fd ps [])
    (hdb : (x == ("__debug__" : Str)) = false) (hs : PA X (e :: es) (tA X.K Y (evs G f ies))) (hes : (e :: es).all plainE = true) (hnp : ∀ ds, f k ds ≠ .no → ds.length = np) : PE X (.Call (.Name x p) (e :: es) [] pos) (tE X.K Y (ev G f (.call k ies))) := by
  rw [List.all_cons, Bool.and_eq_true] at hes
  exact (pe_ge (pe_callH (pos := pos) (p := p) C hot hr F hg hm hk hb (pa_ge hs) hdb hes.1 hes.2)).to fun σ H Q w => call_to w hnp

/-! ### a call that writes into its first argument -/
theorem freeze_set {i j : Nat} {r : Env} {d : Sl} (h : i ≠ j) : freeze j (r.set i d) = (freeze j r).set i d := by
  unfold freeze
  rw [List.getElem?_set_ne h]
  cases e : r[j]? with
  | none => rfl
  | some z =>
    cases z with
    | no => rfl
    | fz d => rfl
    | ow d => exact List.set_comm _ _ h
theorem frzAll_set {i : Nat} {d : Sl} : ∀ {os : List Op} {r : Env}, noRef i os = true → frzAll os (r.set i d) = (frzAll os r).set i d
  | [], _, _ => rfl
  | o :: os, r, h => by
    unfold noRef at h
    rw [List.all_cons, Bool.and_eq_true] at h
    cases o with
    | ref j =>
      have hj : i ≠ j := by simpa using h.1
      show frzAll os (freeze j (r.set i d)) = (frzAll os (freeze j r)).set i d
      rw [freeze_set hj]
      exact frzAll_set h.2
    | val d' => exact frzAll_set (os := os) h.2
    | new d' => exact frzAll_set (os := os) h.2
theorem frzAll_get {i : Nat} : ∀ {os : List Op} {r : Env}, noRef i os = true → (frzAll os r)[i]? = r[i]?
  | [], _, _ => rfl
  | o :: os, r, h => by
    unfold noRef at h
    rw [List.all_cons, Bool.and_eq_true] at h
    cases o with
    | ref j =>
      have hj : i ≠ j := by simpa using h.1
      show (frzAll os (freeze j r))[i]? = _
      rw [frzAll_get h.2, freeze_get hj]
    | val d' => exact frzAll_get (os := os) h.2
    | new d' => exact frzAll_get (os := os) h.2
/-- slot i's own list has become d' -/
theorem post_own {K : PySem.W.Frag} {T : List Addr} {r : Env} {σ : St} {H H' : Hp} {i : Nat} {a : Addr} {d d' : D} (g : Gd K T r σ H) (hi : r[i]? = some (.ow d)) (hs : σ[i]? = some (some (.ref a))) (ho : OwD K H' d' (.ref a))
    (ht : ∀ p ∈ T, GxR.TabG H' p) (hx : ∀ b o, H b = some o → (∀ ps, o ≠ .tbl ps) → b ≠ a → H' b = some o) (htr : ∀ b, H b ≠ none → H' b ≠ none) : Post K T r σ H (r.set i (.ow d')) H' := by
  have own_a : Own r σ a := ⟨i, d, hi, hs⟩
  obtain ⟨xs0, ea⟩ := g.own own_a
  have k : Kp H H' := ⟨fun b o u h => hx _ _ h (fun _ z => by cases z) (fun z => by subst z; rw [ea] at h; cases h), fun b xs h => hx _ _ h (fun _ z => by cases z) (fun z => by subst z; rw [ea] at h; cases h)⟩
  have il : i < r.length := (List.getElem?_eq_some_iff.mp hi).1
  have back : ∀ {j : Nat} {e : D}, (r.set i (.ow d'))[j]? = some (.ow e) → ∃ e', r[j]? = some (.ow e') := fun {j e} h => by
    by_cases hj : i = j
    · subst hj; exact ⟨d, hi⟩
    · rw [List.getElem?_set_ne hj] at h; exact ⟨e, h⟩
  refine ⟨⟨by rw [List.length_set]; exact g.len, fun j e h => ?_, fun j e h => ?_, fun j j' e e' v h1 h2 h3 h4 => ?_, ht⟩, fun b o h1 h2 h3 => hx b o h1 h2 fun z => h3 (by rw [z]; exact own_a), fun b hb => ?_, htr⟩
  · by_cases hj : i = j
    · subst hj; rw [List.getElem?_set_self il] at h; cases h
    · rw [List.getElem?_set_ne hj] at h
      obtain ⟨v, h1, h2⟩ := g.fz j e h
      exact ⟨v, h1, Fz.keep k e v h2⟩
  · by_cases hj : i = j
    · subst hj; rw [List.getElem?_set_self il] at h; cases h
      exact ⟨_, hs, ho⟩
    · rw [List.getElem?_set_ne hj] at h
      obtain ⟨v, h1, h2⟩ := g.ow j e h
      refine ⟨v, h1, h2.keep k fun b xs e1 e2 => hx _ _ e2 (fun _ z => by cases z) fun z => ?_⟩
      subst z e1
      exact hj (g.inj i j d e _ hi h hs h1)
  · obtain ⟨e1, h1⟩ := back h1
    obtain ⟨e2, h2⟩ := back h2
    exact g.inj j j' e1 e2 v h1 h2 h3 h4
  · obtain ⟨j, e, h1, h2⟩ := hb
    obtain ⟨e1, h1⟩ := back h1
    exact ⟨j, e1, h1, h2⟩
theorem callM_to {k i : Nat} {ies : List E} {np : Nat} (w : tE X.K Y (ev G f (.callM k i ies)) σ H Q) (hnp : ∀ ds, f k ds ≠ .no → ds.length = np) :
    ∃ v, σ[i]? = some (some v) ∧ tGa X (tA X.K Y (evs G f ies)) σ H fun ws H2 => spF Y.T Y.xc X.K (f k) np true (v :: ws) H2 Q fun cls d H' => Y.W cls d σ H' := by
  obtain ⟨r, g, w⟩ := w
  simp only [ev] at w
  have w := w.bd
  unfold isOwn at w
  obtain ⟨v, hv0, w⟩ : ∃ v, σ[i]? = some (some v) ∧ Wd (bd (evs G f ies) (fun os => bd (rdAll os) fun ds => getCallM f k i os ds) r) (exK X.K Y r σ H) fun o r' => ∀ v H', Post X.K Y.T r σ H r' H' → OpV X.K σ H H' o v → Q v H' := by
    cases e : r[i]? with
    | none => rw [e] at w; exact w.elim
    | some z =>
      rw [e] at w
      cases z with
      | no => exact w.elim
      | fz d => exact w.elim
      | ow d =>
        obtain ⟨v, h1, _⟩ := g.ow i d e
        exact ⟨v, h1, w⟩
  refine ⟨v, hv0, r, g, w.bd.mono (fun _ _ z => z) fun os r1 e q ws H1 p1 ho pins s I => ?_⟩
  obtain ⟨ds, e2, q⟩ := q.bd.rdAll
  obtain ⟨H2, I2, f2, g2, s2, k2, b2⟩ := escAll_ok p1.gd I ho (fun a z => p1.own_some g a z) (rd_escAll e2)
  have pf := esc_post p1 g2 s2 b2
  have q : Wd (getCallM f k i os ds r1) _ _ := q
  unfold getCallM at q
  cases hi : r1[i]? with
  | none => rw [hi] at q; exact q.elim
  | some sl =>
    cases sl with
    | no => rw [hi] at q; exact q.elim
    | fz d => rw [hi] at q; exact q.elim
    | ow d0 =>
      rw [hi] at q
      cases hn : noRef i os with
      | false => simp only [hn] at q; exact q.elim
      | true =>
        simp only [hn, if_neg (show ¬ (true = false) by decide)] at q
        have hi2 : (frzAll os r1)[i]? = some (.ow d0) := by rw [frzAll_get hn]; exact hi
        obtain ⟨v', hv, hd⟩ := g2.ow i d0 hi2
        rw [hv0] at hv
        obtain rfl : v = v' := by cases hv; rfl
        have hv := hv0
        refine ⟨H2, I2, ?_⟩
        obtain ⟨a, rfl⟩ : ∃ a, v = .ref a := by
          cases d0 with
          | list xs => obtain ⟨a, _, e, _⟩ := hd; exact ⟨a, e⟩
          | _ => exact hd.elim
        have hl : (V.ref a :: ws).length = np := by
          rw [List.length_cons, ← f2.length, ← List.length_cons (a := d0)]
          exact hnp (d0 :: ds) fun z => by rw [z] at q; exact q.elim
        refine ⟨hl, g2.tb, ?_⟩
        rw [if_pos rfl]
        refine ⟨a, d0, ds, ws, rfl, hd, f2, ?_⟩
        have fin : ∀ {d' : D} {H' : Hp}, (∀ p ∈ Y.T, GxR.TabG H' p) → (∀ b o, H2 b = some o → (∀ ps, o ≠ .tbl ps) → b ≠ a → H' b = some o) → (∀ b, H2 b ≠ none → H' b ≠ none) → OwD X.K H' d' (.ref a) →
            Post X.K Y.T r σ H (after os (.list []) (r1.set i (.ow d'))) H' := fun {d' H'} ht hx htr ho' => by
          have e3 : after os (.list []) (r1.set i (.ow d')) = (frzAll os r1).set i (.ow d') := frzAll_set hn
          rw [e3]
          exact pf.trans (post_own g2 hi2 hv ho' ht hx htr)
        cases hc : f k (d0 :: ds) with
        | no => rw [hc] at q; exact q.elim
        | ex cc d1 =>
          rw [hc] at q
          have q : exK X.K Y r σ H cc (after os (.list []) (r1.set i (.ow d1))) := q
          exact fun H' ht hx htr ho' => q H' (fin ht hx htr ho')
        | ret v d1 =>
          rw [hc] at q
          have q : ∀ z H', Post X.K Y.T r σ H (after os (.list []) (r1.set i (.ow d1))) H' → OpV X.K σ H H' v.op z → Q z H' := q
          exact fun z H' ht hx htr ho' rv => q z H' (fin ht hx htr ho') (.of_rv (T := Y.T) (r := r) (r1 := r) pf.tr rv)
theorem snd_callM {x y : Str} {p py pos : Pos} {es : List Expr} {k i : Nat} {ies : List E} {fa : Addr} {fd : FuncData} {ps : List Str} {np : Nat} (C : Ck CX X c Y G f n) (hca : c.ca = true) (F : FnOk X.prog X.w X.K X.mg X.base CX n fa fd ps (spF Y.T Y.xc X.K (f k) np true)) (hg : Gl X x) (hm : X.mg x = some (.ref fa)) (hk : PySem.W.keepIn X.K (.ref fa) = true) (hb : Binds X.K fd ps [])
    (hdb : (x == ("__debug__" : Str)) = false) (hy : slotOf c y = some i) (hs : PA X es (tA X.K Y (evs G f ies))) (hes : es.all plainE = true) (hnp : ∀ ds, f k ds ≠ .no → ds.length = np) : PE X (.Call (.Name x p) (.Name y py :: es) [] pos) (tE X.K Y (ev G f (.callM k i ies))) := by
  obtain ⟨h1, h2, hd, hcd⟩ := slot_vis C hy
  refine (pe_callE (pos := pos) (p := p) C hca F hg hm hk hb (pa_cons (pe_var (pos := py) h1 h2 hd hcd) (pa_ge hs) (plainE_star rfl _ _)) hdb rfl hes).to fun σ H Q w => ?_
  obtain ⟨v, hv, w2⟩ := callM_to w hnp
  exact ⟨v, hv, w2⟩
end
end Fw

/-! Fw: built-in functions, isinstance, pop -/
namespace Fw
open PySem PySem.Spec PyProof.Rows L2

theorem OpVs.rds {K : PySem.W.Frag} {T : List Addr} {r : Env} {σ : St} {H H0 : Hp} : ∀ {os : List Op} {vs : List V} {ds : List D}, Gd K T r σ H → OpVs K σ H0 H os vs → rdAll os r = .ok ds r → Rds K H ds vs := by
  intro os vs ds g h
  induction h generalizing ds with
  | nil => intro e; cases e; exact rfl
  | cons h1 h2 h3 h4 ih =>
    intro e
    obtain ⟨d, es, rfl, e1, e2⟩ := rdAll_cons e
    exact ⟨_, _, rfl, (g.rd h1 e1).2, ih g e2⟩
section
variable {CX : CXT} {X : Cx} {c : Cc} {Y : Yc} {G : Nat → Option D} {f : CE} {n : Nat} {σ : St} {H : Hp} {Q : VK}
theorem bi_to {b : Bi} {ies : List E} (w : tE X.K Y (ev G f (.bi b ies)) σ H Q) : tCB (rBi X.K (biD b)) (tA X.K Y (evs G f ies)) σ H Q := by
  obtain ⟨r, g, w⟩ := w
  simp only [ev] at w
  refine ⟨r, g, w.bd.mono (fun _ _ z => z) fun os r1 e q vs H1 p1 ho => ?_⟩
  obtain ⟨ds, e2, q⟩ := q.bd.rdAll
  obtain ⟨v, e3, gv⟩ := tE_fin p1 q
  exact ⟨ds, v, ho.rds p1.gd e2, e3, gv⟩
theorem bi_nil {b : Bi} (w : tE X.K Y (ev G f (.bi b [])) σ H Q) : False := by
  obtain ⟨r, g, w⟩ := w
  simp only [ev, evs] at w
  have w : Wd (bd (opt (biD b [])) (fun v => ret v.op) r) _ _ := w
  obtain ⟨v, e, _⟩ := w.bd.opt
  cases b <;> cases e
theorem bi_none {b : Bi} {x : Str} (h : biTab.lookup x = some b) : x ≠ "__name__" ∧ (x == ("__debug__" : Str)) = false ∧ (b = .gcd ∨ x ∈ biNames) := by
  have e := PySem.mem_of_lookup h
  simp only [biTab, List.mem_cons, Prod.mk.injEq, List.not_mem_nil, or_false] at e
  rcases e with ⟨rfl, rfl⟩ | ⟨rfl, rfl⟩ | ⟨rfl, rfl⟩ | ⟨rfl, rfl⟩ | ⟨rfl, rfl⟩ | ⟨rfl, rfl⟩ | ⟨rfl, rfl⟩ | ⟨rfl, rfl⟩ | ⟨rfl, rfl⟩ | ⟨rfl, rfl⟩ | ⟨rfl, rfl⟩ | ⟨rfl, rfl⟩ <;> decide +kernel
theorem snd_bi {x : Str} {p pos : Pos} {es : List Expr} {b : Bi} {ies : List E} (C : Ck CX X c Y G f n) (hb : biTab.lookup x = some b) (hgc : b = .gcd → c.gcd = true) (hhot : c.ca = true ∨ hotBi b = true) (hg : isGl c x = true) (hs : PA X es (tA X.K Y (evs G f ies))) (hes : es.all plainE = true) (hl : es.length = ies.length) :
    PE X (.Call (.Name x p) es [] pos) (tE X.K Y (ev G f (.bi b ies))) := by
  cases es with
  | nil =>
    have : ies = [] := List.eq_nil_of_length_eq_zero (by rw [← hl]; rfl)
    subst this
    exact ⟨fun pins s σ H Q I w => (bi_nil w).elim⟩
  | cons e es =>
    rw [List.all_cons, Bool.and_eq_true] at hes
    obtain ⟨hn, hdb, hm⟩ := bi_none hb
    have he := plainE_star hes.1 es X.env
    have hpl := plainE_any hes.2 pos X.env
    have hg := gl_of C hg
    have hu := C.units
    have e := PySem.mem_of_lookup hb
    simp only [biTab, List.mem_cons, Prod.mk.injEq, List.not_mem_nil, or_false] at e
    have blt : ∀ {id : String}, CallR X (.builtin id) (rBi X.K (biD b)) → X.mg x = none → bootBuiltins x = some (.builtin id) → PE X (.Call (.Name x p) (_ :: es) [] pos) (tE X.K Y (ev G f (.bi b ies))) := fun hc hm hv =>
      (pe_callB hc hg hm hv hs hn hdb he hpl).to fun σ H Q w => bi_to w
    have ty : ∀ {T : String}, CallR X (.type T) (rBi X.K (biD b)) → X.mg x = none → bootBuiltins x = some (.type T) → PE X (.Call (.Name x p) (_ :: es) [] pos) (tE X.K Y (ev G f (.bi b ies))) := fun hc hm hv =>
      (pe_callTy hc hg hm hv hs hn hdb he hpl).to fun σ H Q w => bi_to w
    have nm : x ∈ biNames → X.mg x = none := C.bi x
    rcases e with ⟨rfl, rfl⟩ | ⟨rfl, rfl⟩ | ⟨rfl, rfl⟩ | ⟨rfl, rfl⟩ | ⟨rfl, rfl⟩ | ⟨rfl, rfl⟩ | ⟨rfl, rfl⟩ | ⟨rfl, rfl⟩ | ⟨rfl, rfl⟩ | ⟨rfl, rfl⟩ | ⟨rfl, rfl⟩ | ⟨rfl, rfl⟩
    · exact blt cb_len (nm (by decide +kernel)) rfl
    · exact blt cb_abs (nm (by decide +kernel)) rfl
    · exact blt (cb_best (C.calm (hhot.resolve_right (by decide))) hu false) (nm (by decide +kernel)) rfl
    · exact blt (cb_best (C.calm (hhot.resolve_right (by decide))) hu true) (nm (by decide +kernel)) rfl
    · exact blt (cb_sum (C.calm (hhot.resolve_right (by decide)))) (nm (by decide +kernel)) rfl
    · exact ty cb_tuple (nm (by decide +kernel)) rfl
    · exact ty cb_list (nm (by decide +kernel)) rfl
    · exact blt (cb_sorted hu) (nm (by decide +kernel)) rfl
    · exact ty cb_int (nm (by decide +kernel)) rfl
    · exact blt (cb_all (C.calm (hhot.resolve_right (by decide)))) (nm (by decide +kernel)) rfl
    · exact blt (cb_any (C.calm (hhot.resolve_right (by decide)))) (nm (by decide +kernel)) rfl
    · exact (pe_callBfun cb_gcd hg (C.gcd (hgc rfl)) hs hdb he hpl).to fun σ H Q w => bi_to w

/-! ### isinstance -/
theorem kt_none : ∀ t, kitB "NoneType" (tyN t) = some false := by intro t; cases t <;> decide +kernel
theorem kt_bool : ∀ t, kitB "bool" (tyN t) = some (match t with | .int => true | .bool => true | _ => false) := by intro t; cases t <;> decide +kernel
theorem kt_int : ∀ t, kitB "int" (tyN t) = some (match t with | .int => true | _ => false) := by intro t; cases t <;> decide +kernel
theorem kt_str : ∀ t, kitB "str" (tyN t) = some (match t with | .str => true | _ => false) := by intro t; cases t <;> decide +kernel
theorem kt_list : ∀ t, kitB "list" (tyN t) = some (match t with | .list => true | _ => false) := by intro t; cases t <;> decide +kernel
theorem kt_tuple : ∀ t, kitB "tuple" (tyN t) = some (match t with | .tuple => true | _ => false) := by intro t; cases t <;> decide +kernel
theorem Rdv.ty {K : PySem.W.Frag} {H : Hp} {d : D} {x : V} (h : Rdv K H d x) (nx : isExc d = false) (t : Ty) : ∃ u, TyX K H x u ∧ PySem.W.kitOne K u (.type (tyN t)) = some (isiD d t) := by
  cases d with
  | none => rw [h.non]; exact ⟨_, .base .non, kit_ty ((kt_none t).trans (by cases t <;> rfl))⟩
  | bool b => rw [h.bool]; exact ⟨_, .base (.bl b), kit_ty ((kt_bool t).trans (by cases t <;> rfl))⟩
  | int i => rw [h.int]; exact ⟨_, .base (.int i), kit_ty ((kt_int t).trans (by cases t <;> rfl))⟩
  | str y => rw [h.str]; exact ⟨_, .base (.str y), kit_ty ((kt_str t).trans (by cases t <;> rfl))⟩
  | list xs =>
    obtain ⟨a, ys, rfl, h1, _⟩ := h.list
    refine ⟨.type "list", ?_, kit_ty ((kt_list t).trans (by cases t <;> rfl))⟩
    rcases h1 with (h1 | ⟨o, h1⟩) | ⟨o, its, m, h1, h2, _⟩
    · exact .base (.lst h1)
    · exact .base (.frz h1)
    · exact .kList h1 h2
  | tuple xs =>
    obtain ⟨a, ys, rfl, h1, _⟩ := h.tuple
    refine ⟨.type "tuple", ?_, kit_ty ((kt_tuple t).trans (by cases t <;> rfl))⟩
    rcases h1 with (h1 | ⟨o, h1⟩) | ⟨o, its, m, h1, h2, _⟩
    · exact .base (.tup h1)
    · exact .fTuple h1
    · exact .kTuple h1 h2
  | dict kvs =>
    rcases h with h | h
    · simp only [Fz] at h
      split at h
      · rename_i nm e
        unfold isExc at nx
        rw [e] at nx
        cases nx
      · exact h.elim
    · exact h.elim
/-- what isinstance asks of an exception -/
theorem exo_at {X : Cx} {pins : List (Addr × Obj)} {σ : St} {H : Hp} {s : Shared} {nm : Str} {a : Addr} (I : Inv X pins σ H s) (h : ExO X.K H nm a) : ∃ o C, ExcOk X.K nm C ∧ PySem.W.InstAt s.heap a o C none := by
  obtain ⟨o, φ, C, vs, h1, h2, h3, h4, h5, _⟩ := h
  refine ⟨o, C, h5, ?_⟩
  have e := (I.hok a _ h1).1
  obtain ⟨oc, od, dt, sl⟩ := o
  dsimp only at h2 h3 h4
  subst h2 h3 h4
  exact ⟨e, rfl, rfl, trivial⟩
theorem isi_exc {X : Cx} {pins : List (Addr × Obj)} {σ : St} {H : Hp} {s : Shared} {nm : Str} {a : Addr} {c : Value} {b : Bool} {Q : VK} (I : Inv X pins σ H s) (h : ExO X.K H nm a) (hc : ∀ C, ExcOk X.K nm C → PySem.W.kitOne X.K (.ref C) c = some b) (q : Q (.bl b) H) :
    wpAny (model X.prog X.w) X.A (call (.builtin "isinstance") [.ref a, c]) (EP X pins σ Q) X.xe s := by
  obtain ⟨o, C, e, J⟩ := exo_at I h
  have z := e.cc
  exact PySem.W.kia_one (PySem.W.handS_kitx_exc z.hg z.hk z.hs z.hd z.ha z.hn z.ht z.hm) I.kIn J (hc C e) (fun z => nomatch z) fun tk => ⟨.bl b, H, I.tok tk, rfl, q⟩
theorem call_isW {X : Cx} : CallR X (.builtin "isinstance") (fun xs H Q => ∃ x d t, xs = [x, .ty (tyN t)] ∧ Rdv X.K H d x ∧ Q (.bl (isiD d t)) H) := by
  intro pins s σ H xs us Q I r ⟨x, d, t, e, h, q⟩
  cases hx : isExc d with
  | false =>
    obtain ⟨u, h2, h3⟩ := h.ty hx t
    exact call_isi pins s σ H xs us Q I r ⟨x, .ty (tyN t), u, _, isiD d t, e, .ty _, h2, h3, q⟩
  | true =>
    subst e
    obtain ⟨nm, en⟩ := Option.isSome_iff_exists.mp hx
    cases d with
    | dict kvs =>
      rcases h with h | h
      · simp only [Fz, en] at h
        obtain ⟨a, rfl, h⟩ := h
        have e2 : isiD (.dict kvs) t = false := by cases t <;> first | rfl | (simp [isiD, hx])
        rw [e2] at q
        obtain ⟨u1, u2, rfl, r1, r2⟩ := vals2 r
        cases r1
        cases r2
        exact isi_exc I h (fun C e => e.ty t) q
      · exact h.elim
    | _ => cases hx
theorem isxD_some {d : D} {ys ns : List Str} {b : Bool} (h : isxD d ys ns = some b) : ∃ nm, excNm d = some nm ∧ (nm ∈ ys ∧ b = true ∨ nm ∉ ys ∧ nm ∈ ns ∧ b = false) := by
  unfold isxD at h
  split at h
  · rename_i nm e
    refine ⟨nm, e, ?_⟩
    split at h
    · rename_i h1
      cases h
      exact .inl ⟨List.contains_iff_mem.mp h1, rfl⟩
    · rename_i h1
      split at h
      · rename_i h2
        cases h
        exact .inr ⟨fun z => h1 (List.contains_iff_mem.mpr z), List.contains_iff_mem.mp h2, rfl⟩
      · cases h
  · cases h
theorem ty_none {t : Ty} {x : Str} (h : tyTab.lookup x = some t) : x = Str.ofString (tyN t) ∧ x ≠ "__name__" ∧ (x == ("__debug__" : Str)) = false ∧ x ∈ biNames ∧ bootBuiltins x = some (.type (tyN t)) := by
  have e := PySem.mem_of_lookup h
  simp only [tyTab, List.mem_cons, Prod.mk.injEq, List.not_mem_nil, or_false] at e
  rcases e with ⟨rfl, rfl⟩ | ⟨rfl, rfl⟩ | ⟨rfl, rfl⟩ | ⟨rfl, rfl⟩ | ⟨rfl, rfl⟩ | ⟨rfl, rfl⟩ <;> exact ⟨rfl, by decide +kernel, by decide +kernel, by decide +kernel, rfl⟩
theorem snd_isi {p p2 pos : Pos} {a : Expr} {x : Str} {t : Ty} {ea : E} (C : Ck CX X c Y G f n) (ht : tyTab.lookup x = some t) (hg : isGl c "isinstance" = true) (hgx : isGl c x = true) (ha : PE X a (tE X.K Y (ev G f ea))) (hp : plainE a = true) :
    PE X (.Call (.Name "isinstance" p) [a, .Name x p2] [] pos) (tE X.K Y (ev G f (.isi ea t))) := by
  obtain ⟨rfl, hn, hdb, hm, hv⟩ := ty_none ht
  have hT : PE X (.Name (Str.ofString (tyN t)) p2) (tC (.ty (tyN t))) := pe_bltn (gl_of C hgx) (C.bi _ hm) hv rfl hn hdb
  have hA : PA X [a, .Name (Str.ofString (tyN t)) p2] (tCons (tE X.K Y (ev G f ea)) (tCons (tC (.ty (tyN t))) tNil)) := pa_cons ha (pa_cons hT pa_nil (plainE_star rfl _ _)) (plainE_star hp _ _)
  refine (pe_callB call_isW (gl_of C hg) (C.bi _ (by decide +kernel)) rfl hA (by decide +kernel) (by decide +kernel) (plainE_star hp _ _) (plainE_any rfl _ _)).to fun σ H Q w => ?_
  simp only [ev] at w
  obtain ⟨r, g, w⟩ := tE_one w
  refine ⟨r, g, w.mono (fun _ _ z => z) fun o r1 e q x H1 p1 o1 => ?_⟩
  obtain ⟨r, r2, d, g, p, h1, w⟩ := q x H1 p1 o1
  exact ⟨x, d, t, rfl, h1, w (.bl (isiD d t)) H1 p (by show Fz X.K H1 (.bool _) _; simp [Fz])⟩
/-- isinstance of an exception and a class of one's own -/
theorem snd_isx {p p2 pos : Pos} {a : Expr} {x : Str} {ea : E} (C : Ck CX X c Y G f n) (hx : (c.xT.lookup x).isSome = true) (nd : (c.xT.map Prod.fst).Nodup) (hg : isGl c "isinstance" = true) (hgx : isGl c x = true) (ha : PE X a (tE X.K Y (ev G f ea))) (hp : plainE a = true) :
    PE X (.Call (.Name "isinstance" p) [a, .Name x p2] [] pos) (tE X.K Y (ev G f (.isx ea (subsOf c.xT x) (restOf c.xT x)))) := by
  have mem : x ∈ c.xT.map Prod.fst := by
    obtain ⟨anc, e⟩ := Option.isSome_iff_exists.mp hx
    exact List.mem_map.mpr ⟨_, PySem.mem_of_lookup e, rfl⟩
  obtain ⟨k, hk⟩ := ixOf_of_mem mem
  obtain ⟨⟨D0, _, hD, hok, _⟩, hdb, hnn⟩ := C.xcl x k hk
  have hT : PE X (.Name x p2) (tC (.ref D0)) := pe_glob (gl_of C hgx) hD rfl (beq_eq_false_iff_ne.mpr hdb)
  have hA : PA X [a, .Name x p2] (tCons (tE X.K Y (ev G f ea)) (tCons (tC (.ref D0)) tNil)) := pa_cons ha (pa_cons hT pa_nil (plainE_star rfl _ _)) (plainE_star hp _ _)
  have hC : CallR X (.builtin "isinstance") (fun xs H Q => ∃ v d b, xs = [v, .ref D0] ∧ Rdv X.K H d v ∧ isxD d (subsOf c.xT x) (restOf c.xT x) = some b ∧ Q (.bl b) H) := by
    intro pins s σ H xs us Q I r ⟨v, d, b, e, h, hb, q⟩
    subst e
    obtain ⟨nm, en, hnm⟩ := isxD_some hb
    cases d with
    | dict kvs =>
      rcases h with h | h
      · simp only [Fz, en] at h
        obtain ⟨a', rfl, h⟩ := h
        obtain ⟨u1, u2, rfl, r1, r2⟩ := vals2 r
        cases r1
        cases r2
        refine isi_exc I h (fun C1 e => ?_) q
        have inT : ∃ anc, c.xT.lookup nm = some anc ∧ anc.contains x = b := by
          rcases hnm with ⟨h1, rfl⟩ | ⟨_, h1, rfl⟩
          · obtain ⟨y, hy, rfl⟩ := List.mem_map.mp h1
            obtain ⟨hy1, hy2⟩ := List.mem_filter.mp hy
            exact ⟨y.2, lookup_nodup nd hy1, hy2⟩
          · obtain ⟨y, hy, rfl⟩ := List.mem_map.mp h1
            obtain ⟨hy1, hy2⟩ := List.mem_filter.mp hy
            exact ⟨y.2, lookup_nodup nd hy1, by simpa using hy2⟩
        obtain ⟨anc, l, hanc⟩ := inT
        have mem2 : nm ∈ c.xT.map Prod.fst := List.mem_map.mpr ⟨_, PySem.mem_of_lookup l, rfl⟩
        obtain ⟨k2, hk2⟩ := ixOf_of_mem mem2
        obtain ⟨⟨C2, _, hC2, hok2, _⟩, _⟩ := C.xcl nm k2 hk2
        have e2 := hok2.at_
        rw [e.at_] at e2
        cases e2
        rw [← hanc]
        exact (C.xsub nm x anc C1 D0 l mem hC2 hD).1
      · exact h.elim
    | _ => cases en
  refine (pe_callB hC (gl_of C hg) (C.bi _ (by decide +kernel)) rfl hA (by decide +kernel) (by decide +kernel) (plainE_star hp _ _) (plainE_any rfl _ _)).to fun σ H Q w => ?_
  simp only [ev] at w
  obtain ⟨r, g, w⟩ := tE_one w
  refine ⟨r, g, w.mono (fun _ _ z => z) fun o r1 e q v H1 p1 o1 => ?_⟩
  obtain ⟨r, r2, d, g, p, h1, w⟩ := q v H1 p1 o1
  obtain ⟨b, hb, w⟩ := w.bd.opt
  exact ⟨v, d, b, rfl, h1, hb, w (.bl b) H1 p (by show Fz X.K H1 (.bool _) _; simp [Fz])⟩

/-! ### pop -/
theorem snd_pop {y : Str} {py apos pos : Pos} {i : Nat} (C : Ck CX X c Y G f n) (hy : slotOf c y = some i) (hline : (apos.endLine == pos.line) = true) : PE X (.Call (.Attribute (.Name y py) "pop" apos) [] [] pos) (tE X.K Y (ev G f (.pop i))) := by
  obtain ⟨h1, h2, hd, hcd⟩ := slot_vis C hy
  refine (pe_bm0 PySem.F.plainAttrs_list PySem.F.slot_list_pop (by rfl) mt_pop (pe_var (pos := py) h1 h2 hd hcd) rfl hline).to fun σ H Q w => ?_
  obtain ⟨r, g, w⟩ := w
  simp only [ev] at w
  unfold popM at w
  cases hi : r[i]? with
  | none => rw [hi] at w; exact w.elim
  | some z =>
    rw [hi] at w
    cases z with
    | no => exact w.elim
    | fz d => exact w.elim
    | ow d =>
      cases d with
      | list xs =>
        cases hx : xs.getLast? with
        | none => simp only [hx] at w; exact w.elim
        | some d =>
          simp only [hx] at w
          have w : ∀ v H', Post X.K Y.T r σ H (r.set i (.ow (.list xs.dropLast))) H' → OpV X.K σ H H' (.val d) v → Q v H' := w
          obtain ⟨v, hv, a, ys, rfl, h3, h4⟩ := g.ow i _ hi
          have hlen := h4.length
          rw [List.getLast?_eq_getElem?] at hx
          obtain ⟨z, e1, e2⟩ := h4.get hx
          refine ⟨_, hv, .inl ⟨rfl, ys, .inl (.inl h3)⟩, a, ys, z, rfl, rfl, h3, by rw [← hlen]; exact e1, ?_⟩
          have k := upd_kp (u := .lst ys.dropLast) h3
          refine w z _ (post_own g hi hv ⟨a, _, rfl, upd_same, ?_⟩ (fun p hp => tabG_upd h3 (g.tb p hp)) (fun b o e _ hb => by rw [upd_ne hb]; exact e) fun b hb => ?_) (Fz.keep k _ _ e2)
          · refine Fzs.keep k _ _ ?_
            rw [List.dropLast_eq_take, List.dropLast_eq_take, ← hlen]
            exact h4.take _
          · by_cases hb2 : b = a
            · subst hb2; rw [upd_same]; simp
            · rw [upd_ne hb2]; exact hb
      | _ => exact w.elim
/-! ### xs.index(y) -/
theorem bi_lay {d : D} (h : isBI d = true) : d.canLay0 = true ∧ d.depth ≤ 1 ∧ d.plain = true := by
  cases d with
  | bool _ => exact ⟨rfl, by simp [PyData.depth], rfl⟩
  | int _ => exact ⟨rfl, by simp [PyData.depth], rfl⟩
  | _ => cases h
theorem bi_lays : ∀ {ds : List D}, ds.all isBI = true → PyData.canLayAll0 ds = true ∧ PyData.depthAll ds ≤ 1 ∧ PyData.plainAll ds = true
  | [], _ => ⟨rfl, by simp [PyData.depthAll], rfl⟩
  | d :: ds, h => by
    rw [List.all_cons, Bool.and_eq_true] at h
    have h1 := bi_lay h.1
    have h2 := bi_lays h.2
    refine ⟨by rw [PyData.canLayAll0, h1.1, h2.1]; rfl, ?_, by rw [PyData.plainAll, h1.2.2, h2.2.2]; rfl⟩
    rw [PyData.depthAll]
    omega
theorem ev_idx_eq {a b : E} : ev G f (.idx a b) = bd (ev G f a) fun x => bd (rd x) fun d0 => bd (opt (lrevD d0)) fun _ => bd (ev G f b) fun y => bd (rd x) fun d => bd (rd y) fun e => bd (opt (idxD d e)) fun k => ret (.val (.int k)) := by rw [ev]
theorem snd_idx {y : Str} {py apos pos : Pos} {i : Nat} {b : Expr} {ib : E} (C : Ck CX X c Y G f n) (hy : slotOf c y = some i) (hp : plainE b = true) (hline : (apos.endLine == pos.line) = true) (hb : PE X b (tE X.K Y (ev G f ib))) : PE X (.Call (.Attribute (.Name y py) "index" apos) [b] [] pos) (tE X.K Y (ev G f (.idx (.var i) ib))) := by
  have hstar := plainE_star hp [] X.env
  refine (pe_bm (cpos := pos) PySem.F.plainAttrs_list PySem.F.slot_list_index (by rfl) (mt_indexD (by have := C.un; omega)) (snd_var (pos := py) C hy) (pa_cons hb pa_nil hstar) rfl (by rw [hstar]; rfl) hline hstar (by rfl)).to fun σ H Q w => ?_
  obtain ⟨r, g, w⟩ := w
  rw [ev_idx_eq] at w
  refine ⟨r, g, w.bd.mono (fun _ _ z => z) fun o r1 e q x H1 p1 o1 => ?_⟩
  obtain ⟨d0, k1, _, q⟩ := q.bd.rd1 p1.gd o1
  obtain ⟨_, hl, q⟩ := q.bd.opt
  have ty : tyV X.K "list" x H1 := by
    cases d0 with
    | list ds => obtain ⟨a, ys, rfl, h3, _⟩ := k1.list; exact .inl ⟨rfl, ys, h3⟩
    | _ => cases hl
  refine ⟨ty, r1, p1.gd, q.bd.mono (exK.trans p1) fun o2 r2 e2 q y H2 p2 o2' => ?_⟩
  obtain ⟨d, h1, _, q⟩ := q.bd.rd1 p2.gd (o1.carry g p1 p2)
  obtain ⟨d2, h2, _, q⟩ := q.bd.rd1 p2.gd o2'
  obtain ⟨k, hk, q⟩ := q.bd.opt
  have q : ∀ v' H', Post X.K Y.T r σ H r2 H' → OpV X.K σ H H' (.val (.int k)) v' → Q v' H' := q
  unfold idxD at hk
  cases d with
  | list ys =>
    dsimp only at hk
    split at hk
    · rename_i hz
      rw [Bool.and_eq_true] at hz
      obtain ⟨j, hj, rfl⟩ := Option.map_eq_some_iff.mp hk
      obtain ⟨a, vs, rfl, h3, h4⟩ := h1.list
      have l1 := bi_lays hz.2
      have l2 := bi_lay hz.1
      rw [List.findIdx?_eq_some_iff_getElem] at hj
      obtain ⟨hj1, hj2, hj3⟩ := hj
      refine ⟨a, y, d2, ys, j, ys[j], rfl, rfl, h1.dp ?_, h2.dp l2.2.2, ?_, ?_, List.getElem?_eq_getElem hj1, hj2, fun m z' hm hz' => ?_, q _ H2 (p1.trans p2) (by show Fz X.K H2 (.int _) _; simp [Fz])⟩
      · rw [PyData.plain]; exact l1.2.2
      · unfold SeqAt.shaped
        rw [PyData.canLay0, l1.1, PyData.depth]
        simp
        omega
      · unfold SeqAt.shaped
        rw [l2.1]
        simp
        omega
      · have hml : m < ys.length := by omega
        rw [List.getElem?_eq_getElem hml] at hz'
        cases hz'
        simpa using hj3 m hm
    · cases hk
  | _ => cases hk
end
end Fw

/-! Fw: what is walked; targets -/
namespace Fw
open PySem PySem.Spec PyProof.Rows L2

/-- an iterator over the data xs, while P holds of the heap -/
def FixOk (K : PySem.W.Frag) (J : It) (xs : List D) (P : Hp → Prop) : Prop :=
  xs.length ≤ sizeLine ∧ ∀ i H, P H → (∀ d, xs[i]? = some d → J.go i H ∧ ∀ x H', J.yld i H x H' → Same H H' ∧ Fz K H' d x) ∧ (xs.length ≤ i → J.stop i H)
abbrev PinL (L : List (Addr × List V)) (H : Hp) : Prop := ∀ p ∈ L, H p.1 = some (.lst p.2)
/-- the iterator of what is walked -/
def SrcV (K : PySem.W.Frag) (σ : St) (H0 : Hp) (r : Env) (H : Hp) (J : It) : Src → Prop
  | .fixed xs => ∃ L : List (Addr × List V), PinL L H ∧ (∀ p ∈ L, ¬ Own r σ p.1 ∧ H0 p.1 = none) ∧ FixOk K J xs fun H2 => Kp H H2 ∧ PinL L H2
  | .byref i => ∃ a, σ[i]? = some (some (.ref a)) ∧ J = Itl K a
def tI (K : PySem.W.Frag) (Y : Yc) (m : M Src) : TI := fun σ H R => ∃ r, Gd K Y.T r σ H ∧ Wd (m r) (exK K Y r σ H) fun s r' => ∀ J H', Post K Y.T r σ H r' H' → SrcV K σ H r' H' J s → R J H'
theorem _root_.L2.PI.to {X : Cx} {tg e : Expr} {t t' : TI} (h : PI X tg e t) (f : ∀ σ H R, t' σ H R → t σ H R) : PI X tg e t' := ⟨fun pins s σ H R I q => h.run pins s σ H R I (f σ H R q)⟩
theorem fix_list {K : PySem.W.Frag} {H : Hp} {a : Addr} {ds : List D} {vs : List V} {P : Hp → Prop} (hz : vs.length ≤ sizeLine) (h : Fzs K H ds vs) (hk : ∀ H2, P H2 → Kp H H2 ∧ SqL K H2 a vs) : FixOk K (Itl K a) ds P := by
  have hl := h.length
  refine ⟨by omega, fun i H2 p => ⟨fun d e => ?_, fun hi => ?_⟩⟩
  · obtain ⟨k, sq⟩ := hk H2 p
    obtain ⟨v, h1, h2⟩ := h.get e
    refine ⟨⟨vs, v, sq, h1⟩, fun x H' ⟨e1, e2⟩ => ?_⟩
    subst e1
    have := e2 vs sq
    rw [h1] at this; cases this
    exact ⟨Same.refl _, Fz.keep k d v h2⟩
  · exact ⟨vs, (hk H2 p).2, by omega⟩
theorem fix_tup {K : PySem.W.Frag} {H : Hp} {a : Addr} {ds : List D} {vs : List V} {P : Hp → Prop} (hz : vs.length ≤ sizeLine) (h : Fzs K H ds vs) (hk : ∀ H2, P H2 → Kp H H2 ∧ SqT K H2 a vs) : FixOk K (Itt K a) ds P := by
  have hl := h.length
  refine ⟨by omega, fun i H2 p => ⟨fun d e => ?_, fun hi => ?_⟩⟩
  · obtain ⟨k, sq⟩ := hk H2 p
    obtain ⟨v, h1, h2⟩ := h.get e
    refine ⟨⟨vs, v, sq, h1⟩, fun x H' ⟨e1, e2⟩ => ?_⟩
    subst e1
    have := e2 vs sq
    rw [h1] at this; cases this
    exact ⟨Same.refl _, Fz.keep k d v h2⟩
  · exact ⟨vs, (hk H2 p).2, by omega⟩
/-- a list or a tuple, whichever stands there -/
def iSeq (K : PySem.W.Frag) (te : TE) : TI := fun σ H R => te σ H fun x H1 => ∃ a, x = .ref a ∧ ((∃ xs, SqL K H1 a xs ∧ (xs.length ≤ sizeLine → R (Itl K a) H1)) ∨ ∃ xs, SqT K H1 a xs ∧ (xs.length ≤ sizeLine → R (Itt K a) H1))
section
variable {CX : CXT} {X : Cx} {c : Cc} {Y : Yc} {G : Nat → Option D} {f : CE} {n : Nat} {σ : St} {H : Hp} {Q : VK}
theorem pi_seq {tg e : Expr} {te : TE} (he : PE X e te) : PI X tg e (iSeq X.K te) := by
  refine ⟨fun pins s σ H R I h => ?_⟩
  refine thn (he.run pins s σ H _ I h) fun v s1 ⟨x, H1, I1, r1, a, e, q⟩ => ?_
  subst e
  cases r1
  rcases q with ⟨xs, hq, q⟩ | ⟨xs, hq, q⟩
  · obtain ⟨its, rv, p, hz⟩ := I1.list hq
    refine wpAny_pyIter_list p.isList ?_
    refine ⟨s1.heap.objs.size, [s1.heap.objs.size], _, _, H1, rfl, I1.kept (t' := s1.toks) fun b o e => Heap.get?_push_of_some _ e, turn_list a _, ⟨_, Heap.get?_push_size _ rfl, rfl, rfl⟩, fun b hb => ?_, q hz⟩
    have e : b = s1.heap.objs.size := by simpa using hb
    subst e
    exact I1.fpOk (Nat.le_refl _) (I1.hok.fresh (Nat.le_refl _))
  · obtain ⟨its, rv, p, hz⟩ := I1.tuple hq
    refine wpAny_pyIter_tuple (show s1.heap.IsTuple a its.toArray from p) ?_
    refine ⟨s1.heap.objs.size, [s1.heap.objs.size], _, _, H1, rfl, I1.kept (t' := s1.toks) fun b o e => Heap.get?_push_of_some _ e, turn_tuple a _, ⟨_, Heap.get?_push_size _ rfl, rfl, rfl⟩, fun b hb => ?_, q hz⟩
    have e : b = s1.heap.objs.size := by simpa using hb
    subst e
    exact I1.fpOk (Nat.le_refl _) (I1.hok.fresh (Nat.le_refl _))
/-- a list that is walked -/
theorem src_list {K : PySem.W.Frag} {T : List Addr} {r r1 : Env} {H1 : Hp} {xs : List D} {v : V} {R : It → Hp → Prop} (p : Post K T r σ H r1 H1) (hv : Rdv K H1 (.list xs) v) (hn : ∀ a, v = .ref a → Fz K H1 (.list xs) v ∨ (¬ Own r1 σ a ∧ H a = none)) (q : ∀ J, SrcV K σ H r1 H1 J (.fixed xs) → R J H1) :
    ∃ a ys, v = .ref a ∧ SqL K H1 a ys ∧ (ys.length ≤ sizeLine → R (Itl K a) H1) := by
  obtain ⟨a, vs, rfl, h1, h2⟩ := hv.list
  refine ⟨a, vs, rfl, h1, fun hz => ?_⟩
  rcases hn a rfl with hf | hf
  · simp only [Fz] at hf
    obtain ⟨a', ws, e, h3, h4⟩ := hf
    cases e
    have hz' : ws.length ≤ sizeLine := by rw [← h4.length, h2.length]; exact hz
    exact q _ ⟨[], fun _ h => absurd h List.not_mem_nil, fun _ h => absurd h List.not_mem_nil, fix_list hz' h4 fun H2 z => ⟨z.1, (z.1.fzl h3).sql⟩⟩
  · rcases h1 with (h1 | ⟨o, h1⟩) | h1
    · refine q _ ⟨[(a, vs)], fun x hx => ?_, fun x hx => ?_, fix_list hz h2 fun H2 z => ⟨z.1, .inl (.inl (z.2 (a, vs) List.mem_cons_self))⟩⟩
      · rw [List.mem_singleton.mp hx]; exact h1
      · rw [List.mem_singleton.mp hx]; exact hf
    · exact q _ ⟨[], fun _ h => absurd h List.not_mem_nil, fun _ h => absurd h List.not_mem_nil, fix_list hz h2 fun H2 z => ⟨z.1, .inl (.inr ⟨o, z.1.frz _ _ _ h1⟩)⟩⟩
    · exact q _ ⟨[], fun _ h => absurd h List.not_mem_nil, fun _ h => absurd h List.not_mem_nil, fix_list hz h2 fun H2 z => ⟨z.1, .inr h1⟩⟩
/-- an operand that is walked -/
theorem src_val {r r1 : Env} {H1 : Hp} {d : D} {xs : List D} {v : V} {R : It → Hp → Prop} (p : Post X.K Y.T r σ H r1 H1) (hv : Rdv X.K H1 d v) (hs : seqOf d = some xs) (hn : ∀ a, v = .ref a → Fz X.K H1 d v ∨ (¬ Own r1 σ a ∧ H a = none)) (q : ∀ J, SrcV X.K σ H r1 H1 J (.fixed xs) → R J H1) :
    ∃ a, v = .ref a ∧ ((∃ xs, SqL X.K H1 a xs ∧ (xs.length ≤ sizeLine → R (Itl X.K a) H1)) ∨ ∃ xs, SqT X.K H1 a xs ∧ (xs.length ≤ sizeLine → R (Itt X.K a) H1)) := by
  rcases seqOf_cases hs with rfl | rfl
  · obtain ⟨a, ys, e, h1, h2⟩ := src_list p hv hn q
    exact ⟨a, e, .inl ⟨ys, h1, h2⟩⟩
  · obtain ⟨a, vs, rfl, h1, h2⟩ := hv.tuple
    exact ⟨a, rfl, .inr ⟨vs, h1, fun hz => q _ ⟨[], fun _ h => absurd h List.not_mem_nil, fun _ h => absurd h List.not_mem_nil, fix_tup hz h2 fun H2 z => ⟨z.1, z.1.sqt h1⟩⟩⟩⟩
theorem snd_src {tg e : Expr} {ie : E} {own : List Nat} (he : PE X e (tE X.K Y (ev G f ie))) : PI X tg e (tI X.K Y (bd (ev G f ie) (srcOf own))) := by
  refine (pi_seq he).to fun σ H R w => ?_
  obtain ⟨r, g, w⟩ := w
  refine ⟨r, g, w.bd.mono (fun _ _ z => z) fun o r1 e q x H1 p1 o1 => ?_⟩
  cases o with
  | ref i =>
    have q : Wd ((if own.contains i = true then (opt none : M Src) else bd (isOwn i) fun _ => ret (Src.byref i)) r1) (exK X.K Y r σ H) fun s r' => ∀ J H', Post X.K Y.T r σ H r' H' → SrcV X.K σ H r' H' J s → R J H' := q
    split at q
    · exact q.elim
    · have o1 : σ[i]? = some (some x) := o1
      have q := q.bd
      unfold isOwn at q
      obtain ⟨d, hd, q⟩ : ∃ d, r1[i]? = some (Sl.ow d) ∧ ∀ J H', Post X.K Y.T r σ H r1 H' → SrcV X.K σ H r1 H' J (.byref i) → R J H' := by
        cases e : r1[i]? with
        | none => rw [e] at q; exact q.elim
        | some z =>
          rw [e] at q
          cases z with
          | no => exact q.elim
          | fz d => exact q.elim
          | ow d => exact ⟨d, rfl, q⟩
      obtain ⟨v, h1, h2⟩ := p1.gd.ow i d hd
      rw [o1] at h1; cases h1
      cases d with
      | list ds =>
        obtain ⟨a, vs, rfl, h3, h4⟩ := h2
        exact ⟨a, rfl, .inl ⟨vs, .inl (.inl h3), fun hz => q _ H1 p1 ⟨a, o1, rfl⟩⟩⟩
      | _ => exact h2.elim
  | val d =>
    obtain ⟨s, hs, q⟩ := Wd.opt (show Wd (opt ((seqOf d).map Src.fixed) r1) (exK X.K Y r σ H) (fun s r' => ∀ J H', Post X.K Y.T r σ H r' H' → SrcV X.K σ H r' H' J s → R J H') from q)
    obtain ⟨xs, hs2, rfl⟩ := Option.map_eq_some_iff.mp hs
    exact src_val p1 (.inl o1) hs2 (fun a _ => .inl o1) fun J hJ => q J H1 p1 hJ
  | new d =>
    obtain ⟨s, hs, q⟩ := Wd.opt (show Wd (opt ((seqOf d).map Src.fixed) r1) (exK X.K Y r σ H) (fun s r' => ∀ J H', Post X.K Y.T r σ H r' H' → SrcV X.K σ H r' H' J s → R J H') from q)
    obtain ⟨xs, hs2, rfl⟩ := Option.map_eq_some_iff.mp hs
    refine src_val p1 (.inr o1.1) hs2 (fun a e => .inr ⟨fun z => ?_, o1.2 a e⟩) fun J hJ => q J H1 p1 hJ
    exact absurd (o1.2 a e) (p1.own_some g a z)

/-! ### range -/
theorem fix_rng {K : PySem.W.Frag} {J : It} {m : Nat} {P : Hp → Prop} (g : Nat → Int) (hm : m ≤ sizeLine) (h1 : ∀ i H, i < m → J.go i H) (h2 : ∀ i H x H', J.yld i H x H' → H' = H ∧ x = .int (g i)) (h3 : ∀ i H, m ≤ i → J.stop i H) : FixOk K J ((List.range m).map fun k => .int (g k)) P := by
  refine ⟨by simpa using hm, fun i H p => ⟨fun d e => ?_, fun hi => h3 i H (by simpa using hi)⟩⟩
  have hi : i < m := by
    have := (List.getElem?_eq_some_iff.mp e).1
    simpa using this
  refine ⟨h1 i H hi, fun x H' y => ?_⟩
  obtain ⟨rfl, rfl⟩ := h2 i H x H' y
  have : d = .int (g i) := by
    rw [List.getElem?_map, List.getElem?_range hi] at e
    cases e; rfl
  subst this
  exact ⟨Same.refl _, by simp [Fz]⟩
theorem srcv_fix {K : PySem.W.Frag} {r : Env} {J : It} {xs : List D} (h : ∀ P, FixOk K J xs P) : SrcV K σ H0 r H J (.fixed xs) :=
  ⟨[], fun _ h => absurd h List.not_mem_nil, fun _ h => absurd h List.not_mem_nil, h _⟩
theorem rng_to {ies : List E} {own : List Nat} {R : It → Hp → Prop} (w : tI X.K Y (bd (ev G f (.rng ies)) (srcOf own)) σ H R) :
    tA X.K Y (evs G f ies) σ H fun vs H1 => ∃ ds xs, Rds X.K H1 ds vs ∧ rangeOf ds = some xs ∧ ∀ J, (∀ P, FixOk X.K J xs P) → R J H1 := by
  obtain ⟨r, g, w⟩ := w
  simp only [ev] at w
  refine ⟨r, g, w.bd.bd.mono (fun _ _ z => z) fun os r1 e q vs H1 p1 ho => ?_⟩
  obtain ⟨ds, e2, q⟩ := q.bd.rdAll
  obtain ⟨xs, e3, q⟩ := q.bd.opt
  have q : ∀ J H', Post X.K Y.T r σ H r1 H' → SrcV X.K σ H r1 H' J (.fixed xs) → R J H' := q
  exact ⟨ds, xs, ho.rds p1.gd e2, e3, fun J hJ => q J H1 p1 (srcv_fix hJ)⟩
theorem Rds.len {K : PySem.W.Frag} : ∀ {ds : List D} {vs : List V}, Rds K H ds vs → ds.length = vs.length
  | [], vs, h => by
    have h : vs = [] := h
    rw [h]; rfl
  | d :: ds, vs, h => by
    obtain ⟨v, r, rfl, _, h2⟩ := h
    simp [Rds.len h2]
theorem tA_len {es : List Expr} {ies : List E} {vs : List V} : True := trivial
theorem snd_rng {tg : Expr} {p pos : Pos} {es : List Expr} {ies : List E} {own : List Nat} (C : Ck CX X c Y G f n) (hg : isGl c "range" = true) (hs : PA X es (tA X.K Y (evs G f ies))) (hes : es.all plainE = true) (hl : es.length = ies.length) (hc : 1 ≤ es.length ∧ es.length ≤ 3) :
    PI X tg (.Call (.Name "range" p) es [] pos) (tI X.K Y (bd (ev G f (.rng ies)) (srcOf own))) := by
  have hg := gl_of C hg
  have hm : X.mg "range" = none := C.bi _ (by decide +kernel)
  have key : ∀ {R : It → Hp → Prop} {σ : St} {H : Hp}, tI X.K Y (bd (ev G f (.rng ies)) (srcOf own)) σ H R → tA X.K Y (evs G f ies) σ H fun vs H1 => vs.length = ies.length ∧ ∃ ds xs, Rds X.K H1 ds vs ∧ rangeOf ds = some xs ∧ ∀ J, (∀ P, FixOk X.K J xs P) → R J H1 := fun {R σ H} w => by
    obtain ⟨r, g, w⟩ := rng_to w
    refine ⟨r, g, w.mono (fun _ _ z => z) fun os r1 e q vs H1 p1 ho => ⟨?_, q vs H1 p1 ho⟩⟩
    rw [ho.len, evs_len e]
  match es, hc, hes, hl, hs with
  | [a], _, hes, hl, hs =>
    rw [List.all_cons, Bool.and_eq_true] at hes
    refine (pi_range1 hg hm hs (by rw [plainE_star hes.1]; rfl)).to fun σ H R w => ?_
    obtain ⟨r, g, w⟩ := key w
    refine ⟨r, g, w.mono (fun _ _ z => z) fun os r1 e q vs H1 p1 ho => ?_⟩
    obtain ⟨hlen, ds, xs, hr, e1, q⟩ := q vs H1 p1 ho
    have hdl : ds.length = 1 := by rw [hr.len, hlen, ← hl]; rfl
    match ds, hdl, hr, e1 with
    | [d], _, hr, e1 =>
      obtain ⟨v, rfl, h1⟩ := hr.one
      cases d with
      | int j =>
        have := h1.int
        subst this
        simp only [rangeOf] at e1
        split at e1
        · rename_i hb
          cases e1
          have hz := sizeLine_eq
          refine ⟨j, rfl, by omega, by omega, q _ fun P => ?_⟩
          refine fix_rng (fun k => (k : Int)) (by omega) (fun i H h => h) (fun i H x H' y => ?_) (fun i H h => h)
          obtain ⟨y1, y2⟩ := y
          exact ⟨y1, by rw [y2]; simp⟩
        · cases e1
      | _ => cases e1
  | [a, b], _, hes, hl, hs =>
    simp only [List.all_cons, Bool.and_eq_true] at hes
    refine (pi_range2 hg hm hs (by rw [plainE_star hes.1, plainE_star hes.2.1]; rfl) (by rw [plainE_star hes.2.1]; rfl)).to fun σ H R w => ?_
    obtain ⟨r, g, w⟩ := key w
    refine ⟨r, g, w.mono (fun _ _ z => z) fun os r1 e q vs H1 p1 ho => ?_⟩
    obtain ⟨hlen, ds, xs, hr, e1, q⟩ := q vs H1 p1 ho
    have hdl : ds.length = 2 := by rw [hr.len, hlen, ← hl]; rfl
    match ds, hdl, hr, e1 with
    | [d, d2], _, hr, e1 =>
      obtain ⟨v, v2, rfl, h1, h2⟩ := hr.two
      cases d with
      | int i =>
        cases d2 with
        | int j =>
          have := h1.int
          subst this
          have := h2.int
          subst this
          simp only [rangeOf] at e1
          split at e1
          · rename_i hb
            cases e1
            have hz := sizeLine_eq
            refine ⟨i, j, rfl, by omega, q _ fun P => ?_⟩
            exact fix_rng (fun k => i + (k : Int)) hb.1 (fun k H h => h) (fun k H x H' y => y) (fun k H h => h)
          · cases e1
        | _ => cases e1
      | _ => cases e1
  | [a, b, c'], _, hes, hl, hs =>
    simp only [List.all_cons, Bool.and_eq_true] at hes
    refine (pi_range3 hg hm hs (by rw [plainE_star hes.1]) (plainE_any (by simp [hes.2.1, hes.2.2.1]) _ _)).to fun σ H R w => ?_
    obtain ⟨r, g, w⟩ := key w
    refine ⟨r, g, w.mono (fun _ _ z => z) fun os r1 e q vs H1 p1 ho => ?_⟩
    obtain ⟨hlen, ds, xs, hr, e1, q⟩ := q vs H1 p1 ho
    have hdl : ds.length = 3 := by rw [hr.len, hlen, ← hl]; rfl
    match ds, hdl, hr, e1 with
    | [d, d2, d3], _, hr, e1 =>
      obtain ⟨v, vr, rfl, h1, hr⟩ := hr
      obtain ⟨v2, v3, rfl, h2, h3⟩ := Rds.two hr
      cases d with
      | int i =>
        cases d2 with
        | int j =>
          cases d3 with
          | int k =>
            have := h1.int
            subst this
            have := h2.int
            subst this
            have := h3.int
            subst this
            simp only [rangeOf] at e1
            split at e1
            · rename_i hb
              cases e1
              refine ⟨i, j, k, (Builtin.Range.rangeSize i j k).toNat, rfl, ⟨hb.1, hb.2.1, hb.2.2.1, ?_⟩, q _ fun P => ?_⟩
              · exact PyProof.Rows.rangeSize_toNat i j k
              · exact fix_rng (fun m => i + (m : Nat) * k) hb.2.2.2 (fun k H h => h) (fun k H x H' y => y) (fun k H h => h)
            · cases e1
          | _ => cases e1
        | _ => cases e1
      | _ => cases e1
  | [], hc, _, _, _ => exact absurd hc.1 (by decide)
  | _ :: _ :: _ :: _ :: _, hc, _, _, _ => exact absurd hc.2 (by simp)
end
end Fw

/-! Fw: targets, what a statement leaves -/
namespace Fw
open PySem PySem.Spec PyProof.Rows L2

/-- behind what may store: A the slots -/
structure SPost (K : PySem.W.Frag) (T : List Addr) (A : List Nat) (r : Env) (σ : St) (H : Hp) (r' : Env) (σ' : St) (H' : Hp) : Prop where
  gd : Gd K T r' σ' H'
  ext : ∀ a o, H a = some o → (∀ ps, o ≠ .tbl ps) → ¬ Own r σ a → H' a = some o
  sub : ∀ a, Own r' σ' a → Own r σ a ∨ H a = none
  tr : ∀ a, H a ≠ none → H' a ≠ none
  keep : ∀ i, i ∉ A → σ'[i]? = σ[i]?
  len : σ'.length = σ.length
section
variable {K : PySem.W.Frag} {T : List Addr} {A B : List Nat} {r r' r'' : Env} {σ σ' σ'' : St} {H H' H'' : Hp}
theorem SPost.of (p : Post K T r σ H r' H') : SPost K T A r σ H r' σ H' := ⟨p.gd, p.ext, fun a h => .inl (p.sub a h), p.tr, fun _ _ => rfl, rfl⟩
theorem SPost.trans (p : SPost K T A r σ H r' σ' H') (q : SPost K T B r' σ' H' r'' σ'' H'') : SPost K T (A ++ B) r σ H r'' σ'' H'' := by
  refine ⟨q.gd, fun a o h1 h2 h3 => q.ext a o (p.ext a o h1 h2 h3) h2 fun h4 => ?_, fun a h => ?_, fun a h => q.tr a (p.tr a h), fun i h => ?_, by rw [q.len, p.len]⟩
  · rcases p.sub a h4 with h5 | h5
    · exact h3 h5
    · rw [h5] at h1; cases h1
  · rcases q.sub a h with h1 | h1
    · exact p.sub a h1
    · right
      cases e : H a with
      | none => rfl
      | some o => exact absurd h1 (p.tr a (by rw [e]; simp))
  · rw [List.mem_append, not_or] at h
    rw [q.keep i h.2, p.keep i h.1]
theorem SPost.wide (p : SPost K T A r σ H r' σ' H') (h : ∀ i ∈ A, i ∈ B) : SPost K T B r σ H r' σ' H' := ⟨p.gd, p.ext, p.sub, p.tr, fun i hi => p.keep i fun z => hi (h i z), p.len⟩
theorem SPost.kp (g : Gd K T r σ H) (p : SPost K T A r σ H r' σ' H') : Kp H H' := by
  refine ⟨fun a o u h => p.ext a _ h (fun ps z => by cases z) fun q => ?_, fun a xs h => p.ext a _ h (fun ps z => by cases z) fun q => ?_⟩
  · obtain ⟨xs, e⟩ := g.own q; rw [h] at e; cases e
  · obtain ⟨xs, e⟩ := g.own q; rw [h] at e; cases e
/-- a slot is stored into: known data -/
theorem spost_fz (g : Gd K T r σ H) {i : Nat} {d : D} {v : V} (hi : i < r.length) (hv : Fz K H d v) : SPost K T [i] r σ H (r.set i (.fz d)) (σ.set i (some v)) H := by
  have is : i < σ.length := by rw [← g.len]; exact hi
  have own : ∀ {j : Nat} {e : D} {w : V}, (r.set i (.fz d))[j]? = some (.ow e) → (σ.set i (some v))[j]? = some (some w) → j ≠ i ∧ r[j]? = some (.ow e) ∧ σ[j]? = some (some w) := fun {j e w} h1 h2 => by
    by_cases hj : i = j
    · subst hj; rw [List.getElem?_set_self hi] at h1; cases h1
    · rw [List.getElem?_set_ne hj] at h1 h2
      exact ⟨fun z => hj z.symm, h1, h2⟩
  refine ⟨⟨by rw [List.length_set, List.length_set]; exact g.len, fun j e h => ?_, fun j e h => ?_, fun j j' e e' w h1 h2 h3 h4 => ?_, g.tb⟩, fun a o h _ _ => h, fun a h => ?_, fun a h => h, fun j hj => ?_, by rw [List.length_set]⟩
  · by_cases hj : i = j
    · subst hj
      rw [List.getElem?_set_self hi] at h; cases h
      exact ⟨v, List.getElem?_set_self is, hv⟩
    · rw [List.getElem?_set_ne hj] at h
      rw [List.getElem?_set_ne hj]
      exact g.fz j e h
  · by_cases hj : i = j
    · subst hj; rw [List.getElem?_set_self hi] at h; cases h
    · rw [List.getElem?_set_ne hj] at h
      rw [List.getElem?_set_ne hj]
      exact g.ow j e h
  · obtain ⟨_, a1, a2⟩ := own h1 h3
    obtain ⟨_, b1, b2⟩ := own h2 h4
    exact g.inj j j' e e' w a1 b1 a2 b2
  · obtain ⟨j, e, h1, h2⟩ := h
    obtain ⟨_, a1, a2⟩ := own h1 h2
    exact .inl ⟨j, e, a1, a2⟩
  · rw [List.getElem?_set_ne (fun z => hj (by rw [z]; exact List.mem_cons_self))]
/-- .. a new list of its own -/
theorem spost_ow (g : Gd K T r σ H) {i : Nat} {d : D} {a : Addr} (hi : i < r.length) (hv : OwD K H d (.ref a)) (hn : ¬ Own r σ a) {H0 : Hp} {r0 : Env} (h0 : H0 a = none) (p0 : Post K T r0 σ H0 r H) : SPost K T [i] r0 σ H0 (r.set i (.ow d)) (σ.set i (some (.ref a))) H := by
  have is : i < σ.length := by rw [← g.len]; exact hi
  have cs : ∀ {j : Nat} {e : D} {w : V}, (r.set i (.ow d))[j]? = some (.ow e) → (σ.set i (some (V.ref a)))[j]? = some (some w) → (j = i ∧ w = .ref a) ∨ (j ≠ i ∧ r[j]? = some (.ow e) ∧ σ[j]? = some (some w)) := fun {j e w} h1 h2 => by
    by_cases hj : i = j
    · subst hj
      rw [List.getElem?_set_self is] at h2; cases h2
      exact .inl ⟨rfl, rfl⟩
    · rw [List.getElem?_set_ne hj] at h1 h2
      exact .inr ⟨fun z => hj z.symm, h1, h2⟩
  refine ⟨⟨by rw [List.length_set, List.length_set]; exact g.len, fun j e h => ?_, fun j e h => ?_, fun j j' e e' w h1 h2 h3 h4 => ?_, g.tb⟩, p0.ext, fun b h => ?_, p0.tr, fun j hj => ?_, by rw [List.length_set]⟩
  · by_cases hj : i = j
    · subst hj; rw [List.getElem?_set_self hi] at h; cases h
    · rw [List.getElem?_set_ne hj] at h
      rw [List.getElem?_set_ne hj]
      exact g.fz j e h
  · by_cases hj : i = j
    · subst hj
      rw [List.getElem?_set_self hi] at h; cases h
      exact ⟨_, List.getElem?_set_self is, hv⟩
    · rw [List.getElem?_set_ne hj] at h
      rw [List.getElem?_set_ne hj]
      exact g.ow j e h
  · rcases cs h1 h3 with ⟨rfl, rfl⟩ | ⟨n1, a1, a2⟩ <;> rcases cs h2 h4 with ⟨rfl, b0⟩ | ⟨n2, b1, b2⟩
    · rfl
    · exact absurd ⟨j', e', b1, b2⟩ hn
    · subst b0
      exact absurd ⟨j, e, a1, a2⟩ hn
    · exact g.inj j j' e e' w a1 b1 a2 b2
  · obtain ⟨j, e, h1, h2⟩ := h
    rcases cs h1 h2 with ⟨rfl, z⟩ | ⟨_, a1, a2⟩
    · cases z
      exact .inr h0
    · exact .inl (p0.sub b ⟨j, e, a1, a2⟩)
  · rw [List.getElem?_set_ne (fun z => hj (by rw [z]; exact List.mem_cons_self))]
end

/-! ### targets -/
/-- the reading of a target: the value is known data -/
def tG (K : PySem.W.Frag) (T : List Addr) (t : Tg) : TG := fun v σ H Q => ∃ r d r', Gd K T r σ H ∧ Fz K H d v ∧ asg t d r = some r' ∧ ∀ σ', SPost K T (tgSl t) r σ H r' σ' H → Q σ' H
def tGs (K : PySem.W.Frag) (T : List Addr) (ts : List Tg) : TGs := fun vs σ H Q => ∃ r ds r', Gd K T r σ H ∧ Fzs K H ds vs ∧ asgs ts ds r = some r' ∧ ∀ σ', SPost K T (tgsSl ts) r σ H r' σ' H → Q σ' H
theorem _root_.L2.PG.to {X : Cx} {e : Expr} {t t' : TG} (h : PG X e t) (f : ∀ v σ H Q, t' v σ H Q → t v σ H Q) : PG X e t' := ⟨fun pins s σ H v u Q I r q => h.run pins s σ H v u Q I r (f v σ H Q q)⟩
theorem _root_.L2.PGs.to {X : Cx} {e : List Expr} {t t' : TGs} (h : PGs X e t) (f : ∀ v σ H Q, t' v σ H Q → t v σ H Q) : PGs X e t' := ⟨fun pins s σ H v u Q I r q => h.run pins s σ H v u Q I r (f v σ H Q q)⟩
/-- a store into a name -/
theorem slot_loc {CX : CXT} {X : Cx} {c : Cc} {Y : Yc} {G : Nat → Option D} {f : CE} {n : Nat} {x : Str} {i : Nat} (C : Ck CX X c Y G f n) (h : slotOf c x = some i) (hs : c.st.contains x = true) : X.N[i]? = some x ∧ Loc X.env.scope x ∧ (X.fn x = true ∨ X.env.scope.names.lookup x = some .local) := by
  obtain ⟨h1, h2, _⟩ := slot_vis C h
  refine ⟨h1, ?_⟩
  rw [C.sc]
  rcases C.st x hs with e | ⟨e, e2⟩
  · exact ⟨.inl e, .inr e⟩
  · exact ⟨.inr e, .inl e2⟩
/-- an expression that may be a target: a name, a tuple -/
def tgE : Expr → Bool
  | .Name .. => true
  | .Tuple .. => true
  | _ => false
theorem tgE_map {e : Expr} (h : tgE e = true) (es : List Expr) (env : PySem.Env) : assignEach (e :: es) env = (false, assign e env) :: assignEach es env := by
  cases e <;> first | rfl | cases h
theorem tgE_len {env : PySem.Env} : ∀ {es : List Expr}, es.all tgE = true → (assignEach es env).length = es.length ∧ (assignEach es env).findIdx? (·.1) = none
  | [], _ => ⟨rfl, rfl⟩
  | e :: es, h => by
    rw [List.all_cons, Bool.and_eq_true] at h
    obtain ⟨h1, h2⟩ := tgE_len (env := env) h.2
    rw [tgE_map h.1]
    refine ⟨by simp [h1], ?_⟩
    rw [List.findIdx?_cons, h2]; rfl
theorem asgs_len : ∀ {ts : List Tg} {ds : List D} {r r' : Env}, asgs ts ds r = some r' → ds.length = ts.length
  | [], [], _, _, _ => rfl
  | [], _ :: _, _, _, h => by simp [asgs] at h
  | _ :: _, [], _, _, h => by simp [asgs] at h
  | t :: ts, d :: ds, r, r', h => by
    simp only [asgs] at h
    obtain ⟨r1, h1, h2⟩ := Option.bind_eq_some_iff.mp h
    simp [asgs_len h2]
theorem cTgs_len {c : Cc} : ∀ {es : List Expr} {m : Nat} {ts : List Tg}, cTgs c m es = some ts → ts.length = es.length ∧ es.all tgE = true
  | [], m, ts, h => by
    cases m with
    | zero => simp [cTgs] at h
    | succ m => simp only [cTgs] at h; cases h; exact ⟨rfl, rfl⟩
  | e :: es, m, ts, h => by
    cases m with
    | zero => simp [cTgs] at h
    | succ m =>
      simp only [cTgs] at h
      obtain ⟨t, h1, h2⟩ := Option.bind_eq_some_iff.mp h
      obtain ⟨us, h3, rfl⟩ := Option.map_eq_some_iff.mp h2
      obtain ⟨h4, h5⟩ := cTgs_len h3
      refine ⟨by simp [h4], ?_⟩
      rw [List.all_cons, h5, Bool.and_true]
      cases m with
      | zero => simp [cTg] at h1
      | succ m => cases e <;> first | rfl | (simp [cTg] at h1; done)
theorem snd_tg {CX : CXT} {X : Cx} {c : Cc} {Y : Yc} {G : Nat → Option D} {f : CE} {n : Nat} (C : Ck CX X c Y G f n) : ∀ (m : Nat), (∀ (e : Expr) (t : Tg), cTg c m e = some t → PG X e (tG X.K Y.T t)) ∧ (∀ (es : List Expr) (ts : List Tg), cTgs c m es = some ts → PGs X es (tGs X.K Y.T ts)) := by
  intro m
  induction m with
  | zero => exact ⟨fun e t h => by simp [cTg] at h, fun es ts h => by simp [cTgs] at h⟩
  | succ m ih =>
    obtain ⟨ih1, ih2⟩ := ih
    constructor
    · intro e t h
      cases e with
      | Name x pos =>
        simp only [cTg] at h
        split at h
        · rename_i hs
          split at h
          · rename_i i hi
            split at h
            · cases h
            · cases h
              obtain ⟨h1, h2, h3⟩ := slot_loc C hi hs
              refine (pg_name C.nd h1 h2 h3).to fun v σ H Q w => ?_
              obtain ⟨r, d, r', g, hv, ha, q⟩ := w
              simp only [asg] at ha
              split at ha
              · rename_i hl
                cases ha
                exact q _ (spost_fz g hl hv)
              · cases ha
          · cases h
        · cases h
      | Tuple es k pos =>
        simp only [cTg] at h
        split at h
        · rename_i hca
          obtain ⟨ts, h1, rfl⟩ := Option.map_eq_some_iff.mp h
          obtain ⟨hl, ha⟩ := cTgs_len h1
          obtain ⟨l1, l2⟩ := tgE_len (env := X.env) ha
          have pt := pg_tup (k := k) (pos := pos) (C.calm hca) (ih2 es ts h1) l1 l2
          have pl := pg_lst (k := k) (pos := pos) (C.calm hca) (ih2 es ts h1) l1 l2
          refine ⟨fun pins s σ H v u Q I rv w => ?_⟩
          obtain ⟨r, d, r', g, hv, ha, q⟩ := w
          simp only [asg] at ha
          cases d with
          | tuple ds =>
            have ha : asgs ts ds r = some r' := ha
            simp only [Fz] at hv
            obtain ⟨a, xs, e1, h3, h4⟩ := hv
            exact pt.run pins s σ H v u Q I rv ⟨a, xs, e1, h3, by rw [← h4.length, asgs_len ha, hl], r, ds, r', g, h4, ha, q⟩
          | list ds =>
            have ha : asgs ts ds r = some r' := ha
            simp only [Fz] at hv
            obtain ⟨a, xs, e1, h3, h4⟩ := hv
            exact pl.run pins s σ H v u Q I rv ⟨a, xs, e1, h3.sql, by rw [← h4.length, asgs_len ha, hl], r, ds, r', g, h4, ha, q⟩
          | _ => cases ha
        · split at h
          · rename_i hhb
            obtain ⟨ts, h1, rfl⟩ := Option.map_eq_some_iff.mp h
            obtain ⟨hl, ha⟩ := cTgs_len h1
            obtain ⟨l1, l2⟩ := tgE_len (env := X.env) ha
            have pt := pg_tupH (k := k) (pos := pos) (C.hot hhb) (ih2 es ts h1) l1 l2
            refine ⟨fun pins s σ H v u Q I rv w => ?_⟩
            obtain ⟨r, d, r', g, hv, ha, q⟩ := w
            simp only [asg] at ha
            cases d with
            | tuple ds =>
              have ha : asgs ts ds r = some r' := ha
              simp only [Fz] at hv
              obtain ⟨a, xs, e1, h3, h4⟩ := hv
              exact pt.run pins s σ H v u Q I rv ⟨a, xs, e1, h3, by rw [← h4.length, asgs_len ha, hl], r, ds, r', g, h4, ha, q⟩
            | _ => cases ha
          · cases h
      | _ => simp [cTg] at h
    · intro es ts h
      cases es with
      | nil =>
        simp only [cTgs] at h
        cases h
        refine pgs_nil.to fun vs σ H Q w => ?_
        obtain ⟨r, ds, r', g, hv, ha, q⟩ := w
        cases ds with
        | nil =>
          simp only [asgs] at ha
          cases ha
          exact ⟨by simpa [Fzs] using hv, q σ (SPost.of (.refl g))⟩
        | cons d ds => simp [asgs] at ha
      | cons e es =>
        have hh := h
        simp only [cTgs] at h
        obtain ⟨t, h1, h2⟩ := Option.bind_eq_some_iff.mp h
        obtain ⟨us, h3, rfl⟩ := Option.map_eq_some_iff.mp h2
        have ha := (cTgs_len hh).2
        rw [List.all_cons, Bool.and_eq_true] at ha
        refine (pgs_cons (ih1 e t h1) (ih2 es us h3) (by rw [tgE_map ha.1]; rfl)).to fun vs σ H Q w => ?_
        obtain ⟨r, ds, r', g, hv, ha, q⟩ := w
        cases ds with
        | nil => simp [asgs] at ha
        | cons d ds =>
          simp only [asgs] at ha
          obtain ⟨r1, a1, a2⟩ := Option.bind_eq_some_iff.mp ha
          simp only [Fzs] at hv
          obtain ⟨v, vr, rfl, v1, v2⟩ := hv
          refine ⟨v, vr, rfl, r, d, r1, g, v1, a1, fun σ1 p1 => ?_⟩
          exact ⟨r1, ds, r', p1.gd, v2, a2, fun σ2 p2 => q σ2 (p1.trans p2)⟩
theorem cTg_sl {c : Cc} : ∀ (m : Nat), (∀ (e : Expr) (t : Tg), cTg c m e = some t → ∀ i ∈ tgSl t, ∃ x, c.st.contains x = true ∧ slotOf c x = some i) ∧ (∀ (es : List Expr) (ts : List Tg), cTgs c m es = some ts → ∀ i ∈ tgsSl ts, ∃ x, c.st.contains x = true ∧ slotOf c x = some i) := by
  intro m
  induction m with
  | zero => exact ⟨fun e t h => by simp [cTg] at h, fun es ts h => by simp [cTgs] at h⟩
  | succ m ih =>
    obtain ⟨ih1, ih2⟩ := ih
    constructor
    · intro e t h i hi
      cases e with
      | Name x pos =>
        simp only [cTg] at h
        split at h
        · rename_i hs
          split at h
          · rename_i j hj
            split at h
            · cases h
            · cases h
              simp only [tgSl, List.mem_singleton] at hi
              subst hi
              exact ⟨x, hs, hj⟩
          · cases h
        · cases h
      | Tuple es k pos =>
        simp only [cTg] at h
        split at h
        · obtain ⟨ts, h1, rfl⟩ := Option.map_eq_some_iff.mp h
          simp only [tgSl] at hi
          exact ih2 es ts h1 i hi
        · split at h
          · obtain ⟨ts, h1, rfl⟩ := Option.map_eq_some_iff.mp h
            simp only [tgSl] at hi
            exact ih2 es ts h1 i hi
          · cases h
      | _ => simp [cTg] at h
    · intro es ts h i hi
      cases es with
      | nil =>
        simp only [cTgs] at h
        cases h
        simp [tgsSl] at hi
      | cons e es =>
        simp only [cTgs] at h
        obtain ⟨t, h1, h2⟩ := Option.bind_eq_some_iff.mp h
        obtain ⟨us, h3, rfl⟩ := Option.map_eq_some_iff.mp h2
        simp only [tgsSl, List.mem_append] at hi
        rcases hi with hi | hi
        · exact ih1 e t h1 i hi
        · exact ih2 es us h3 i hi
end Fw

/-! Fw: list comprehensions -/
namespace Fw
open PySem PySem.Spec PyProof.Rows L2

/-! ### the slots of a block -/
theorem wipe_in : ∀ {own : List Nat} {r : Env} {i : Nat}, i ∈ own → ∀ d, (wipe own r)[i]? ≠ some (.fz d) ∧ (wipe own r)[i]? ≠ some (.ow d) := by
  intro own r i hi d
  have key : ∀ (own : List Nat) (r : Env), ((i ∈ own) ∨ ((r[i]? ≠ some (.fz d)) ∧ (r[i]? ≠ some (.ow d)))) → (wipe own r)[i]? ≠ some (.fz d) ∧ (wipe own r)[i]? ≠ some (.ow d) := by
    intro own
    induction own with
    | nil =>
      intro r h
      rcases h with h | h
      · cases h
      · exact h
    | cons j own ih =>
      intro r h
      show (wipe own (r.set j .no))[i]? ≠ _ ∧ (wipe own (r.set j .no))[i]? ≠ _
      refine ih _ ?_
      by_cases hj : j = i
      · subst hj
        right
        by_cases hl : j < r.length
        · rw [List.getElem?_set_self hl]
          exact ⟨(fun z => by cases z), fun z => by cases z⟩
        · rw [List.getElem?_eq_none (by rw [List.length_set]; omega)]
          exact ⟨(fun z => by cases z), fun z => by cases z⟩
      · rcases h with h | h
        · rcases List.mem_cons.mp h with h | h
          · exact absurd h.symm hj
          · exact .inl h
        · right
          rw [List.getElem?_set_ne hj]
          exact h
  exact key own r (.inl hi)
theorem wipe_out : ∀ {own : List Nat} {r : Env} {i : Nat}, i ∉ own → (wipe own r)[i]? = r[i]?
  | [], r, i, _ => rfl
  | j :: own, r, i, h => by
    show (wipe own (r.set j .no))[i]? = _
    rw [List.mem_cons, not_or] at h
    rw [wipe_out h.2, List.getElem?_set_ne (fun z => h.1 z.symm)]
theorem wipe_len : ∀ {own : List Nat} {r : Env}, (wipe own r).length = r.length
  | [], r => rfl
  | j :: own, r => by
    show (wipe own (r.set j .no)).length = _
    rw [wipe_len, List.length_set]
theorem wipeS_out : ∀ {own : List Nat} {σ : St} {i : Nat}, i ∉ own → (L2.wipe σ own)[i]? = σ[i]?
  | [], σ, i, _ => rfl
  | j :: own, σ, i, h => by
    rw [List.mem_cons, not_or] at h
    unfold L2.wipe
    rw [List.getElem?_set_ne (fun z => h.1 z.symm), wipeS_out h.2]
theorem wipeS_in : ∀ {own : List Nat} {σ : St} {i : Nat}, i ∈ own → i < σ.length → (L2.wipe σ own)[i]? = some none
  | [], σ, i, h, _ => by cases h
  | j :: own, σ, i, h, hl => by
    unfold L2.wipe
    by_cases hj : j = i
    · subst hj
      rw [List.getElem?_set_self (by rw [wipe_length]; exact hl)]
    · rw [List.getElem?_set_ne hj]
      rcases List.mem_cons.mp h with h | h
      · exact absurd h.symm hj
      · exact wipeS_in h hl
/-- two states that agree but for a block's own slots -/
theorem wipeS_eq {own : List Nat} {σ τ : St} (hl : σ.length = τ.length) (h : ∀ i, i ∉ own → σ[i]? = τ[i]?) : L2.wipe σ own = L2.wipe τ own := by
  refine List.ext_getElem? fun i => ?_
  by_cases hi : i ∈ own
  · by_cases hs : i < σ.length
    · rw [wipeS_in hi hs, wipeS_in hi (by omega)]
    · rw [List.getElem?_eq_none (by rw [wipe_length]; omega), List.getElem?_eq_none (by rw [wipe_length]; omega)]
  · rw [wipeS_out hi, wipeS_out hi, h i hi]
theorem back_in : ∀ {own : List Nat} {r0 r : Env} {i : Nat}, i ∈ own → i < r.length → (back own r0 r)[i]? = some (r0.getD i .no)
  | [], _, _, _, h, _ => by cases h
  | j :: own, r0, r, i, h, hl => by
    show (back own r0 (r.set j (r0.getD j .no)))[i]? = _
    by_cases hi : i ∈ own
    · exact back_in hi (by rw [List.length_set]; exact hl)
    · have key : ∀ (own : List Nat) (r : Env), i ∉ own → (back own r0 r)[i]? = r[i]? := by
        intro own
        induction own with
        | nil => intro r _; rfl
        | cons k own ih =>
          intro r hk
          rw [List.mem_cons, not_or] at hk
          show (back own r0 (r.set k (r0.getD k .no)))[i]? = _
          rw [ih _ hk.2, List.getElem?_set_ne (fun z => hk.1 z.symm)]
      rw [key own _ hi]
      rcases List.mem_cons.mp h with h | h
      · subst h
        rw [List.getElem?_set_self hl]
      · exact absurd h hi
theorem back_out : ∀ {own : List Nat} {r0 r : Env} {i : Nat}, i ∉ own → (back own r0 r)[i]? = r[i]?
  | [], _, r, _, _ => rfl
  | k :: own, r0, r, i, hk => by
    rw [List.mem_cons, not_or] at hk
    show (back own r0 (r.set k (r0.getD k .no)))[i]? = _
    rw [back_out hk.2, List.getElem?_set_ne (fun z => hk.1 z.symm)]
theorem back_len : ∀ {own : List Nat} {r0 r : Env}, (back own r0 r).length = r.length
  | [], _, _ => rfl
  | k :: own, r0, r => by
    show (back own r0 (r.set k (r0.getD k .no))).length = _
    rw [back_len, List.length_set]
section
variable {K : PySem.W.Frag} {T : List Addr} {own : List Nat} {r r1 : Env} {σ τ : St} {H H' : Hp}
theorem own_wipe {a : Addr} (h : Own (wipe own r) (L2.wipe σ own) a) : Own r σ a := by
  obtain ⟨i, d, e1, e2⟩ := h
  have hi : i ∉ own := fun z => (wipe_in z d).2 e1
  rw [wipe_out hi] at e1
  rw [wipeS_out hi] at e2
  exact ⟨i, d, e1, e2⟩
/-- into a block; from the end of a turn to the next one: τ agrees with σ but for own -/
theorem gd_wipe (g : Gd K T r τ H) (h : L2.wipe τ own = L2.wipe σ own) : Gd K T (wipe own r) (L2.wipe σ own) H := by
  rw [← h]
  have cs : ∀ {i : Nat} {d : D}, ((wipe own r)[i]? = some (.fz d) ∨ (wipe own r)[i]? = some (.ow d)) → i ∉ own := fun {i d} e z => by
    rcases e with e | e
    · exact (wipe_in z d).1 e
    · exact (wipe_in z d).2 e
  refine ⟨by rw [wipe_len, wipe_length]; exact g.len, fun i d e => ?_, fun i d e => ?_, fun i j d e v h1 h2 h3 h4 => ?_, g.tb⟩
  · have hi := cs (.inl e)
    rw [wipe_out hi] at e
    rw [wipeS_out hi]
    exact g.fz i d e
  · have hi := cs (.inr e)
    rw [wipe_out hi] at e
    rw [wipeS_out hi]
    exact g.ow i d e
  · have hi := cs (.inr h1)
    have hj := cs (.inr h2)
    rw [wipe_out hi] at h1
    rw [wipe_out hj] at h2
    rw [wipeS_out hi] at h3
    rw [wipeS_out hj] at h4
    exact g.inj i j d e v h1 h2 h3 h4
/-- out of a block -/
theorem post_back (g : Gd K T r σ H) (p : Post K T (wipe own r) (L2.wipe σ own) H (wipe own r1) H') (hl : r1.length = r.length) : Post K T r σ H (back own r r1) H' := by
  have k := p.kp (gd_wipe g rfl)
  have low : ∀ i, i ∈ own → i < r1.length → (back own r r1)[i]? = r[i]? := fun i hi hl' => by
    rw [back_in hi hl', List.getD_eq_getElem?_getD]
    cases e : r[i]? with
    | none => rw [List.getElem?_eq_none_iff] at e; omega
    | some z => rfl
  have get : ∀ {i : Nat} {z : Sl}, (back own r r1)[i]? = some z → (i ∈ own ∧ r[i]? = some z) ∨ (i ∉ own ∧ (wipe own r1)[i]? = some z) := fun {i z} e => by
    have hlt : i < r1.length := by
      have := (List.getElem?_eq_some_iff.mp e).1
      rw [back_len] at this; exact this
    by_cases hi : i ∈ own
    · rw [low i hi hlt] at e
      exact .inl ⟨hi, e⟩
    · rw [back_out hi] at e
      exact .inr ⟨hi, by rw [wipe_out hi]; exact e⟩
  -- a slot's own list that the block has not seen
  have still : ∀ {i : Nat} {d : D} {v : V}, i ∈ own → r[i]? = some (.ow d) → σ[i]? = some (some v) → OwD K H d v → OwD K H' d v := fun {i d v} hi e1 e2 h => by
    refine h.keep k fun a xs e3 e4 => p.ext a _ e4 (fun _ z => by cases z) fun z => ?_
    subst e3
    obtain ⟨j, d', h1, h2⟩ := z
    have hj : j ∉ own := fun z => (wipe_in z d').2 h1
    rw [wipe_out hj] at h1
    rw [wipeS_out hj] at h2
    have := g.inj i j d d' _ e1 h1 e2 h2
    subst this
    exact hj hi
  have ownB : ∀ {a : Addr}, Own (back own r r1) σ a → Own r σ a ∧ ((∃ i d, i ∈ own ∧ r[i]? = some (.ow d) ∧ σ[i]? = some (some (.ref a))) ∨ Own (wipe own r1) (L2.wipe σ own) a) := fun {a} h => by
    obtain ⟨i, d, e1, e2⟩ := h
    rcases get e1 with ⟨hi, e⟩ | ⟨hi, e⟩
    · exact ⟨⟨i, d, e, e2⟩, .inl ⟨i, d, hi, e, e2⟩⟩
    · have o2 : Own (wipe own r1) (L2.wipe σ own) a := ⟨i, d, e, by rw [wipeS_out hi]; exact e2⟩
      exact ⟨own_wipe (p.sub a o2), .inr o2⟩
  refine ⟨⟨by rw [back_len, hl]; exact g.len, fun i d e => ?_, fun i d e => ?_, fun i j d e v h1 h2 h3 h4 => ?_, p.gd.tb⟩, fun a o h1 h2 h3 => p.ext a o h1 h2 fun z => h3 (own_wipe z), fun a h => (ownB h).1, p.tr⟩
  · rcases get e with ⟨hi, e⟩ | ⟨hi, e⟩
    · obtain ⟨v, h1, h2⟩ := g.fz i d e
      exact ⟨v, h1, Fz.keep k d v h2⟩
    · obtain ⟨v, h1, h2⟩ := p.gd.fz i d e
      rw [wipeS_out hi] at h1
      exact ⟨v, h1, h2⟩
  · rcases get e with ⟨hi, e⟩ | ⟨hi, e⟩
    · obtain ⟨v, h1, h2⟩ := g.ow i d e
      exact ⟨v, h1, still hi e h1 h2⟩
    · obtain ⟨v, h1, h2⟩ := p.gd.ow i d e
      rw [wipeS_out hi] at h1
      exact ⟨v, h1, h2⟩
  · rcases get h1 with ⟨hi, e1⟩ | ⟨hi, e1⟩ <;> rcases get h2 with ⟨hj, e2⟩ | ⟨hj, e2⟩
    · exact g.inj i j d e v e1 e2 h3 h4
    · exfalso
      obtain ⟨a, rfl⟩ : ∃ a, v = .ref a := by
        obtain ⟨w, w1, w2⟩ := g.ow i d e1
        rw [h3] at w1; cases w1
        cases d with
        | list _ => obtain ⟨a, _, e, _⟩ := w2; exact ⟨a, e⟩
        | _ => exact w2.elim
      obtain ⟨j', d', q1, q2⟩ := p.sub a ⟨j, e, e2, by rw [wipeS_out hj]; exact h4⟩
      have hj' : j' ∉ own := fun z => (wipe_in z d').2 q1
      rw [wipe_out hj'] at q1
      rw [wipeS_out hj'] at q2
      have := g.inj i j' d d' _ e1 q1 h3 q2
      subst this
      exact hj' hi
    · exfalso
      obtain ⟨a, rfl⟩ : ∃ a, v = .ref a := by
        obtain ⟨w, w1, w2⟩ := g.ow j e e2
        rw [h4] at w1; cases w1
        cases e with
        | list _ => obtain ⟨a, _, e, _⟩ := w2; exact ⟨a, e⟩
        | _ => exact w2.elim
      obtain ⟨j', d', q1, q2⟩ := p.sub a ⟨i, d, e1, by rw [wipeS_out hi]; exact h3⟩
      have hj' : j' ∉ own := fun z => (wipe_in z d').2 q1
      rw [wipe_out hj'] at q1
      rw [wipeS_out hj'] at q2
      have := g.inj j j' e d' _ e2 q1 h4 q2
      subst this
      exact hj' hj
    · exact p.gd.inj i j d e v e1 e2 (by rw [wipeS_out hi]; exact h3) (by rw [wipeS_out hj]; exact h4)
end
/-- behind an operand: its list, if it has one that is written yet, becomes known for good -/
def tFz (t : TE) : TE := fun σ H Q => t σ H fun v H1 => Q v H1 ∨ ∃ a xs, v = .ref a ∧ H1 a = some (.lst xs) ∧ ∀ ob, Q v (upd H1 a (.frz ob (.lst xs)))
theorem pe_fz {X : Cx} {e : Expr} {t : TE} (h : PE X e t) : PE X e (tFz t) := by
  refine ⟨fun pins s σ H Q I q => ?_⟩
  refine thn (h.run pins s σ H _ I q) fun u s1 ⟨v, H1, I1, r1, q1⟩ => ?_
  rcases q1 with q1 | ⟨a, xs, e1, ha, q1⟩
  · exact ⟨v, H1, I1, r1, q1⟩
  · obtain ⟨ob, I2⟩ := frz_at I1 ha
    exact ⟨v, _, I2, r1, q1 ob⟩
/-- the operand of a turn: known for good -/
theorem esc_to {K : PySem.W.Frag} {Y : Yc} {m : M Op} {r : Env} {σ : St} {H : Hp} {Q : VK} {k : D → Env → Prop} (g : Gd K Y.T r σ H) (w : Wd (bd m esc r) (exK K Y r σ H) k)
    (fin : ∀ d r1 v H', k d r1 → Post K Y.T r σ H r1 H' → Fz K H' d v → Q v H') : tFz (tE K Y m) σ H Q := by
  refine ⟨r, g, w.bd.mono (fun _ _ z => z) fun o r1 e q v H1 p1 o1 => ?_⟩
  obtain ⟨d, r2, e2, q⟩ := q.esc
  have mk : ∀ {H'}, EsC K Y.T r1 σ H1 o v d r2 H' → Q v H' := fun {H'} c => by
    refine fin d r2 v H' q (esc_post p1 c.gd c.sub fun b => ?_) c.fz
    rcases c.bk b with z | ⟨z1, z2, z3⟩
    · exact .inl z
    · rcases z3 with z3 | ⟨d', z3⟩
      · exact .inr ⟨z2, .inl z3⟩
      · subst z3
        exact .inr ⟨z2, .inr (o1.2 b z1)⟩
  rcases esc_gen p1.gd (fun d' a z1 z2 z3 => by
    subst z1
    exact absurd (o1.2 a z2) (p1.own_some g a z3)) o1 e2 with c | ⟨a, xs, e3, ha, c⟩
  · exact .inl (mk c)
  · exact .inr ⟨a, xs, e3, ha, fun ob => mk (c ob)⟩
end Fw

/-! Fw: list comprehensions, the loop -/
namespace Fw
open PySem PySem.Spec PyProof.Rows L2

abbrev Yc.no (Y : Yc) : Yc := { Y with W := fun _ _ _ _ => False }
/-- a turn of a block -/
def turnM (G : Nat → Option D) (f : CE) (elt : E) (tg : Tg) (cond : Option E) (own : List Nat) (d : D) : M (Option D) :=
  bd (wiped own) fun _ => bd (asgM tg d) fun _ => bd (tstO G f cond) fun t => if t then bd (ev G f elt) fun o => bd (esc o) fun e => ret (some e) else ret none
/-- a list that no slot holds is written -/
theorem post_updD {K : PySem.W.Frag} {T : List Addr} {r r' : Env} {σ : St} {H H' : Hp} {D : Addr} {vs ws : List V} (p : Post K T r σ H r' H') (h0 : H D = none) (hD : H' D = some (.lst vs)) (hn : ¬ Own r' σ D) : Post K T r σ H r' (upd H' D (.lst ws)) := by
  have k := upd_kp (u := .lst ws) hD
  refine ⟨⟨p.gd.len, fun i d e => ?_, fun i d e => ?_, p.gd.inj, fun q hq => tabG_upd hD (p.gd.tb q hq)⟩, fun a o h1 h2 h3 => ?_, p.sub, fun a h => ?_⟩
  · obtain ⟨v, h1, h2⟩ := p.gd.fz i d e
    exact ⟨v, h1, Fz.keep k d v h2⟩
  · obtain ⟨v, h1, h2⟩ := p.gd.ow i d e
    refine ⟨v, h1, h2.keep k fun a xs e1 e2 => ?_⟩
    subst e1
    rw [upd_ne (fun z => by subst z; exact hn ⟨i, d, e, h1⟩)]; exact e2
  · rw [upd_ne (fun z => by subst z; rw [h0] at h1; cases h1)]
    exact p.ext a o h1 h2 h3
  · by_cases ha : a = D
    · subst ha; rw [upd_same]; simp
    · rw [upd_ne ha]; exact p.tr a h
section
variable {K : PySem.W.Frag} {Y : Yc} {G : Nat → Option D} {f : CE} {own : List Nat} {r1 : Env} {σ : St} {H1 : Hp} {D : Addr}
/-- ahead of a turn: the block began at r1, H1; the new list stands at D -/
structure LcS (K : PySem.W.Frag) (T : List Addr) (own : List Nat) (r1 : Env) (σ : St) (H1 : Hp) (D : Addr) (r : Env) (H : Hp) (acc : List Fw.D) (vs : List V) : Prop where
  p : Post K T (wipe own r1) (L2.wipe σ own) H1 (wipe own r) H
  d : H D = some (.lst vs)
  a : Fzs K H acc vs
  len : r.length = r1.length
theorem wipeS_idem {own : List Nat} {σ : St} : L2.wipe (L2.wipe σ own) own = L2.wipe σ own := wipeS_eq (wipe_length _ _) fun i hi => wipeS_out hi
/-- the block's state behind a store and an expression -/
theorem blk_next {T : List Addr} {A : List Nat} {r r2 r3 : Env} {σ2 : St} {H H3 : Hp} (P : Post K T (wipe own r1) (L2.wipe σ own) H1 (wipe own r) H) (p2 : SPost K T A (wipe own r) (L2.wipe σ own) H r2 σ2 H) (p3 : Post K T r2 σ2 H r3 H3) (hw : L2.wipe σ2 own = L2.wipe σ own) :
    Post K T (wipe own r1) (L2.wipe σ own) H1 (wipe own r3) H3 ∧ ∀ a, Own r2 σ2 a → Own (wipe own r1) (L2.wipe σ own) a := by
  have s2 : ∀ a, Own r2 σ2 a → Own (wipe own r1) (L2.wipe σ own) a := fun a z => by
    rcases p2.sub a z with z2 | z2
    · exact P.sub a z2
    · obtain ⟨xs, e⟩ := p2.gd.own z
      rw [z2] at e; cases e
  refine ⟨⟨gd_wipe p3.gd hw, fun a o h1 h2 h3 => ?_, fun a h => ?_, fun a h => p3.tr a (P.tr a h)⟩, s2⟩
  · exact p3.ext a o (P.ext a o h1 h2 h3) h2 fun z => h3 (s2 a z)
  · rw [← hw] at h
    exact s2 a (p3.sub a (own_wipe h))
theorem lc_turn {elt : E} {tg : Tg} {cond : Option E} {r : Env} {H H' : Hp} {acc : List Fw.D} {vs : List V} {d : Fw.D} {x : V} {k : Option Fw.D → Env → Prop} {Nx : Hp → Prop} (g1 : Gd K Y.T r1 σ H1) (hD1 : H1 D = none) (htg : ∀ i ∈ tgSl tg, i ∈ own)
    (S : LcS K Y.T own r1 σ H1 D r H acc vs) (hs : Same H H') (hf : Fz K H' d x) (hz : acc.length < sizeLine) (w : Wd (turnM G f elt tg cond own d r) (fun _ _ => False) k)
    (h0 : ∀ r' H', k none r' → LcS K Y.T own r1 σ H1 D r' H' acc vs → Nx H') (h1 : ∀ e r' H' v, k (some e) r' → LcS K Y.T own r1 σ H1 D r' H' (acc ++ [e]) (vs ++ [v]) → Nx H') :
    tG K Y.T tg x (L2.wipe σ own) H' fun σ2 H2 => L2.wipe σ2 own = L2.wipe σ own ∧ tT K Y.no (tstO G f cond) σ2 H2 fun b H3 =>
      if b = true then tFz (tE K Y.no (ev G f elt)) σ2 H3 fun y H4 => ∃ acc', H4 D = some (.lst acc') ∧ acc'.length < sizeLine ∧ Nx (upd H4 D (.lst (acc' ++ [y]))) else Nx H3 := by
  have P := S.p.trans (.same S.p.gd hs)
  have w := w.bd
  have w : Wd (bd (asgM tg d) (fun _ => bd (tstO G f cond) fun t => if t then bd (ev G f elt) fun o => bd (esc o) fun e => ret (some e) else ret none) (wipe own r)) (fun _ _ => False) k := w
  have w := w.bd
  unfold asgM at w
  cases ha : asg tg d (wipe own r) with
  | none => rw [ha] at w; exact w.elim
  | some r2 =>
    rw [ha] at w
    have w : Wd (bd (tstO G f cond) (fun t => if t then bd (ev G f elt) fun o => bd (esc o) fun e => ret (some e) else ret none) r2) (fun _ _ => False) k := w
    refine ⟨wipe own r, d, r2, P.gd, hf, ha, fun σ2 p2 => ?_⟩
    have hw : L2.wipe σ2 own = L2.wipe σ own := by
      rw [← wipeS_idem (σ := σ)]
      exact wipeS_eq p2.len fun i hi => p2.keep i fun z => hi (htg i z)
    refine ⟨hw, r2, p2.gd, w.bd.mono (fun _ _ z => z.elim) fun b r3 e q H3 p3 => ?_⟩
    obtain ⟨P3, s2⟩ := blk_next P p2 p3 hw
    have nD : ¬ Own r2 σ2 D := fun z => by
      obtain ⟨xs, e⟩ := (gd_wipe g1 rfl).own (s2 D z)
      rw [hD1] at e; cases e
    have d3 : H3 D = some (.lst vs) := p3.ext D _ (hs D _ S.d) (fun _ z => by cases z) nD
    have a3 : Fzs K H3 acc vs := Fzs.keep (p3.kp p2.gd) _ _ (Fzs.keep ⟨fun a o u h => hs _ _ h, fun a xs h => hs _ _ h⟩ _ _ S.a)
    have l2 : σ2.length = r1.length := by rw [p2.len, wipe_length, ← g1.len]
    cases b with
    | false =>
      simp only [Bool.false_eq_true, if_false] at q ⊢
      exact h0 r3 H3 q ⟨P3, d3, a3, by rw [p3.gd.len, l2]⟩
    | true =>
      simp only [if_true] at q ⊢
      have q : Wd (bd (ev G f elt) (fun o => bd (esc o) fun e => ret (some e)) r3) (fun _ _ => False) k := q
      have q2 : Wd (bd (ev G f elt) esc r3) (exK K Y.no r3 σ2 H3) fun e r' => k (some e) r' := Wd.bd' (q.bd.mono (fun _ _ z => z.elim) fun o r' e q => q.bd.mono (fun _ _ z => z.elim) fun _ _ _ z => z)
      refine esc_to p3.gd q2 fun d' r4 v H4 q4 p4 hv => ?_
      obtain ⟨P4, _⟩ := blk_next P p2 (p3.trans p4) hw
      have d4 : H4 D = some (.lst vs) := p4.ext D _ d3 (fun _ z => by cases z) fun z => nD (p3.sub D z)
      refine ⟨vs, d4, by rw [← S.a.length]; exact hz, h1 d' r4 _ v q4 ⟨post_updD P4 hD1 d4 (fun z => ?_), upd_same, ?_, by rw [p4.gd.len, l2]⟩⟩
      · obtain ⟨xs, e⟩ := (gd_wipe g1 rfl).own (P4.sub D z)
        rw [hD1] at e; cases e
      · have k4 := upd_kp (u := .lst (vs ++ [v])) d4
        exact Fzs.keep k4 _ _ ((Fzs.keep (p4.kp p3.gd) _ _ a3).app (.one hv))
theorem srcOf_own {own : List Nat} {o : Op} {r r' : Env} {i : Nat} (h : srcOf own o r = .ok (.byref i) r') : i ∉ own := by
  cases o with
  | ref j =>
    have h : (if own.contains j = true then (opt none : M Src) else bd (isOwn j) fun _ => ret (Src.byref j)) r = .ok (.byref i) r' := h
    split at h
    · cases h
    · rename_i hj
      obtain ⟨_, _, _, h⟩ := ok_bd h
      cases h
      intro z
      exact hj (by simpa using z)
  | val d =>
    obtain ⟨e, _⟩ := opt_ok (show opt ((seqOf d).map Src.fixed) r = .ok (.byref i) r' from h)
    cases q : seqOf d <;> rw [q] at e <;> cases e
  | new d =>
    obtain ⟨e, _⟩ := opt_ok (show opt ((seqOf d).map Src.fixed) r = .ok (.byref i) r' from h)
    cases q : seqOf d <;> rw [q] at e <;> cases e
/-- the turns over what is walked -/
theorem lc_loop {elt : E} {tg : Tg} {cond : Option E} {s : Src} {J : It} {kf : List Fw.D → Env → Prop} {Q : VK} (g1 : Gd K Y.T r1 σ H1) (hD1 : H1 D = none) (htg : ∀ i ∈ tgSl tg, i ∈ own) (hJ : SrcV K σ H0 r1 H1 J s) (ho : ∀ i, s = .byref i → i ∉ own)
    (w : Wd (lcRun (turnM G f elt tg cond own) s r1) (fun _ _ => False) kf) (fin : ∀ r H acc vs, kf acc r → LcS K Y.T own r1 σ H1 D r H acc vs → Q (.ref D) H) :
    ∃ W : Nat → Nat → Hp → Prop, (∃ m, W 0 m (upd H1 D (.lst []))) ∧ ∀ i m H, W i m H →
      (J.stop i H ∧ Q (.ref D) H) ∨ (J.go i H ∧ ∃ Nx : Hp → Prop, (∀ H', Nx H' → ∃ m', m' < m ∧ W (i + 1) m' H') ∧ ∀ x H', J.yld i H x H' → tG K Y.T tg x (L2.wipe σ own) H' fun σ2 H2 => L2.wipe σ2 own = L2.wipe σ own ∧ tT K Y.no (tstO G f cond) σ2 H2 fun b H3 =>
        if b = true then tFz (tE K Y.no (ev G f elt)) σ2 H3 fun y H4 => ∃ acc, H4 D = some (.lst acc) ∧ acc.length < sizeLine ∧ Nx (upd H4 D (.lst (acc ++ [y]))) else Nx H3) := by
  have S0 : LcS K Y.T own r1 σ H1 D r1 (upd H1 D (.lst [])) [] [] := ⟨(Post.refl (gd_wipe g1 rfl)).trans (.same (gd_wipe g1 rfl) (same_upd hD1)), upd_same, .nil, rfl⟩
  cases s with
  | fixed xs =>
    obtain ⟨L, hL, hn, hlen, hJ⟩ := hJ
    refine ⟨fun i m H => ∃ r acc vs, m = xs.length - i ∧ i ≤ xs.length ∧ LcS K Y.T own r1 σ H1 D r H acc vs ∧ acc.length ≤ i ∧ Wd (lcFix (turnM G f elt tg cond own) (xs.drop i) acc r) (fun _ _ => False) kf, ⟨xs.length, r1, [], [], by simp, Nat.zero_le _, S0, Nat.le_refl _, w⟩, ?_⟩
    rintro i m H ⟨r, acc, vs, rfl, hi, S, hacc, w⟩
    have hP : Kp H1 H ∧ PinL L H := ⟨S.p.kp (gd_wipe g1 rfl), fun p hp => S.p.ext p.1 _ (hL p hp) (fun _ z => by cases z) fun z => (hn p hp).1 (own_wipe z)⟩
    obtain ⟨hgo, hstop⟩ := hJ i H hP
    by_cases hlt : i < xs.length
    · right
      have ex : xs[i]? = some xs[i] := List.getElem?_eq_getElem hlt
      obtain ⟨go, yl⟩ := hgo _ ex
      rw [List.drop_eq_getElem_cons hlt] at w
      have w : Wd (bd (turnM G f elt tg cond own xs[i]) (fun o => lcFix (turnM G f elt tg cond own) (xs.drop (i + 1)) (match o with | some d => acc ++ [d] | none => acc)) r) (fun _ _ => False) kf := w
      refine ⟨go, fun H' => ∃ r' acc' vs', LcS K Y.T own r1 σ H1 D r' H' acc' vs' ∧ acc'.length ≤ i + 1 ∧ Wd (lcFix (turnM G f elt tg cond own) (xs.drop (i + 1)) acc' r') (fun _ _ => False) kf,
        fun H' ⟨r', acc', vs', S', h', w'⟩ => ⟨xs.length - (i + 1), by omega, r', acc', vs', rfl, hlt, S', h', w'⟩, fun x H' y => ?_⟩
      obtain ⟨hs, hf⟩ := yl x H' y
      exact lc_turn g1 hD1 htg S hs hf (by omega) w.bd (fun r' H' q S' => ⟨r', acc, vs, S', by omega, q⟩) fun e r' H' v q S' => ⟨r', acc ++ [e], vs ++ [v], S', by simp; omega, q⟩
    · left
      have e : i = xs.length := by omega
      refine ⟨hstop (by omega), ?_⟩
      rw [List.drop_eq_nil_of_le (by omega)] at w
      exact fin r H acc vs w S
  | byref i0 =>
    obtain ⟨a, ha, rfl⟩ := hJ
    have ho := ho i0 rfl
    refine ⟨fun i m H => ∃ r acc vs, m + i = sizeLine ∧ LcS K Y.T own r1 σ H1 D r H acc vs ∧ acc.length ≤ i ∧ Wd (lcRef (turnM G f elt tg cond own) i0 m i acc r) (fun _ _ => False) kf, ⟨sizeLine, r1, [], [], by simp, S0, Nat.le_refl _, w⟩, ?_⟩
    rintro i m H ⟨r, acc, vs, hm, S, hacc, w⟩
    cases m with
    | zero => exact w.elim
    | succ m =>
      unfold lcRef at w
      cases hd : dataAt r i0 with
      | none => simp only [hd] at w; exact w.elim
      | some d =>
        cases d with
        | list ys =>
          simp only [hd] at w
          have hv : (L2.wipe σ own)[i0]? = some (some (.ref a)) := by rw [wipeS_out ho]; exact ha
          have rv : Rdv K H (.list ys) (.ref a) := by
            refine (S.p.gd.rd (o := .ref i0) (H0 := H) (v := .ref a) hv (r1 := wipe own r) ?_).2
            show opt (dataAt (wipe own r) i0) _ = _
            have : dataAt (wipe own r) i0 = dataAt r i0 := by unfold dataAt; rw [wipe_out ho]
            rw [this, hd]; rfl
          obtain ⟨a', zs, e, sq, fz⟩ := rv.list
          cases e
          cases hy : ys[i]? with
          | none =>
            simp only [hy] at w
            refine .inl ⟨⟨zs, sq, ?_⟩, fin r H acc vs w S⟩
            have := List.getElem?_eq_none_iff.mp hy
            rw [fz.length] at this; exact this
          | some d =>
            simp only [hy] at w
            obtain ⟨v, e1, e2⟩ := fz.get hy
            refine .inr ⟨⟨zs, v, sq, e1⟩, fun H' => ∃ r' acc' vs', LcS K Y.T own r1 σ H1 D r' H' acc' vs' ∧ acc'.length ≤ i + 1 ∧ Wd (lcRef (turnM G f elt tg cond own) i0 m (i + 1) acc' r') (fun _ _ => False) kf,
              fun H' ⟨r', acc', vs', S', h', w'⟩ => ⟨m, by omega, r', acc', vs', by omega, S', h', w'⟩, fun x H' ⟨y1, y2⟩ => ?_⟩
            subst y1
            have := y2 zs sq
            rw [e1] at this; cases this
            exact lc_turn g1 hD1 htg S (Same.refl _) e2 (by omega) w.bd (fun r' H' q S' => ⟨r', acc, vs, S', by omega, q⟩) fun e r' H' v q S' => ⟨r', acc ++ [e], vs ++ [v], S', by simp; omega, q⟩
        | _ => simp only [hd] at w; exact w.elim
theorem inOwn_wd {m : M Op} {r : Env} {j : Nat → Env → Prop} {k : Op → Env → Prop} (w : Wd (inOwn own m r) j k) : Wd (m r) (fun _ _ => False) fun o r' => k o (back own r r') := by
  unfold inOwn at w
  cases e : m r with
  | ok a r' => rw [e] at w; exact w
  | ex c r' => rw [e] at w; exact w.elim
  | no => rw [e] at w; exact w.elim
theorem lc_to {elt it : E} {tg : Tg} {cond : Option E} {H : Hp} {Q : VK} (htg : ∀ i ∈ tgSl tg, i ∈ own) (w : tE K Y (ev G f (.lc elt tg it cond own)) σ H Q) :
    tLc (tI K Y (bd (ev G f it) (srcOf own))) (tG K Y.T tg) (tT K Y.no (tstO G f cond)) (tFz (tE K Y.no (ev G f elt))) own σ H Q := by
  obtain ⟨r, g, w⟩ := w
  simp only [ev] at w
  have w : Wd (bd (ev G f it) (fun x => bd (srcOf own x) fun s => inOwn own (bd (lcRun (turnM G f elt tg cond own) s) fun ds => ret (.new (.list ds)))) r) (exK K Y r σ H) fun o r' => ∀ v H', Post K Y.T r σ H r' H' → OpV K σ H H' o v → Q v H' := w
  refine ⟨r, g, Wd.bd' (w.bd.mono (fun _ _ z => z) fun o ra ea q => q.bd.mono (fun _ _ z => z) fun s rb eb q J Hb pb hJ D hD => ?_)⟩
  have q := (inOwn_wd q).bd
  refine lc_loop pb.gd hD htg hJ (fun i e => by subst e; exact srcOf_own eb) q fun r2 H2 acc vs kf S => ?_
  have kf : ∀ v H', Post K Y.T r σ H (back own rb r2) H' → OpV K σ H H' (.new (.list acc)) v → Q v H' := kf
  refine kf (.ref D) H2 (pb.trans (post_back pb.gd S.p S.len)) ⟨⟨D, vs, rfl, S.d, S.a⟩, fun a e => ?_⟩
  cases e
  cases z : H D with
  | none => rfl
  | some o => exact absurd hD (pb.tr D (by rw [z]; simp))
end
end Fw

/-! Fw: list comprehensions of two clauses -/
namespace Fw
open PySem PySem.Spec PyProof.Rows L2
section
variable {K : PySem.W.Frag} {Y : Yc} {G : Nat → Option D} {f : CE} {own own2 : List Nat} {r1 : Env} {σ : St} {H1 : Hp} {D : Addr}
theorem wipeS_sub (h : ∀ i ∈ own2, i ∈ own) {τ : St} : L2.wipe (L2.wipe τ own2) own = L2.wipe τ own := wipeS_eq (wipe_length _ _) fun i hi => wipeS_out fun z => hi (h i z)
theorem gd_updD {T : List Addr} {r' : Env} {τ : St} {H' : Hp} {vs ws : List V} (p : Gd K T r' τ H') (hD : H' D = some (.lst vs)) (hn : ¬ Own r' τ D) : Gd K T r' τ (upd H' D (.lst ws)) := by
  have k := upd_kp (u := .lst ws) hD
  refine ⟨p.len, fun i d e => ?_, fun i d e => ?_, p.inj, fun q hq => tabG_upd hD (p.tb q hq)⟩
  · obtain ⟨v, h1, h2⟩ := p.fz i d e
    exact ⟨v, h1, Fz.keep k d v h2⟩
  · obtain ⟨v, h1, h2⟩ := p.ow i d e
    refine ⟨v, h1, h2.keep k fun a xs e1 e2 => ?_⟩
    subst e1
    rw [upd_ne (fun z => by subst z; exact hn ⟨i, d, e, h1⟩)]; exact e2
theorem blk_out {T : List Addr} {r rI r3 : Env} {σI : St} {H H3 : Hp} (P : Post K T (wipe own r1) (L2.wipe σ own) H1 (wipe own r) H) (s2 : ∀ a, Own rI σI a → Own (wipe own r1) (L2.wipe σ own) a) (p3 : Post K T rI σI H r3 H3) (hw : L2.wipe σI own = L2.wipe σ own) :
    Post K T (wipe own r1) (L2.wipe σ own) H1 (wipe own r3) H3 := by
  refine ⟨gd_wipe p3.gd hw, fun a o h1 h2 h3 => p3.ext a o (P.ext a o h1 h2 h3) h2 fun z => h3 (s2 a z), fun a h => ?_, fun a h => p3.tr a (P.tr a h)⟩
  rw [← hw] at h
  exact s2 a (p3.sub a (own_wipe h))
/-- within the inner loop -/
structure LcI (K : PySem.W.Frag) (T : List Addr) (own : List Nat) (r1 : Env) (σ : St) (H1 : Hp) (D : Addr) (own2 : List Nat) (σ2 : St) (L : List (Addr × List V)) (H4 : Hp) (r : Env) (H : Hp) (acc : List Fw.D) (vs : List V) : Prop where
  s : LcS K T own r1 σ H1 D r H acc vs
  g : Gd K T (wipe own2 r) (L2.wipe σ2 own2) H
  o : ∀ a, Own (wipe own2 r) (L2.wipe σ2 own2) a → Own (wipe own r1) (L2.wipe σ own) a
  kp : Kp H4 H
  pin : PinL L H
theorem lc2_in {elt : E} {tg : Tg} {cond : Option E} {r : Env} {H H' H4 : Hp} {σ2 : St} {L : List (Addr × List V)} {acc : List Fw.D} {vs : List V} {d : Fw.D} {x : V} {k : Option Fw.D → Env → Prop} {Nx : Hp → Prop} (g1 : Gd K Y.T r1 σ H1) (hD1 : H1 D = none) (hsub : ∀ i ∈ own2, i ∈ own) (htg : ∀ i ∈ tgSl tg, i ∈ own2) (hw2 : L2.wipe σ2 own = L2.wipe σ own) (hlen : σ2.length = r1.length)
    (hL : ∀ p ∈ L, p.1 ≠ D ∧ ¬ Own (wipe own r1) (L2.wipe σ own) p.1)
    (S : LcI K Y.T own r1 σ H1 D own2 σ2 L H4 r H acc vs) (hs : Same H H') (hf : Fz K H' d x) (hz : acc.length < sizeLine) (w : Wd (turnM G f elt tg cond own2 d r) (fun _ _ => False) k)
    (h0 : ∀ r' H', k none r' → LcI K Y.T own r1 σ H1 D own2 σ2 L H4 r' H' acc vs → Nx H') (h1 : ∀ e r' H' v, k (some e) r' → LcI K Y.T own r1 σ H1 D own2 σ2 L H4 r' H' (acc ++ [e]) (vs ++ [v]) → Nx H') :
    tG K Y.T tg x (L2.wipe σ2 own2) H' fun σ3 H5 => L2.wipe σ3 own2 = L2.wipe σ2 own2 ∧ tT K Y.no (tstO G f cond) σ3 H5 fun b H6 =>
      if b = true then tFz (tE K Y.no (ev G f elt)) σ3 H6 fun y H7 => ∃ acc', H7 D = some (.lst acc') ∧ acc'.length < sizeLine ∧ Nx (upd H7 D (.lst (acc' ++ [y]))) else Nx H6 := by
  have P := S.s.p.trans (.same S.s.p.gd hs)
  have gI := (Post.same S.g hs).gd
  have ks : Kp H H' := ⟨fun a o u h => hs _ _ h, fun a xs h => hs _ _ h⟩
  have w := w.bd
  have w : Wd (bd (asgM tg d) (fun _ => bd (tstO G f cond) fun t => if t then bd (ev G f elt) fun o => bd (esc o) fun e => ret (some e) else ret none) (wipe own2 r)) (fun _ _ => False) k := w
  have w := w.bd
  unfold asgM at w
  cases ha : asg tg d (wipe own2 r) with
  | none => rw [ha] at w; exact w.elim
  | some r2 =>
    rw [ha] at w
    have w : Wd (bd (tstO G f cond) (fun t => if t then bd (ev G f elt) fun o => bd (esc o) fun e => ret (some e) else ret none) r2) (fun _ _ => False) k := w
    refine ⟨wipe own2 r, d, r2, gI, hf, ha, fun σ3 p2 => ?_⟩
    have hw3 : L2.wipe σ3 own2 = L2.wipe σ2 own2 := by
      rw [← wipeS_idem (σ := σ2)]
      exact wipeS_eq p2.len fun i hi => p2.keep i fun z => hi (htg i z)
    have hwo : L2.wipe σ3 own = L2.wipe σ own := by rw [← wipeS_sub hsub (τ := σ3), hw3, wipeS_sub hsub, hw2]
    refine ⟨hw3, r2, p2.gd, w.bd.mono (fun _ _ z => z.elim) fun b r3 e q H3 p3 => ?_⟩
    have s2 : ∀ a, Own r2 σ3 a → Own (wipe own r1) (L2.wipe σ own) a := fun a z => by
      rcases p2.sub a z with z2 | z2
      · exact S.o a z2
      · obtain ⟨xs, e⟩ := p2.gd.own z
        rw [z2] at e; cases e
    have P3 := blk_out P s2 p3 hwo
    have nD : ¬ Own r2 σ3 D := fun z => by
      obtain ⟨xs, e⟩ := (gd_wipe g1 rfl).own (s2 D z)
      rw [hD1] at e; cases e
    have d3 : H3 D = some (.lst vs) := p3.ext D _ (hs D _ S.s.d) (fun _ z => by cases z) nD
    have a3 : Fzs K H3 acc vs := Fzs.keep (p3.kp p2.gd) _ _ (Fzs.keep ks _ _ S.s.a)
    have l3 : σ3.length = r1.length := by rw [p2.len, wipe_length, hlen]
    have pin3 : PinL L H3 := fun p hp => p3.ext p.1 _ (hs p.1 _ (S.pin p hp)) (fun _ z => by cases z) fun z => (hL p hp).2 (s2 _ z)
    have kp3 : Kp H4 H3 := S.kp.trans (ks.trans (p3.kp p2.gd))
    cases b with
    | false =>
      simp only [Bool.false_eq_true, if_false] at q ⊢
      exact h0 r3 H3 q ⟨⟨P3, d3, a3, by rw [p3.gd.len, l3]⟩, gd_wipe p3.gd hw3, fun a z => s2 a (p3.sub a (own_wipe (by rw [hw3]; exact z))), kp3, pin3⟩
    | true =>
      simp only [if_true] at q ⊢
      have q : Wd (bd (ev G f elt) (fun o => bd (esc o) fun e => ret (some e)) r3) (fun _ _ => False) k := q
      have q2 : Wd (bd (ev G f elt) esc r3) (exK K Y.no r3 σ3 H3) fun e r' => k (some e) r' := Wd.bd' (q.bd.mono (fun _ _ z => z.elim) fun o r' e q => q.bd.mono (fun _ _ z => z.elim) fun _ _ _ z => z)
      refine esc_to p3.gd q2 fun d' r4 v H7 q4 p4 hv => ?_
      have P4 := blk_out P s2 (p3.trans p4) hwo
      have d4 : H7 D = some (.lst vs) := p4.ext D _ d3 (fun _ z => by cases z) fun z => nD (p3.sub D z)
      have o4 : ∀ a, Own (wipe own2 r4) (L2.wipe σ2 own2) a → Own (wipe own r1) (L2.wipe σ own) a := fun a z => s2 a (p3.sub a (p4.sub a (own_wipe (by rw [hw3]; exact z))))
      have nO : ∀ a, Own (wipe own r1) (L2.wipe σ own) a → a ≠ D := fun a z e => by
        subst e
        obtain ⟨xs, e⟩ := (gd_wipe g1 rfl).own z
        rw [hD1] at e; cases e
      refine ⟨vs, d4, by rw [← S.s.a.length]; exact hz, h1 d' r4 _ v q4 ⟨⟨post_updD P4 hD1 d4 (fun z => nO D (P4.sub D z) rfl), upd_same, ?_, by rw [p4.gd.len, l3]⟩, gd_updD (gd_wipe p4.gd hw3) d4 (fun z => nO D (o4 D z) rfl), o4, kp3.trans ((p4.kp p3.gd).trans (upd_kp d4)), fun p hp => ?_⟩⟩
      · have k4 := upd_kp (u := .lst (vs ++ [v])) d4
        exact Fzs.keep k4 _ _ ((Fzs.keep (p4.kp p3.gd) _ _ a3).app (.one hv))
      · rw [upd_ne (hL p hp).1]
        exact p4.ext p.1 _ (pin3 p hp) (fun _ z => by cases z) fun z => (hL p hp).2 (s2 _ (p3.sub _ z))
/-- a slot's list, behind a block's turns -/
theorem ref_at {K : PySem.W.Frag} {T : List Addr} {own : List Nat} {r1 r : Env} {σ τ : St} {H1 H : Hp} {i0 : Nat} {a : Addr} {ys : List Fw.D} (P : Post K T (wipe own r1) (L2.wipe σ own) H1 (wipe own r) H) (ho : i0 ∉ own) (ha : (L2.wipe σ own)[i0]? = some (some (.ref a))) (hd : dataAt r i0 = some (.list ys)) : ∃ zs, SqL K H a zs ∧ Fzs K H ys zs := by
  have rv : Rdv K H (.list ys) (.ref a) := by
    refine (P.gd.rd (o := .ref i0) (H0 := H) (v := .ref a) ha (r1 := wipe own r) ?_).2
    show opt (dataAt (wipe own r) i0) _ = _
    have : dataAt (wipe own r) i0 = dataAt r i0 := by unfold dataAt; rw [wipe_out ho]
    rw [this, hd]; rfl
  obtain ⟨a', zs, e, sq, fz⟩ := rv.list
  cases e
  exact ⟨zs, sq, fz⟩
/-- the inner loop -/
theorem lc2_inner {elt : E} {tg : Tg} {cond : Option E} {r4 : Env} {H3 H4 : Hp} {σ2 : St} {J1 : It} {s : Src} {acc : List Fw.D} {vs : List V} {kf : List Fw.D → Env → Prop} {Nx : Hp → Prop} (g1 : Gd K Y.T r1 σ H1) (hD1 : H1 D = none) (hsub : ∀ i ∈ own2, i ∈ own) (htg : ∀ i ∈ tgSl tg, i ∈ own2) (hw2 : L2.wipe σ2 own = L2.wipe σ own) (hlen : σ2.length = r1.length)
    (hD3 : H3 D ≠ none) (hO3 : ∀ a, Own (wipe own r1) (L2.wipe σ own) a → H3 a ≠ none) (hJ1 : SrcV K σ2 H3 r4 H4 J1 s) (ho : ∀ i, s = .byref i → i ∉ own)
    (S1 : LcS K Y.T own r1 σ H1 D r4 H4 acc vs) (gI : Gd K Y.T (wipe own2 r4) (L2.wipe σ2 own2) H4) (oI : ∀ a, Own (wipe own2 r4) (L2.wipe σ2 own2) a → Own (wipe own r1) (L2.wipe σ own) a) (hz : acc.length + 3001 < sizeLine)
    (w : Wd (lcRunA (turnM G f elt tg cond own2) s acc r4) (fun _ _ => False) kf) (fin : ∀ r H acc' vs', kf acc' r → LcS K Y.T own r1 σ H1 D r H acc' vs' → acc'.length ≤ acc.length + 3001 → Nx H) :
    ∃ W1 : Nat → Nat → Hp → Prop, (∃ m, W1 0 m H4) ∧ ∀ j k H, W1 j k H →
      (J1.stop j H ∧ Nx H) ∨ (J1.go j H ∧ ∃ Nx1 : Hp → Prop, (∀ H', Nx1 H' → ∃ k', k' < k ∧ W1 (j + 1) k' H') ∧ ∀ x H', J1.yld j H x H' → tG K Y.T tg x (L2.wipe σ2 own2) H' fun σ3 H5 => L2.wipe σ3 own2 = L2.wipe σ2 own2 ∧ tT K Y.no (tstO G f cond) σ3 H5 fun b H6 =>
        if b = true then tFz (tE K Y.no (ev G f elt)) σ3 H6 fun y H7 => ∃ acc, H7 D = some (.lst acc) ∧ acc.length < sizeLine ∧ Nx1 (upd H7 D (.lst (acc ++ [y]))) else Nx1 H6) := by
  cases s with
  | fixed ys =>
    have w : Wd (if ys.length ≤ 3000 then lcFix (turnM G f elt tg cond own2) ys acc r4 else .no) (fun _ _ => False) kf := w
    by_cases hys : ys.length ≤ 3000
    · rw [if_pos hys] at w
      obtain ⟨L1, hL1, hn1, hlen1, hJ1⟩ := hJ1
      have hLD1 : ∀ p ∈ L1, p.1 ≠ D := fun p hp z => by
        have := (hn1 p hp).2
        rw [z] at this
        exact hD3 this
      have hLD : ∀ p ∈ L1, p.1 ≠ D ∧ ¬ Own (wipe own r1) (L2.wipe σ own) p.1 := fun p hp => ⟨hLD1 p hp, fun z => hO3 _ z (hn1 p hp).2⟩
      refine ⟨fun j k H => ∃ r acc' vs', k = ys.length - j ∧ j ≤ ys.length ∧ LcI K Y.T own r1 σ H1 D own2 σ2 L1 H4 r H acc' vs' ∧ acc'.length ≤ acc.length + j ∧ Wd (lcFix (turnM G f elt tg cond own2) (ys.drop j) acc' r) (fun _ _ => False) kf, ⟨ys.length, r4, acc, vs, by simp, Nat.zero_le _, ⟨S1, gI, oI, Kp.refl _, hL1⟩, by omega, w⟩, ?_⟩
      rintro j k H ⟨r, acc', vs', rfl, hj, S, hacc', w⟩
      obtain ⟨hgo, hstop⟩ := hJ1 j H ⟨S.kp, S.pin⟩
      by_cases hlt : j < ys.length
      · right
        have ex : ys[j]? = some ys[j] := List.getElem?_eq_getElem hlt
        obtain ⟨go, yl⟩ := hgo _ ex
        rw [List.drop_eq_getElem_cons hlt] at w
        have w : Wd (bd (turnM G f elt tg cond own2 ys[j]) (fun o => lcFix (turnM G f elt tg cond own2) (ys.drop (j + 1)) (match o with | some d => acc' ++ [d] | none => acc')) r) (fun _ _ => False) kf := w
        refine ⟨go, fun H' => ∃ r' acc2 vs2, LcI K Y.T own r1 σ H1 D own2 σ2 L1 H4 r' H' acc2 vs2 ∧ acc2.length ≤ acc.length + (j + 1) ∧ Wd (lcFix (turnM G f elt tg cond own2) (ys.drop (j + 1)) acc2 r') (fun _ _ => False) kf,
          fun H' ⟨r', acc2, vs2, S', h', w'⟩ => ⟨ys.length - (j + 1), by omega, r', acc2, vs2, rfl, hlt, S', h', w'⟩, fun x H' y => ?_⟩
        obtain ⟨hs, hf⟩ := yl x H' y
        exact lc2_in g1 hD1 hsub htg hw2 hlen hLD S hs hf (by omega) w.bd (fun r' H' q S' => ⟨r', acc', vs', S', by omega, q⟩) fun e r' H' v q S' => ⟨r', acc' ++ [e], vs' ++ [v], S', by simp; omega, q⟩
      · left
        have e : j = ys.length := by omega
        refine ⟨hstop (by omega), ?_⟩
        rw [List.drop_eq_nil_of_le (by omega)] at w
        exact fin r H acc' vs' w S.s (by omega)
    · rw [if_neg hys] at w
      exact w.elim
  | byref i0 =>
    obtain ⟨a, ha, rfl⟩ := hJ1
    have ho := ho i0 rfl
    have hv : (L2.wipe σ own)[i0]? = some (some (.ref a)) := by rw [← hw2, wipeS_out ho]; exact ha
    have w : Wd (lcRef (turnM G f elt tg cond own2) i0 3001 0 acc r4) (fun _ _ => False) kf := w
    refine ⟨fun j k H => ∃ r acc' vs', k + j = 3001 ∧ LcI K Y.T own r1 σ H1 D own2 σ2 [] H4 r H acc' vs' ∧ acc'.length ≤ acc.length + j ∧ Wd (lcRef (turnM G f elt tg cond own2) i0 k j acc' r) (fun _ _ => False) kf, ⟨3001, r4, acc, vs, by simp, ⟨S1, gI, oI, Kp.refl _, fun p hp => by cases hp⟩, by omega, w⟩, ?_⟩
    rintro j k H ⟨r, acc', vs', hm, S, hacc', w⟩
    cases k with
    | zero => exact w.elim
    | succ k =>
      unfold lcRef at w
      cases hd : dataAt r i0 with
      | none => simp only [hd] at w; exact w.elim
      | some d =>
        cases d with
        | list ys =>
          simp only [hd] at w
          obtain ⟨zs, sq, fz⟩ := ref_at (τ := σ) S.s.p ho hv hd
          cases hy : ys[j]? with
          | none =>
            simp only [hy] at w
            refine .inl ⟨⟨zs, sq, ?_⟩, fin r H acc' vs' w S.s (by omega)⟩
            have := List.getElem?_eq_none_iff.mp hy
            rw [fz.length] at this; exact this
          | some d =>
            simp only [hy] at w
            obtain ⟨v, e1, e2⟩ := fz.get hy
            refine .inr ⟨⟨zs, v, sq, e1⟩, fun H' => ∃ r' acc2 vs2, LcI K Y.T own r1 σ H1 D own2 σ2 [] H4 r' H' acc2 vs2 ∧ acc2.length ≤ acc.length + (j + 1) ∧ Wd (lcRef (turnM G f elt tg cond own2) i0 k (j + 1) acc2 r') (fun _ _ => False) kf,
              fun H' ⟨r', acc2, vs2, S', h', w'⟩ => ⟨k, by omega, r', acc2, vs2, by omega, S', h', w'⟩, fun x H' ⟨y1, y2⟩ => ?_⟩
            subst y1
            have := y2 zs sq
            rw [e1] at this; cases this
            exact lc2_in g1 hD1 hsub htg hw2 hlen (fun p hp => by cases hp) S (Same.refl _) e2 (by omega) w.bd (fun r' H' q S' => ⟨r', acc', vs', S', by omega, q⟩) fun e r' H' v q S' => ⟨r', acc' ++ [e], vs' ++ [v], S', by simp; omega, q⟩
        | _ => simp only [hd] at w; exact w.elim
/-- an outer turn -/
def turn2M (G : Nat → Option Fw.D) (f : CE) (elt : E) (tg : Tg) (cond : Option E) (tg2 : Tg) (it2 : E) (cond2 : Option E) (own own2 : List Nat) (d : Fw.D) (acc : List Fw.D) : M (List Fw.D) :=
  bd (wiped own) fun _ => bd (asgM tg d) fun _ => bd (tstO G f cond) fun t =>
      if t then bd (ev G f it2) fun x2 => bd (srcOf own x2) fun s2 => lcRunA (turnM G f elt tg2 cond2 own2) s2 acc else ret acc
theorem lc2_turn {elt it2 : E} {tg tg2 : Tg} {cond cond2 : Option E} {r : Env} {H H' : Hp} {acc : List Fw.D} {vs : List V} {d : Fw.D} {x : V} {k : List Fw.D → Env → Prop} {Nx : Hp → Prop} (g1 : Gd K Y.T r1 σ H1) (hD : H1 D = none) (htg : ∀ i ∈ tgSl tg, i ∈ own) (hsub : ∀ i ∈ own2, i ∈ own) (htg2 : ∀ i ∈ tgSl tg2, i ∈ own2)
    (S : LcS K Y.T own r1 σ H1 D r H acc vs) (hs : Same H H') (hf : Fz K H' d x) (hz : acc.length + 3001 < sizeLine) (w : Wd (turn2M G f elt tg cond tg2 it2 cond2 own own2 d acc r) (fun _ _ => False) k)
    (fin : ∀ r' H' acc' vs', k acc' r' → LcS K Y.T own r1 σ H1 D r' H' acc' vs' → acc'.length ≤ acc.length + 3001 → Nx H') :
    tG K Y.T tg x (L2.wipe σ own) H' fun σ2 H2 => L2.wipe σ2 own = L2.wipe σ own ∧ tT K Y.no (tstO G f cond) σ2 H2 fun b H3 =>
      if b = true then tI K Y.no (bd (ev G f it2) (srcOf own)) σ2 H3 fun J1 H4 => ∃ W1 : Nat → Nat → Hp → Prop, (∃ m, W1 0 m H4) ∧ ∀ j k H, W1 j k H →
        (J1.stop j H ∧ Nx H) ∨ (J1.go j H ∧ ∃ Nx1 : Hp → Prop, (∀ H', Nx1 H' → ∃ k', k' < k ∧ W1 (j + 1) k' H') ∧ ∀ x H', J1.yld j H x H' → tG K Y.T tg2 x (L2.wipe σ2 own2) H' fun σ3 H5 => L2.wipe σ3 own2 = L2.wipe σ2 own2 ∧ tT K Y.no (tstO G f cond2) σ3 H5 fun b H6 =>
          if b = true then tFz (tE K Y.no (ev G f elt)) σ3 H6 fun y H7 => ∃ acc, H7 D = some (.lst acc) ∧ acc.length < sizeLine ∧ Nx1 (upd H7 D (.lst (acc ++ [y]))) else Nx1 H6)
      else Nx H3 := by
  have P := S.p.trans (.same S.p.gd hs)
  have w := w.bd
  have w : Wd (bd (asgM tg d) (fun _ => bd (tstO G f cond) fun t => if t then bd (ev G f it2) fun x2 => bd (srcOf own x2) fun s2 => lcRunA (turnM G f elt tg2 cond2 own2) s2 acc else ret acc) (wipe own r)) (fun _ _ => False) k := w
  have w := w.bd
  unfold asgM at w
  cases ha : asg tg d (wipe own r) with
  | none => rw [ha] at w; exact w.elim
  | some r2 =>
    rw [ha] at w
    have w : Wd (bd (tstO G f cond) (fun t => if t then bd (ev G f it2) fun x2 => bd (srcOf own x2) fun s2 => lcRunA (turnM G f elt tg2 cond2 own2) s2 acc else ret acc) r2) (fun _ _ => False) k := w
    refine ⟨wipe own r, d, r2, P.gd, hf, ha, fun σ2 p2 => ?_⟩
    have hw : L2.wipe σ2 own = L2.wipe σ own := by
      rw [← wipeS_idem (σ := σ)]
      exact wipeS_eq p2.len fun i hi => p2.keep i fun z => hi (htg i z)
    refine ⟨hw, r2, p2.gd, w.bd.mono (fun _ _ z => z.elim) fun b r3 e q H3 p3 => ?_⟩
    obtain ⟨P3, s2⟩ := blk_next P p2 p3 hw
    have nD : ¬ Own r2 σ2 D := fun z => by
      obtain ⟨xs, e⟩ := (gd_wipe g1 rfl).own (s2 D z)
      rw [hD] at e; cases e
    have d3 : H3 D = some (.lst vs) := p3.ext D _ (hs D _ S.d) (fun _ z => by cases z) nD
    have a3 : Fzs K H3 acc vs := Fzs.keep (p3.kp p2.gd) _ _ (Fzs.keep ⟨fun a o u h => hs _ _ h, fun a xs h => hs _ _ h⟩ _ _ S.a)
    have l2 : σ2.length = r1.length := by rw [p2.len, wipe_length, ← g1.len]
    cases b with
    | false =>
      simp only [Bool.false_eq_true, if_false] at q ⊢
      exact fin r3 H3 acc vs q ⟨P3, d3, a3, by rw [p3.gd.len, l2]⟩ (by omega)
    | true =>
      simp only [if_true] at q ⊢
      refine ⟨r3, p3.gd, Wd.bd' (q.bd.mono (fun _ _ z => z.elim) fun o ra ea q => q.bd.mono (fun _ _ z => z.elim) fun s r4 eb q J1 H4 p4 hJ1 => ?_)⟩
      have d4 : H4 D = some (.lst vs) := p4.ext D _ d3 (fun _ z => by cases z) fun z => nD (p3.sub D z)
      exact lc2_inner g1 hD hsub htg2 hw l2 (by rw [d3]; simp) (fun a z => by
        obtain ⟨zs, e⟩ := (gd_wipe g1 rfl).own z
        exact P3.tr a (by rw [e]; simp)) hJ1 (fun i e => by subst e; exact srcOf_own eb) ⟨blk_out P s2 (p3.trans p4) hw, d4, Fzs.keep (p4.kp p3.gd) _ _ a3, by rw [p4.gd.len, l2]⟩ (gd_wipe p4.gd rfl) (fun a z => s2 a (p3.sub a (p4.sub a (own_wipe z)))) hz q fun r H acc' vs' kf S' hl => fin r H acc' vs' kf S' hl
theorem lc2_to {elt it it2 : E} {tg tg2 : Tg} {cond cond2 : Option E} {H : Hp} {Q : VK} (htg : ∀ i ∈ tgSl tg, i ∈ own) (hsub : ∀ i ∈ own2, i ∈ own) (htg2 : ∀ i ∈ tgSl tg2, i ∈ own2) (w : tE K Y (ev G f (.lc2 elt tg it cond tg2 it2 cond2 own own2)) σ H Q) :
    tLc2 (tI K Y (bd (ev G f it) (srcOf own))) (tG K Y.T tg) (tT K Y.no (tstO G f cond)) (tI K Y.no (bd (ev G f it2) (srcOf own))) (tG K Y.T tg2) (tT K Y.no (tstO G f cond2)) (tFz (tE K Y.no (ev G f elt))) own own2 σ H Q := by
  obtain ⟨r, g, w⟩ := w
  simp only [ev] at w
  have w : Wd (bd (ev G f it) (fun x => bd (srcOf own x) fun s => inOwn own (bd (lcRun2 (turn2M G f elt tg cond tg2 it2 cond2 own own2) s) fun ds => ret (.new (.list ds)))) r) (exK K Y r σ H) fun o r' => ∀ v H', Post K Y.T r σ H r' H' → OpV K σ H H' o v → Q v H' := w
  refine ⟨r, g, Wd.bd' (w.bd.mono (fun _ _ z => z) fun o ra ea q => q.bd.mono (fun _ _ z => z) fun s rb eb q J Hb pb hJ D hD => ?_)⟩
  have q := (inOwn_wd q).bd
  have g1 := pb.gd
  have ho : ∀ i, s = .byref i → i ∉ own := fun i e => by subst e; exact srcOf_own eb
  have fin : ∀ r2 H2 acc vs, Wd (ret acc r2) (fun _ _ => False) (fun (ds : List Fw.D) r' => Wd (ret (Op.new (.list ds)) r') (fun _ _ => False) fun o r' => ∀ v H', Post K Y.T r σ H (back own rb r') H' → OpV K σ H H' o v → Q v H') → LcS K Y.T own rb σ Hb D r2 H2 acc vs → Q (.ref D) H2 := fun r2 H2 acc vs kf S => by
    have kf : ∀ v H', Post K Y.T r σ H (back own rb r2) H' → OpV K σ H H' (.new (.list acc)) v → Q v H' := kf
    refine kf (.ref D) H2 (pb.trans (post_back pb.gd S.p S.len)) ⟨⟨D, vs, rfl, S.d, S.a⟩, fun a e => ?_⟩
    cases e
    cases z : H D with
    | none => rfl
    | some o => exact absurd hD (pb.tr D (by rw [z]; simp))
  have S0 : LcS K Y.T own rb σ Hb D rb (upd Hb D (.lst [])) [] [] := ⟨(Post.refl (gd_wipe g1 rfl)).trans (.same (gd_wipe g1 rfl) (same_upd hD)), upd_same, .nil, rfl⟩
  have big : (9100000 : Nat) < sizeLine := by decide
  cases s with
  | fixed xs =>
    have q : Wd (if xs.length ≤ 3000 then lcFix2 (turn2M G f elt tg cond tg2 it2 cond2 own own2) xs [] rb else .no) (fun _ _ => False) _ := q
    by_cases hxs : xs.length ≤ 3000
    · rw [if_pos hxs] at q
      obtain ⟨L, hL, hn, hlen, hJ⟩ := hJ
      refine ⟨fun i m H => ∃ r acc vs, m = xs.length - i ∧ i ≤ xs.length ∧ LcS K Y.T own rb σ Hb D r H acc vs ∧ acc.length ≤ i * 3001 ∧ Wd (lcFix2 (turn2M G f elt tg cond tg2 it2 cond2 own own2) (xs.drop i) acc r) (fun _ _ => False) _, ⟨xs.length, rb, [], [], by simp, Nat.zero_le _, S0, Nat.zero_le _, q⟩, ?_⟩
      rintro i m H ⟨r, acc, vs, rfl, hi, S, hacc, w⟩
      have hP : Kp Hb H ∧ PinL L H := ⟨S.p.kp (gd_wipe g1 rfl), fun p hp => S.p.ext p.1 _ (hL p hp) (fun _ z => by cases z) fun z => (hn p hp).1 (own_wipe z)⟩
      obtain ⟨hgo, hstop⟩ := hJ i H hP
      by_cases hlt : i < xs.length
      · right
        have ex : xs[i]? = some xs[i] := List.getElem?_eq_getElem hlt
        obtain ⟨go, yl⟩ := hgo _ ex
        rw [List.drop_eq_getElem_cons hlt] at w
        have w : Wd (bd (turn2M G f elt tg cond tg2 it2 cond2 own own2 xs[i] acc) (fun acc' => lcFix2 (turn2M G f elt tg cond tg2 it2 cond2 own own2) (xs.drop (i + 1)) acc') r) (fun _ _ => False) _ := w
        refine ⟨go, fun H' => ∃ r' acc' vs', LcS K Y.T own rb σ Hb D r' H' acc' vs' ∧ acc'.length ≤ (i + 1) * 3001 ∧ Wd (lcFix2 (turn2M G f elt tg cond tg2 it2 cond2 own own2) (xs.drop (i + 1)) acc' r') (fun _ _ => False) _,
          fun H' ⟨r', acc', vs', S', h', w'⟩ => ⟨xs.length - (i + 1), by omega, r', acc', vs', rfl, hlt, S', h', w'⟩, fun x H' y => ?_⟩
        obtain ⟨hs, hf⟩ := yl x H' y
        exact lc2_turn g1 hD htg hsub htg2 S hs hf (by omega) w.bd fun r' H' acc' vs' q S' hl => ⟨r', acc', vs', S', by omega, q⟩
      · left
        have e : i = xs.length := by omega
        refine ⟨hstop (by omega), ?_⟩
        rw [List.drop_eq_nil_of_le (by omega)] at w
        exact fin r H acc vs w S
    · rw [if_neg hxs] at q
      exact q.elim
  | byref i0 =>
    obtain ⟨a, ha, rfl⟩ := hJ
    have ho := ho i0 rfl
    have hv : (L2.wipe σ own)[i0]? = some (some (.ref a)) := by rw [wipeS_out ho]; exact ha
    have q : Wd (lcRef2 (turn2M G f elt tg cond tg2 it2 cond2 own own2) i0 3001 0 [] rb) (fun _ _ => False) _ := q
    refine ⟨fun i m H => ∃ r acc vs, m + i = 3001 ∧ LcS K Y.T own rb σ Hb D r H acc vs ∧ acc.length ≤ i * 3001 ∧ Wd (lcRef2 (turn2M G f elt tg cond tg2 it2 cond2 own own2) i0 m i acc r) (fun _ _ => False) _, ⟨3001, rb, [], [], by simp, S0, Nat.zero_le _, q⟩, ?_⟩
    rintro i m H ⟨r, acc, vs, hm, S, hacc, w⟩
    cases m with
    | zero => exact w.elim
    | succ m =>
      unfold lcRef2 at w
      cases hd : dataAt r i0 with
      | none => simp only [hd] at w; exact w.elim
      | some d =>
        cases d with
        | list ys =>
          simp only [hd] at w
          obtain ⟨zs, sq, fz⟩ := ref_at (τ := σ) S.p ho hv hd
          cases hy : ys[i]? with
          | none =>
            simp only [hy] at w
            refine .inl ⟨⟨zs, sq, ?_⟩, fin r H acc vs w S⟩
            have := List.getElem?_eq_none_iff.mp hy
            rw [fz.length] at this; exact this
          | some d =>
            simp only [hy] at w
            obtain ⟨v, e1, e2⟩ := fz.get hy
            refine .inr ⟨⟨zs, v, sq, e1⟩, fun H' => ∃ r' acc' vs', LcS K Y.T own rb σ Hb D r' H' acc' vs' ∧ acc'.length ≤ (i + 1) * 3001 ∧ Wd (lcRef2 (turn2M G f elt tg cond tg2 it2 cond2 own own2) i0 m (i + 1) acc' r') (fun _ _ => False) _,
              fun H' ⟨r', acc', vs', S', h', w'⟩ => ⟨m, by omega, r', acc', vs', by omega, S', h', w'⟩, fun x H' ⟨y1, y2⟩ => ?_⟩
            subst y1
            have := y2 zs sq
            rw [e1] at this; cases this
            exact lc2_turn g1 hD htg hsub htg2 S (Same.refl _) e2 (by omega) w.bd fun r' H' acc' vs' q S' hl => ⟨r', acc', vs', S', by omega, q⟩
        | _ => simp only [hd] at w; exact w.elim
end
end Fw

/-! Fw: all, any of a generator expression: the block, the cursor -/
namespace Fw
open PySem PySem.Spec PyProof.Rows L2

/-! ### the cursor -/
def itemAt : Src → Env → Nat → Option (Option D)
  | .fixed xs, _, i => some xs[i]?
  | .byref i0, r, i => match dataAt r i0 with
    | some (.list ys) => some ys[i]?
    | _ => none
/-- the next item that is handed out -/
def nextS (turn : D → M (Option D)) (s : Src) : Nat → Nat → M (Option (D × Nat × Nat))
  | 0, _ => fun _ => .no
  | m + 1, i => fun r => match itemAt s r i with
    | none => .no
    | some none => .ok none r
    | some (some d) => bd (turn d) (fun o => match o with
      | none => nextS turn s m (i + 1)
      | some e => ret (some (e, m, i + 1))) r
def quickS (c : Bool) (turn : D → M (Option D)) (s : Src) : Nat → Nat → M Bool
  | 0, _ => fun _ => .no
  | m + 1, i => fun r => match itemAt s r i with
    | none => .no
    | some none => .ok (!c) r
    | some (some d) => bd (turn d) (fun o => match o with
      | none => quickS c turn s m (i + 1)
      | some (.bool b) => if b == c then ret c else quickS c turn s m (i + 1)
      | some _ => opt none) r
def qAfter (c : Bool) (turn : D → M (Option D)) (s : Src) (m i : Nat) : Option D → M Bool
  | none => quickS c turn s m i
  | some (.bool b) => if b == c then ret c else quickS c turn s m i
  | some _ => opt none
theorem quickS_succ {c : Bool} {turn : D → M (Option D)} {s : Src} {m i : Nat} {r : Env} : quickS c turn s (m + 1) i r = match itemAt s r i with
    | none => .no
    | some none => .ok (!c) r
    | some (some d) => bd (turn d) (qAfter c turn s m (i + 1)) r := by
  show (match itemAt s r i with
    | none => Res.no
    | some none => .ok (!c) r
    | some (some d) => bd (turn d) (fun o => match o with
      | none => quickS c turn s m (i + 1)
      | some (.bool b) => if b == c then ret c else quickS c turn s m (i + 1)
      | some _ => opt none) r) = _
  congr 1
def nAfter (turn : D → M (Option D)) (s : Src) (m i : Nat) : Option D → M (Option (D × Nat × Nat))
  | none => nextS turn s m i
  | some e => ret (some (e, m, i))
theorem nextS_succ {turn : D → M (Option D)} {s : Src} {m i : Nat} {r : Env} : nextS turn s (m + 1) i r = match itemAt s r i with
    | none => .no
    | some none => .ok none r
    | some (some d) => bd (turn d) (nAfter turn s m (i + 1)) r := by
  show (match itemAt s r i with
    | none => Res.no
    | some none => .ok none r
    | some (some d) => bd (turn d) (fun o => match o with
      | none => nextS turn s m (i + 1)
      | some e => ret (some (e, m, i + 1))) r) = _
  congr 1
def qBack (c : Bool) (turn : D → M (Option D)) (s : Src) : Option (D × Nat × Nat) → M Bool
  | none => ret (!c)
  | some (.bool b, m', i') => if b == c then ret c else quickS c turn s m' i'
  | some _ => opt none
theorem quickS_step {c : Bool} {turn : D → M (Option D)} {s : Src} : ∀ (m i : Nat) (r : Env), quickS c turn s m i r = (nextS turn s m i r).bd (qBack c turn s)
  | 0, _, _ => rfl
  | m + 1, i, r => by
    rw [quickS_succ, nextS_succ]
    cases itemAt s r i with
    | none => rfl
    | some z =>
      cases z with
      | none => rfl
      | some d =>
        simp only [Fw.bd]
        cases turn d r with
        | ex c r => rfl
        | no => rfl
        | ok o r1 =>
          cases o with
          | none => exact quickS_step m (i + 1) r1
          | some e =>
            cases e <;> rfl
theorem quick_S {c : Bool} {turn : D → M (Option D)} {xs : List D} : ∀ (m i : Nat) (r : Env), xs.length < m + i → quick c turn (xs.drop i) r = quickS c turn (.fixed xs) m i r ∨ (m = 0 ∧ xs.length ≤ i)
  | 0, i, r, h => .inr ⟨rfl, by omega⟩
  | m + 1, i, r, h => by
    left
    rw [quickS_succ]
    show _ = match (some xs[i]? : Option (Option D)) with
      | none => _
      | some none => _
      | some (some d) => _
    cases e : xs[i]? with
    | none =>
      have := List.getElem?_eq_none_iff.mp e
      rw [List.drop_eq_nil_of_le this]; rfl
    | some d =>
      obtain ⟨hi, rfl⟩ := List.getElem?_eq_some_iff.mp e
      rw [List.drop_eq_getElem_cons hi]
      have key : quick c turn (xs.drop (i + 1)) = quickS c turn (.fixed xs) m (i + 1) := by
        funext r1
        rcases quick_S (c := c) (turn := turn) (xs := xs) m (i + 1) r1 (by omega) with h1 | ⟨h1, h2⟩
        · exact h1
        · omega
      show bd (turn xs[i]) _ r = bd (turn xs[i]) _ r
      unfold Fw.bd
      cases turn xs[i] r with
      | ex c r => rfl
      | no => rfl
      | ok o r1 =>
        cases o with
        | none => exact congrFun key r1
        | some e =>
          cases e with
          | bool b =>
            show (if (b == c) = true then ret c else quick c turn (xs.drop (i + 1))) r1 = (if (b == c) = true then ret c else quickS c turn (.fixed xs) m (i + 1)) r1
            rw [key]
          | _ => rfl
theorem quickRef_S {c : Bool} {turn : D → M (Option D)} {i0 : Nat} {j : Nat → Env → Prop} {k : Bool → Env → Prop} : ∀ (m m' i : Nat) (r : Env), m ≤ m' → Wd (quickRef c turn i0 m i r) j k → Wd (quickS c turn (.byref i0) m' i r) j k
  | 0, _, _, _, _, w => w.elim
  | m + 1, 0, _, _, h, _ => by omega
  | m + 1, m' + 1, i, r, h, w => by
    unfold quickRef at w
    rw [quickS_succ]
    unfold itemAt
    cases hd : dataAt r i0 with
    | none => simp only [hd] at w; exact w.elim
    | some d =>
      cases d with
      | list ys =>
        simp only [hd] at w ⊢
        cases hy : ys[i]? with
        | none => simp only [hy] at w ⊢; exact w
        | some x =>
          simp only [hy] at w ⊢
          refine Wd.bd' (w.bd.mono (fun _ _ z => z) fun o r1 e q => ?_)
          cases o with
          | none => exact quickRef_S m m' (i + 1) r1 (by omega) q
          | some d' =>
            cases d' with
            | bool b =>
              have q : Wd ((if (b == c) = true then ret c else quickRef c turn i0 m (i + 1)) r1) j k := q
              show Wd ((if (b == c) = true then ret c else quickS c turn (.byref i0) m' (i + 1)) r1) j k
              split at q
              · rename_i h1; rw [if_pos h1]; exact q
              · rename_i h1; rw [if_neg h1]; exact quickRef_S m m' (i + 1) r1 (by omega) q
            | _ => exact q
      | _ => simp only [hd] at w; exact w.elim
/-- the items, one after another -/
def nxs (turn : D → M (Option D)) (s : Src) (N0 : Nat) (r1 : Env) : Nat → Res (Option (D × Nat × Nat))
  | 0 => nextS turn s N0 0 r1
  | j + 1 => match nxs turn s N0 r1 j with
    | .ok (some (_, m, i)) r => nextS turn s m i r
    | _ => .no

/-! ### the block of a generator expression -/
abbrev Xg (X : Cx) (s : Shared) (H : Hp) (cenv : PySem.Env) (fp : List Addr) (pn : List (Addr × Obj)) (A' : Around) : Cx :=
  { X with A := A', s_0 := s, H_0 := H, env := cenv, outer := X.stack, stack := cenv :: X.stack, ex := fp, fn := fun _ => false, pn := pn, xe := fun _ _ => False }
section
variable {X : Cx} {pins : List (Addr × Obj)} {σ : St} {H : Hp} {s s5 : Shared}
theorem gen_start {scope : Scope} {own : List (Str × Nat)} {fp : List Addr} {code : Value} {A' : Around} {m5 : Str → Option Value} (I : Inv X pins σ H s) (ok : BlkOk X.N X.env.scope scope own) (hN : X.N.Nodup) (hcell : ∀ y ∈ scope.names, y.2 ≠ .cell)
    (hfp : ∀ b ∈ fp, FpOk X pins H b ∧ b < s.heap.objs.size) (hd : A'.handled = none) (hfr : A'.frames = some (genEnv scope (cloFrom X.env.cells scope.names []) s.heap.objs.size code builtinsNs X.env :: X.stack))
    (kp : ∀ b o, s.heap.get? b = some o → s5.heap.get? b = some o) (hns : s5.heap.Ns s.heap.objs.size m5) (hos : s5.os = s.os) (hb : AllBare s5.gens) :
    Inv (Xg X s H (genEnv scope (cloFrom X.env.cells scope.names []) s.heap.objs.size code builtinsNs X.env) fp [] A') [] (L2.wipe σ (own.map (·.2))) H s5 := by
  have hfree : ∀ y ∈ scope.names, y.2 = .free → ∃ c, X.env.cells.lookup y.1 = some c := fun y hy e => by
    rcases ok.free y hy e with k | k
    · exact I.ok.has _ (.inl k)
    · exact I.ok.has _ (.inr k)
  generalize hcenv : genEnv scope (cloFrom X.env.cells scope.names []) s.heap.objs.size code builtinsNs X.env = cenv at hfr
  have hL : cenv.locals = s.heap.objs.size := by rw [← hcenv]; rfl
  have hcl : cenv.cells = cloFrom X.env.cells scope.names [] := by rw [← hcenv]; rfl
  have hsc : cenv.scope = scope := by rw [← hcenv]; rfl
  have cm : ∀ {y c}, (y, c) ∈ cloFrom X.env.cells scope.names [] → X.env.cells.lookup y = some c ∧ c < s.heap.objs.size := fun {y c} hm => by
    rcases cloFrom_mem hm with hm | ⟨h1, rfl⟩
    · cases hm
    · obtain ⟨c, hc⟩ := hfree _ h1 rfl
      rw [hc]
      obtain ⟨w, z⟩ := I.cell _ _ hc
      exact ⟨rfl, z.lt⟩
  have mem : ∀ {y c}, cenv.cells.lookup y = some c → X.env.cells.lookup y = some c ∧ c < s.heap.objs.size := fun {y c} e => by
    rw [hcl] at e
    exact cm (PySem.mem_of_lookup e)
  have look : ∀ {y}, scope.names.lookup y = some .free → ∃ c, cenv.cells.lookup y = some c ∧ X.env.cells.lookup y = some c := fun {y} hl => by
    have hy : (y, NameKind.free) ∈ scope.names := PySem.mem_of_lookup hl
    obtain ⟨c', e'⟩ := mem_lookup (cloFrom_has (cells := X.env.cells) (acc := []) hy)
    rw [← hcl] at e'
    exact ⟨c', e', (mem e').1⟩
  have nocell : ∀ {y}, scope.names.lookup y ≠ some .cell := fun {y} e => hcell _ (PySem.mem_of_lookup e) rfl
  have okB : (Xg X s H cenv fp [] A').Ok := by
    refine ⟨I.ok.mod, by show cenv.scope.kind = _; rw [hsc]; exact ok.kind, by show cenv.globals = _; rw [← hcenv]; exact I.ok.glob, by show cenv.builtins = _; rw [← hcenv]; rfl, by show s.heap.objs.size ≤ cenv.locals; rw [hL]; exact Nat.le_refl _,
      fun y z c e1 e2 => ?_, fun y hy => ?_, fun y c z e => ?_, fun _ => hd, hfr, .inr ⟨rfl, by show cenv.frame = some cenv.locals; rw [← hcenv]; rfl⟩, fun b hb => ⟨?_, fun y c e z => ?_⟩, I.bs, Nat.le_trans I.ok.bsz I.sz, fun b o e hb => ?_, fun b hb z => ?_, I.stack, I.stkFree⟩
    · exact I.ok.inj y z c (mem e1).1 (mem e2).1
    · show ∃ c, cenv.cells.lookup y = some c
      have hy : scope.names.lookup y = some .cell ∨ scope.names.lookup y = some .free := by
        have : cenv.kindOf y = scope.names.lookup y := by unfold Env.kindOf; rw [hsc]
        rw [← this]; exact hy
      rcases hy with hy | hy
      · exact absurd hy nocell
      · obtain ⟨c, h1, _⟩ := look hy
        exact ⟨c, h1⟩
    · cases z
    · show b ≠ cenv.locals
      rw [hL]; exact Nat.ne_of_lt (hfp b hb).2
    · exact (hfp b hb).1.2.2.2.2.1 y c (mem e).1 z
    · rcases (hfp b hb).1.2.2.2.1 with z | z
      · exact I.ok.noex b o e z
      · exact absurd (Nat.lt_of_lt_of_le (Heap.lt_size e) (Nat.le_trans I.ok.bsz z)) (Nat.lt_irrefl _)
    · rcases List.mem_cons.mp (I.stkSub b z) with z | z
      · exact (hfp b hb).1.2.1 z
      · exact (hfp b hb).1.2.2.1 z
  refine ⟨okB, hos, hb, Un.kept kp, ⟨m5, ?_, fun i y av e1 e2 e3 => ?_⟩, fun y c e => ?_, ?_, fun y c e => ?_, fun p hp => ?_, I.hok.kept kp, by rw [wipe_length]; exact I.len⟩
  · show Heap.Ns _ cenv.locals _
    rw [hL]; exact hns
  · obtain ⟨e2, hne⟩ := wipe_some e2
    have e3 : Vis cenv.scope y := e3
    rw [hsc] at e3
    have nloc : scope.names.lookup y ≠ some .local := fun e => by
      rcases ok.own _ (PySem.mem_of_lookup e) (.inl rfl) with e' | e'
      · obtain ⟨p, hp, hpy⟩ := List.mem_map.mp e'
        have e3 := ok.ix p hp
        have : p.1 = y := hpy
        rw [this] at e3
        exact hne (List.mem_map.mpr ⟨p, hp, nodup_ix hN e3 e1⟩)
      · exact e' (List.mem_of_getElem? e1)
    have hfr : scope.names.lookup y = some .free := by
      rcases e3 with e3 | e3 | e3
      · exact absurd e3 nloc
      · exact absurd e3 nocell
      · exact e3
    obtain ⟨m, hn, hl⟩ := I.loc
    have hvis : Vis X.env.scope y := (ok.free _ (PySem.mem_of_lookup hfr) rfl).elim (fun k => .inr (.inl k)) (fun k => .inr (.inr k))
    obtain ⟨w, r, q⟩ := hl i y av e1 e2 hvis
    refine ⟨w, r, .inr ⟨.inr (by show cenv.kindOf y = _; unfold Env.kindOf; rw [hsc]; exact hfr), ?_⟩⟩
    obtain ⟨c, h1, h2⟩ := look hfr
    rcases q with ⟨k, _⟩ | ⟨_, c', e', z⟩
    · have k : X.env.scope.names.lookup y = some .local := k
      rcases ok.free _ (PySem.mem_of_lookup hfr) rfl with k' | k' <;> rw [show X.env.scope.names.lookup y = _ from k'] at k <;> cases k
    · rw [h2] at e'; cases e'
      exact ⟨c, h1, z.keeps kp⟩
  · obtain ⟨w, z⟩ := I.cell y c (mem e).1
    exact ⟨w, z.keeps kp⟩
  · show H cenv.locals = none
    rw [hL]; exact I.hok.fresh (Nat.le_refl _)
  · exact I.freeC y c (mem e).1
  · exact absurd (show p ∈ ([] : List (Addr × Obj)) ++ [] from hp) (by simp)
/-- the generator's own object is pinned -/
theorem gen_pin {cenv : PySem.Env} {fp : List Addr} {A' : Around} {a : Addr} {go : Obj} {σ' : St} {H' : Hp} (I : Inv (Xg X s H cenv fp [] A') [] σ' H' s5) (h : s5.heap.get? a = some go ∧ H' a = none ∧ a ≠ cenv.locals ∧ a ∉ frs X.stack ∧ ∀ v, go.data ≠ .cell v) : Inv (Xg X s H cenv fp [(a, go)] A') [] σ' H' s5 :=
  ⟨⟨I.ok.mod, I.ok.kind, I.ok.glob, I.ok.blt, I.ok.above, I.ok.inj, I.ok.has, I.ok.cab, I.ok.hd, I.ok.frames, I.ok.stk, I.ok.exf, I.ok.bs, I.ok.bsz, I.ok.noex, I.ok.exfs, I.ok.funs, I.ok.frf⟩, I.os, I.bare, I.base, I.loc, I.cell, I.free, I.freeC, fun p hp => by
    have e : p = (a, go) := by simpa using hp
    subst e; exact h, I.hok, I.len⟩
end
end Fw

/-! Fw: the turns of a generator expression -/
namespace Fw
open PySem PySem.Spec PyProof.Rows L2 GenW

section
variable {K : PySem.W.Frag} {Y : Yc} {G : Nat → Option D} {f : CE} {own : List Nat} {r1 : Env} {σ : St} {H1 : Hp}
theorem gen_turn {elt : E} {tg : Tg} {cond : Option E} {r : Env} {H H' : Hp} {d : Fw.D} {x : V} {k : Option Fw.D → Env → Prop} (g1 : Gd K Y.T r1 σ H1) (htg : ∀ i ∈ tgSl tg, i ∈ own)
    (P : Post K Y.T (wipe own r1) (L2.wipe σ own) H1 (wipe own r) H) (hs : Same H H') (hf : Fz K H' d x) (w : Wd (turnM G f elt tg cond own d r) (fun _ _ => False) k) :
    tG K Y.T tg x (L2.wipe σ own) H' fun σ2 H2 => L2.wipe σ2 own = L2.wipe σ own ∧ tT K Y.no (tstO G f cond) σ2 H2 fun b H3 =>
      if b = true then tFz (tE K Y.no (ev G f elt)) σ2 H3 fun y H4 => ∃ e r4, k (some e) r4 ∧ Fz K H4 e y ∧ Post K Y.T (wipe own r1) (L2.wipe σ own) H1 (wipe own r4) H4 ∧ r4.length = r1.length
      else ∃ r3, k none r3 ∧ Post K Y.T (wipe own r1) (L2.wipe σ own) H1 (wipe own r3) H3 ∧ r3.length = r1.length := by
  have P := P.trans (.same P.gd hs)
  have w := w.bd
  have w : Wd (bd (asgM tg d) (fun _ => bd (tstO G f cond) fun t => if t then bd (ev G f elt) fun o => bd (esc o) fun e => ret (some e) else ret none) (wipe own r)) (fun _ _ => False) k := w
  have w := w.bd
  unfold asgM at w
  cases ha : asg tg d (wipe own r) with
  | none => rw [ha] at w; exact w.elim
  | some r2 =>
    rw [ha] at w
    have w : Wd (bd (tstO G f cond) (fun t => if t then bd (ev G f elt) fun o => bd (esc o) fun e => ret (some e) else ret none) r2) (fun _ _ => False) k := w
    refine ⟨wipe own r, d, r2, P.gd, hf, ha, fun σ2 p2 => ?_⟩
    have hw : L2.wipe σ2 own = L2.wipe σ own := by
      rw [← wipeS_idem (σ := σ)]
      exact wipeS_eq p2.len fun i hi => p2.keep i fun z => hi (htg i z)
    refine ⟨hw, r2, p2.gd, w.bd.mono (fun _ _ z => z.elim) fun b r3 e q H3 p3 => ?_⟩
    have l2 : σ2.length = r1.length := by rw [p2.len, wipe_length, ← g1.len]
    cases b with
    | false =>
      simp only [Bool.false_eq_true, if_false] at q ⊢
      obtain ⟨P3, _⟩ := blk_next P p2 p3 hw
      exact ⟨r3, q, P3, by rw [p3.gd.len, l2]⟩
    | true =>
      simp only [if_true] at q ⊢
      have q : Wd (bd (ev G f elt) (fun o => bd (esc o) fun e => ret (some e)) r3) (fun _ _ => False) k := q
      have q2 : Wd (bd (ev G f elt) esc r3) (exK K Y.no r3 σ2 H3) fun e r' => k (some e) r' := Wd.bd' (q.bd.mono (fun _ _ z => z.elim) fun o r' e q => q.bd.mono (fun _ _ z => z.elim) fun _ _ _ z => z)
      refine esc_to p3.gd q2 fun d' r4 v H4 q4 p4 hv => ?_
      obtain ⟨P4, _⟩ := blk_next P p2 (p3.trans p4) hw
      exact ⟨d', r4, q4, hv, P4, by rw [p4.gd.len, l2]⟩
/-- what the iterator has at the cursor -/
theorem src_item {src : Src} {J : It} {i : Nat} {r : Env} {H : Hp} (g1 : Gd K Y.T r1 σ H1) (hJ : SrcV K σ H0 r1 H1 J src) (ho : ∀ i, src = .byref i → i ∉ own) (P : Post K Y.T (wipe own r1) (L2.wipe σ own) H1 (wipe own r) H) :
    (itemAt src r i = some none → J.stop i H) ∧ ∀ d, itemAt src r i = some (some d) → J.go i H ∧ ∀ x H', J.yld i H x H' → Same H H' ∧ Fz K H' d x := by
  cases src with
  | fixed xs =>
    obtain ⟨L, hL, hn, hlen, hJ⟩ := hJ
    have hP : Kp H1 H ∧ PinL L H := ⟨P.kp (gd_wipe g1 rfl), fun p hp => P.ext p.1 _ (hL p hp) (fun _ z => by cases z) fun z => (hn p hp).1 (own_wipe z)⟩
    obtain ⟨hgo, hstop⟩ := hJ i H hP
    refine ⟨fun e => hstop ?_, fun d e => hgo d (Option.some.inj e)⟩
    exact List.getElem?_eq_none_iff.mp (Option.some.inj e)
  | byref i0 =>
    obtain ⟨a, ha, rfl⟩ := hJ
    have ho := ho i0 rfl
    have key : ∀ z, itemAt (.byref i0) r i = some z → ∃ ys zs, z = ys[i]? ∧ SqL K H a zs ∧ Fzs K H ys zs := fun z e => by
      unfold itemAt at e
      cases hd : dataAt r i0 with
      | none => simp only [hd] at e; cases e
      | some d =>
        cases d with
        | list ys =>
          simp only [hd] at e
          have hv : (L2.wipe σ own)[i0]? = some (some (.ref a)) := by rw [wipeS_out ho]; exact ha
          have rv : Rdv K H (.list ys) (.ref a) := by
            refine (P.gd.rd (o := .ref i0) (H0 := H) (v := .ref a) hv (r1 := wipe own r) ?_).2
            show opt (dataAt (wipe own r) i0) _ = _
            have : dataAt (wipe own r) i0 = dataAt r i0 := by unfold dataAt; rw [wipe_out ho]
            rw [this, hd]; rfl
          obtain ⟨a', zs, e2, sq, fz⟩ := rv.list
          cases e2
          exact ⟨ys, zs, (Option.some.inj e).symm, sq, fz⟩
        | _ => simp only [hd] at e; cases e
    refine ⟨fun e => ?_, fun d e => ?_⟩
    · obtain ⟨ys, zs, e1, sq, fz⟩ := key _ e
      refine ⟨zs, sq, ?_⟩
      have := List.getElem?_eq_none_iff.mp e1.symm
      rw [fz.length] at this; exact this
    · obtain ⟨ys, zs, e1, sq, fz⟩ := key _ e
      obtain ⟨v, e3, e4⟩ := fz.get e1.symm
      refine ⟨⟨zs, v, sq, e3⟩, fun x H' ⟨y1, y2⟩ => ?_⟩
      subst y1
      have := y2 zs sq
      rw [e3] at this; cases this
      exact ⟨Same.refl _, e4⟩
end
theorem over_loopG {A : Around} {elt : Expr} {gs : List Comprehension} {sc : Scope} {p : Pos} {it acc : Value} {cenv : PySem.Env} {l : List PySem.Env} (h : A.frames = some l) : (A.over (.compLoop (.GeneratorExp elt gs sc p) 0 it acc cenv) []).frames = some (cenv :: l) := by
  obtain ⟨hd, d, fr, gs, u⟩ := A
  have h : fr = some l := h
  subst h
  simp [Around.over, marksOver, frameCount, unitsOf, envsOf, guardsOf, pushEnvs, pushGuards, Code.envs, Code.env?, Code.isFrame, Code.guards, Code.isGuard, Code.weight, Code.frames, Code.isCreation, Code.isCaller, Code.cUnits]

abbrev gN0 : Nat := sizeLine + 1
abbrev gN : Nat := sizeLine + 2
/-- the generator's state; ts: cells of the one who asks, that may change between the items -/
structure GSt (X' : Cx) (T : List Addr) (own : List Nat) (r1 : Env) (σ : St) (H1 : Hp) (fp ts : List Addr) (tn : Nat → Heap → Prop) (i : Nat) (r : Env) (H : Hp) (s₀ s : Shared) : Prop where
  inv : Inv X' (pinsAt ts s₀.heap) (L2.wipe σ own) H s
  wt : ∀ b ∈ ts, ∃ o, s₀.heap.get? b = some o
  tn : tn i s.heap
  fp : ∀ b ∈ fp, H b = none
  post : Post X'.K T (wipe own r1) (L2.wipe σ own) H1 (wipe own r) H
  len : r.length = r1.length
/-- the cells that are watched -/
structure Wt (X' : Cx) (fp ts : List Addr) : Prop where
  old : ∀ {σ' : St} {H' : Hp} {s' : Shared}, Inv X' [] σ' H' s' → (∀ b ∈ ts, H' b = none) → ∀ b ∈ ts, FpOk X' [] H' b
  dis : ∀ b ∈ fp, b ∉ ts
theorem Wt.nil {X' : Cx} {fp : List Addr} : Wt X' fp [] := ⟨fun _ _ b hb => by simp at hb, fun b _ hb => by simp at hb⟩
/-- nothing of the heap has changed but at ts -/
def Chg (ts : List Addr) (h h' : Heap) : Prop := (∀ b o, b ∉ ts → h.get? b = some o → h'.get? b = some o) ∧ ∀ b ∈ ts, ∃ o, h'.get? b = some o ∧ ∀ v, o.data ≠ .cell v
theorem Chg.refl0 {h h' : Heap} (e : h' = h) : Chg [] h h' := ⟨fun b o _ q => by rw [e]; exact q, fun b hb => by simp at hb⟩
theorem GSt.tsN {X' : Cx} {T : List Addr} {own : List Nat} {r1 : Env} {σ : St} {H1 : Hp} {fp ts : List Addr} {tn : Nat → Heap → Prop} {i : Nat} {r : Env} {H : Hp} {s₀ s : Shared} (h : GSt X' T own r1 σ H1 fp ts tn i r H s₀ s) : ∀ b ∈ ts, H b = none := fun b hb => by
  obtain ⟨o, e⟩ := h.wt b hb
  exact (h.inv.pin (b, o) (List.mem_append_right _ (mem_pinsAt hb e))).2.1
theorem GSt.tsK {X' : Cx} {T : List Addr} {own : List Nat} {r1 : Env} {σ : St} {H1 : Hp} {fp ts : List Addr} {tn : Nat → Heap → Prop} {i : Nat} {r : Env} {H : Hp} {s₀ s : Shared} (h : GSt X' T own r1 σ H1 fp ts tn i r H s₀ s) {b : Addr} {o : Obj} (hb : b ∈ ts) (e : s₀.heap.get? b = some o) : s.heap.get? b = some o := (h.inv.pin (b, o) (List.mem_append_right _ (mem_pinsAt hb e))).1
theorem GSt.inv0 {X' : Cx} {T : List Addr} {own : List Nat} {r1 : Env} {σ : St} {H1 : Hp} {fp ts : List Addr} {tn : Nat → Heap → Prop} {i : Nat} {r : Env} {H : Hp} {s₀ s : Shared} (h : GSt X' T own r1 σ H1 fp ts tn i r H s₀ s) : Inv X' [] (L2.wipe σ own) H s := Inv.unpinned (pins := []) (pl := pinsAt ts s₀.heap) h.inv
theorem inv_chg {X' : Cx} {fp ts : List Addr} {σ : St} {H : Hp} {s s' : Shared} (I : Inv X' [] σ H s) (hn : ∀ b ∈ ts, H b = none) (W : Wt X' fp ts) (hh : Chg ts s.heap s'.heap) (ho : s'.os = s.os) (hg : AllBare s'.gens) : Inv X' [] σ H s' := by
  have F := W.old I hn
  have other : ∀ b o, H b = some o → b ∉ ts := fun b o e z => by rw [hn b z] at e; cases e
  refine I.call' (ch := ts) ho ⟨fun b o e _ _ hx => hh.1 b o hx e, fun b o e _ _ hx => ⟨o.slots, hh.1 b o hx e⟩, fun b o _ e _ => e, fun b o e hx => ⟨o, hh.1 b o hx e⟩, fun _ _ e => e, fun _ _ _ e => e, fun b ps e => ⟨#[], by rw [e]; simp⟩⟩
    (fun a o e => (I.hok a o e).stay (fun b u z q => hh.1 b u (z.elim (fun z => by rw [z]; exact other a o e) fun z => other b _ z) q) (fun _ q => q) fun _ _ q => q) hg fun b hb => ?_
  obtain ⟨_, f1, f2, f3, f4, f5⟩ := F b hb
  exact ⟨f3, f1, f4, f5⟩
theorem GSt.still {X' : Cx} {T : List Addr} {own : List Nat} {r1 : Env} {σ : St} {H1 : Hp} {fp ts : List Addr} {tn : Nat → Heap → Prop} {i : Nat} {r : Env} {H : Hp} {s₀ s s' : Shared} (h : GSt X' T own r1 σ H1 fp ts tn i r H s₀ s) (W : Wt X' fp ts)
    (kt : ∀ i h h', tn i h → (∀ b ∈ fp, ∀ o, h.get? b = some o → h'.get? b = some o) → tn i h') (hh : Chg ts s.heap s'.heap) (ho : s'.os = s.os) (hg : AllBare s'.gens) : GSt X' T own r1 σ H1 fp ts tn i r H s' s' := by
  have I := inv_chg h.inv0 h.tsN W hh ho hg
  exact ⟨I.pinned (W.old I h.tsN) hh.2, fun b hb => (hh.2 b hb).imp fun _ z => z.1, kt _ _ _ h.tn fun b hb o e => hh.1 b o (W.dis b hb) e, h.fp, h.post, h.len⟩
section
variable {X : Cx} {Y : Yc} {G : Nat → Option D} {f : CE} {s4 : Shared} {H4 : Hp} {cenv : PySem.Env} {fp : List Addr} {a it : Addr} {go : Obj} {Aw : Around} {own : List Nat} {r1 : Env} {σ : St} {ts : List Addr} {tn : Nat → Heap → Prop} {J : It} {src : Src}
  {elt iter tg : Expr} {ifs : List Expr} {scope : Scope} {pos : Pos} {ie : E} {it' : Tg} {ic : Option E}
/-- the code, the context of its turns -/
abbrev gCd (elt tg iter : Expr) (ifs : List Expr) (scope : Scope) (pos : Pos) (it : Addr) (cenv : PySem.Env) : Code := .compLoop (.GeneratorExp elt [⟨tg, iter, ifs, 0⟩] scope pos) 0 (.ref it) .none cenv
abbrev gX (X : Cx) (s4 : Shared) (H4 : Hp) (cenv : PySem.Env) (fp : List Addr) (a : Addr) (go : Obj) (Aw : Around) (c : Code) : Cx := Xg X s4 H4 cenv fp [(a, go)] (Aw.over c [])
/-- the generator has ended -/
def gEndP (X' : Cx) (T : List Addr) (own : List Nat) (r1 : Env) (σ : St) (H4 : Hp) (turn : D → M (Option D)) (src : Src) (n : Nat) (s₀ s₁ : Shared) : Prop :=
  ∃ j r H, n + j = gN ∧ nxs turn src gN0 r1 j = .ok none r ∧ Inv X' [] (L2.wipe σ own) H s₁ ∧ Post X'.K T (wipe own r1) (L2.wipe σ own) H4 (wipe own r) H ∧ r.length = r1.length
def gEnd (X' : Cx) (T : List Addr) (own : List Nat) (r1 : Env) (σ : St) (H4 : Hp) (turn : D → M (Option D)) (src : Src) : GenEnd := fun n s₀ res s₁ => res = .ok .next ∧ gEndP X' T own r1 σ H4 turn src n s₀ s₁
/-- it hands out -/
def gYld (X' : Cx) (T : List Addr) (own : List Nat) (r1 : Env) (σ : St) (H4 : Hp) (fp ts : List Addr) (tn : Nat → Heap → Prop) (turn : D → M (Option D)) (src : Src) : Protocol := fun n s₀ v s₁ kap =>
  ∃ j d m i r H x, n + 1 + j = gN ∧ nxs turn src gN0 r1 j = .ok (some (d, m, i)) r ∧ RelV x v ∧ Fz X'.K H d x ∧ GSt X' T own r1 σ H4 fp ts tn i r H s₀ s₁ ∧ m + i = gN0 ∧ j + 1 ≤ i ∧
    ∀ s'', Chg ts s₁.heap s''.heap → s''.os = s₁.os → AllBare s''.gens → (∃ o r', nxs turn src gN0 r1 (j + 1) = .ok o r') → kap (.send .none) s''
theorem wd_next {turn : D → M (Option D)} {src : Src} {m i : Nat} {r : Env} {d : D} {z : Res (Option (D × Nat × Nat))} (h : bd (turn d) (nAfter turn src m i) r = z) (ok : ∃ o r', z = .ok o r') : Wd (turn d r) (fun _ _ => False) fun o r' => nAfter turn src m i o r' = z := by
  obtain ⟨o, r', rfl⟩ := ok
  unfold bd at h
  cases e : turn d r with
  | ok a r1 => rw [e] at h; exact h
  | ex c r1 => rw [e] at h; cases h
  | no => rw [e] at h; cases h
theorem gen_seg (hc : X.calm = true) (hco : cenv.scope.isCoroutine = false) (T : Turn X.prog X.w X.K tg J fp it tn) (g1 : Gd X.K Y.T r1 σ H4) (hJ : SrcV X.K σ H0 r1 H4 J src) (ho : ∀ i, src = .byref i → i ∉ own) (htg : ∀ i ∈ tgSl it', i ∈ own) (W : Wt (gX X s4 H4 cenv fp a go Aw (gCd elt tg iter ifs scope pos it cenv)) fp ts)
    (pg : PG (gX X s4 H4 cenv fp a go Aw (gCd elt tg iter ifs scope pos it cenv)) tg (tG X.K Y.T it'))
    (pt : PTs (gX X s4 H4 cenv fp a go Aw (gCd elt tg iter ifs scope pos it cenv)) ifs (tT X.K Y.no (tstO G f ic)))
    (pe : PE (gX X s4 H4 cenv fp a go Aw (gCd elt tg iter ifs scope pos it cenv)) elt (tFz (tE X.K Y.no (ev G f ie))))
    (stat : ∀ {σ' : St} {H' : Hp} {s' : Shared}, Inv (gX X s4 H4 cenv fp a go Aw (gCd elt tg iter ifs scope pos it cenv)) [] σ' H' s' → (∀ b ∈ fp, H' b = none) → ∀ b ∈ fp, FpOk (gX X s4 H4 cenv fp a go Aw (gCd elt tg iter ifs scope pos it cenv)) [] H' b) :
    ∀ (q j : Nat), q + j = gN → ∀ (m i : Nat) (r : Env) (H : Hp) (s s₀ : Shared), j ≤ i → m + i = gN0 → nextS (turnM G f ie it' ic own) src m i r = nxs (turnM G f ie it' ic own) src gN0 r1 j → (∃ o r', nxs (turnM G f ie it' ic own) src gN0 r1 j = .ok o r') →
      GSt (gX X s4 H4 cenv fp a go Aw (gCd elt tg iter ifs scope pos it cenv)) Y.T own r1 σ H4 fp ts tn i r H s₀ s →
      Seg (model X.prog X.w) Aw (gEnd (gX X s4 H4 cenv fp a go Aw (gCd elt tg iter ifs scope pos it cenv)) Y.T own r1 σ H4 (turnM G f ie it' ic own) src)
        (gYld (gX X s4 H4 cenv fp a go Aw (gCd elt tg iter ifs scope pos it cenv)) Y.T own r1 σ H4 fp ts tn (turnM G f ie it' ic own) src) q s₀
        (gCd elt tg iter ifs scope pos it cenv) ((model X.prog X.w).den (gCd elt tg iter ifs scope pos it cenv)) [] s := by
  have stat' : ∀ {σ' : St} {H' : Hp} {s' s₀ : Shared}, Inv (gX X s4 H4 cenv fp a go Aw (gCd elt tg iter ifs scope pos it cenv)) (pinsAt ts s₀.heap) σ' H' s' → (∀ b ∈ fp, H' b = none) → ∀ b ∈ fp, FpOk (gX X s4 H4 cenv fp a go Aw (gCd elt tg iter ifs scope pos it cenv)) (pinsAt ts s₀.heap) H' b := fun {σ' H' s' s₀} I hn b hb => by
    obtain ⟨f0, f1, f2, f3, f4, f5⟩ := stat (Inv.unpinned (pins := []) (pl := pinsAt ts s₀.heap) I) hn b hb
    refine ⟨f0, f1, f2, f3, f4, fun p hp => ?_⟩
    rcases List.mem_append.mp hp with hp | hp
    · exact f5 p (List.mem_append_left _ hp)
    · intro z
      have := (of_pinsAt hp).1
      rw [z] at this
      exact W.dis b hb this
  intro q
  induction q with
  | zero =>
    intro j hq m i r H s s₀ hji hmi
    unfold gN at hq
    unfold gN0 at hmi
    omega
  | succ q ihq =>
    intro j hq m
    induction m with
    | zero =>
      intro i r H s s₀ hji hmi hn ⟨o, r', e⟩
      rw [e] at hn; cases hn
    | succ m ihm =>
      intro i r H s s₀ hji hmi hn hok S
      show Seg _ Aw _ _ _ s₀ _ ((compTurn (.GeneratorExp elt [⟨tg, iter, ifs, 0⟩] scope pos) 0 (.ref it) .none cenv).onRaise (leaving cenv)) [] s
      rw [compTurn_gen, Sem.onRaise_eq_wrap]
      refine seg_bind_wrap (wpAny_standAt ?_)
      rw [nextS_succ] at hn
      obtain ⟨hstop, hgo⟩ := src_item (i := i) g1 hJ ho S.post
      cases hi : itemAt src r i with
      | none =>
        rw [hi] at hn
        obtain ⟨o, r', e⟩ := hok
        rw [e] at hn; cases hn
      | some z =>
        rw [hi] at hn
        cases z with
        | none =>
          refine seg_bind_wrap (thnF (T.done (gX X s4 H4 cenv fp a go Aw (gCd elt tg iter ifs scope pos it cenv)) rfl rfl rfl hc i (pinsAt ts s₀.heap) s _ H (fun _ _ => False) S.inv (stat' S.inv S.fp) S.tn (hstop hi)) fun rr s6 ⟨hr, I6⟩ => ?_)
          subst hr
          exact seg_end (.ok .next) ⟨rfl, j, r, H, hq, hn.symm, Inv.unpinned (pins := []) (pl := pinsAt ts s₀.heap) I6, S.post, S.len⟩
        | some d =>
          obtain ⟨hgo, yl⟩ := hgo d hi
          have w := wd_next hn hok
          refine seg_bind_wrap (thnF (T.item (gX X s4 H4 cenv fp a go Aw (gCd elt tg iter ifs scope pos it cenv)) rfl rfl rfl hc i (pinsAt ts s₀.heap) s _ H (fun _ _ => False) S.inv (stat' S.inv S.fp) S.tn hgo) fun rr s6 ⟨u, hr, h6⟩ => ?_)
          subst hr
          refine seg_bind_wrap (thnF h6 fun _ s7 ⟨x, H7, I7, r7, y7, st7, n7⟩ => ?_)
          obtain ⟨hs7, hf7⟩ := yl x H7 y7
          have I7' := I7.pinned (stat' I7 n7) (T.obj _ _ st7)
          refine seg_bind_wrap (thnF (pg.run _ s7 _ H7 x u _ I7' r7 (gen_turn g1 htg S.post hs7 hf7 w)) fun _ s8 ⟨σ8, H8, I8, hw8, q8⟩ => ?_)
          -- a turn's end
          have fin : ∀ {s' : Shared} {H' : Hp} {r' : Env}, Inv (gX X s4 H4 cenv fp a go Aw (gCd elt tg iter ifs scope pos it cenv)) (pinsAt ts s₀.heap ++ pinsAt fp s7.heap) σ8 H' s' → Post X.K Y.T (wipe own r1) (L2.wipe σ own) H4 (wipe own r') H' → r'.length = r1.length →
              GSt (gX X s4 H4 cenv fp a go Aw (gCd elt tg iter ifs scope pos it cenv)) Y.T own r1 σ H4 fp ts tn (i + 1) r' H' s₀ s' := fun {s' H' r'} I' P' l' => by
            have pin' : ∀ b ∈ fp, ∀ o, s7.heap.get? b = some o → s'.heap.get? b = some o ∧ H' b = none := fun b hb o e =>
              let z := I'.pin (b, o) (List.mem_append_right _ (List.mem_append_right _ (mem_pinsAt hb e)))
              ⟨z.1, z.2.1⟩
            have hl : (L2.wipe σ own).length = σ8.length := by rw [← hw8, wipe_length]
            refine ⟨(Inv.unpinned (pl := pinsAt fp s7.heap) I').weak hl (fun j v e => ?_), S.wt, T.keep _ _ _ st7 fun b hb o e => (pin' b hb o e).1, fun b hb => ?_, P', l'⟩
            · rw [← hw8] at e
              exact (wipe_some e).1
            · obtain ⟨o, e, _⟩ := T.obj _ _ st7 b hb
              exact (pin' b hb o e).2
          refine seg_bind_wrap (thnF (pt.run _ s8 σ8 H8 _ I8 q8) fun b s9 ⟨H9, I9, q9⟩ => ?_)
          cases b with
          | false =>
            simp only [Bool.false_eq_true, if_false] at q9 ⊢
            obtain ⟨r3, k3, P3, l3⟩ := q9
            have S3 := fin I9 P3 l3
            exact seg_again rfl (ihm (i + 1) r3 H9 s9 s₀ (by omega) (by omega) k3 hok S3)
          | true =>
            simp only [if_true] at q9 ⊢
            have hy : ∀ v, yieldOut cenv v = yieldValue v := fun v => by simp only [yieldOut, hco, Bool.false_eq_true, if_false]
            simp only [hy]
            rw [Sem.bind_eq_wrap', Sem.bind_eq_wrap', Sem.wrap_wrap, Sem.wrap_wrap]
            refine seg_wrap (thnF (pe.run _ s9 σ8 H9 _ I9 q9) fun y s10 ⟨yv, H10, I10, r10, e, r4, k4, hf4, P4, l4⟩ => ?_)
            have S4 := fin I10 P4 l4
            have hk : nxs (turnM G f ie it' ic own) src gN0 r1 j = .ok (some (e, m, i + 1)) r4 := k4.symm
            have hnx : nextS (turnM G f ie it' ic own) src m (i + 1) r4 = nxs (turnM G f ie it' ic own) src gN0 r1 (j + 1) := by
              show _ = match nxs (turnM G f ie it' ic own) src gN0 r1 j with
                | .ok (some (_, m, i)) r => nextS (turnM G f ie it' ic own) src m i r
                | _ => .no
              rw [hk]
            refine seg_at (seg_yield rfl rfl rfl ⟨j, e, m, i + 1, r4, H10, yv, by omega, hk, r10, hf4, S4, by omega, by omega, fun s'' hh ho' hb hok' => ?_⟩)
            exact seg_again rfl (ihq (j + 1) (by omega) m (i + 1) r4 H10 s'' s'' (by omega) (by omega) hnx hok' (S4.still W T.keep hh ho' hb))
end
end Fw

/-! Fw: all, any of a generator expression: who asks, the whole -/
namespace Fw
open PySem PySem.Spec PyProof.Rows L2 GenW

section
variable {X : Cx} {X' : Cx} {Y : Yc} {s4 : Shared} {H4 : Hp} {fp : List Addr} {a : Addr} {go : Obj} {Aw : Around} {own : List Nat} {r1 : Env} {σ : St} {tn : Nat → Heap → Prop} {src : Src} {turn : D → M (Option D)} {g : Nat}
/-- the generator sleeps: j items are out -/
structure Awake (X' : Cx) (Mo : Model) (Aw : Around) (R : GenEnd) (Yp : Protocol) (turn : D → M (Option D)) (src : Src) (r1 : Env) (a : Addr) (g q j : Nat) (s : Shared) : Prop where
  gen : s.heap.IsGen a g
  lim : s.heap.NoLimit
  bare : AllBare s.gens
  goes : ∃ gs, s.gens[g]? = some gs ∧ ∀ s'', s''.heap = s.heap → s''.os = s.os → AllBare s''.gens → (∃ o r', nxs turn src gN0 r1 j = .ok o r') → gs.Goes Mo Aw R Yp q (.send .none) s''
def IsGo (go : Obj) (g : Nat) : Prop := ∃ nm qn, go.cls = .type "generator" ∧ go.data = .fields #[.int g 0, nm, qn] ∧ go.slots = #[]
theorem IsGo.at {go : Obj} {g : Nat} {h : Heap} {a : Addr} (x : IsGo go g) (e : h.get? a = some go) : h.IsGen a g := by
  obtain ⟨nm, qn, h1, h2, h3⟩ := x
  exact ⟨go, nm, qn, e, h1, h2, h3⟩
theorem inv_gens {pins : List (Addr × Obj)} {σ : St} {H : Hp} {s s' : Shared} (I : Inv X pins σ H s) (hk : ∀ b o, s.heap.get? b = some o → s'.heap.get? b = some o) (ho : s'.os = s.os) (hg : AllBare s'.gens) : Inv X pins σ H s' :=
  I.call' (ch := []) ho (Un.kept hk) (I.hok.kept hk) hg fun b z => by simp at z
theorem any_loop {A : Around} {kf : Bool → Env → Prop} {Rr : Result → Shared → Prop} (hh : A.handled = none) (hd : A.depth < recursionLimit) (hgo : IsGo go g) (hpn : (a, go) ∈ X'.pn)
    (fin : ∀ s' r' H b, kf b r' → Inv X' [] (L2.wipe σ own) H s' → Post X'.K Y.T (wipe own r1) (L2.wipe σ own) H4 (wipe own r') H → r'.length = r1.length → Rr (.ok (.ret (.bool b))) s') :
    ∀ (q j : Nat), q + j = gN → ∀ (m i : Nat) (r : Env) (s : Shared), j ≤ i → m + i = gN0 → nextS turn src m i r = nxs turn src gN0 r1 j → Wd (quickS true turn src m i r) (fun _ _ => False) kf →
      Awake X' (model X'.prog X'.w) A.in1.in1 (gEnd X' Y.T own r1 σ H4 turn src) (gYld X' Y.T own r1 σ H4 fp [] tn turn src) turn src r1 a g q j s → codeAny (model X'.prog X'.w) A (.builtin "any.loop" ⟨[.ref a], []⟩) Rr s := by
  intro q
  induction q with
  | zero =>
    intro j hq m i r s hji hmi
    unfold gN at hq
    unfold gN0 at hmi
    omega
  | succ q ih =>
    intro j hq m i r s hji hmi hn w AW
    obtain ⟨hg, hl, hbr, gs, hgs, goes⟩ := AW
    rw [quickS_step, hn] at w
    cases hx : nxs turn src gN0 r1 j with
    | ex c r => rw [hx] at w; exact w.elim
    | no => rw [hx] at w; exact w.elim
    | ok o r' =>
      rw [hx] at w
      have w : Wd (qBack true turn src o r') (fun _ _ => False) kf := w
      have hgl : g < s.gens.size := (Array.getElem?_eq_some_iff.mp hgs).1
      refine codeAny_builtin F.entry_any_loop ?_
      rw [Around.under_plainId F.plain_any_loop _]
      show wpAny _ A.in1 (pyNext (.ref a) >>= _) _ _ s
      refine wpAny_bind (wpAny_gsz (n := g + 1) hgl (wpAny_pyNext_genexpQ (A := A.in1) (P := gEndP X' Y.T own r1 σ H4 turn src) hh hl hd hg hgs (goes _ rfl rfl (allBare_setGen hbr rfl) ⟨o, r', hx⟩) (fun v s₁ gs' hb hv => ?_) (fun s₁ hp h' hk => ?_)))
      · intro hsz
        obtain ⟨j', d, m', i', r'', H, x, hn', hk', rv, hf, S, hmi', hji', kap⟩ := hv
        have ej : j' = j := by omega
        subst ej
        rw [hx] at hk'
        cases hk'
        cases d with
        | bool b =>
          have hf : x = .bl b := by simpa [Fz] using hf
          subst hf
          have rv : v = .bool b := rv
          subst rv
          have hsz1 : g < s₁.gens.size := by
            have q1 : (s₁.setGen g gs').gens.size = s₁.gens.size := setGen_size _ _ _
            have q2 : g + 1 ≤ (s₁.setGen g gs').gens.size := hsz
            omega
          have hbr' : AllBare (s₁.setGen g gs').gens := allBare_setGen S.inv.bare hb
          refine wpAny_bind (wpAny_holding (wpAny_truthy_bool ?_))
          refine wpAny_bind (wpAny_letGo ?_)
          cases b with
          | true =>
            simp only [Bool.false_eq_true, if_false, if_true]
            refine wpAny_bind (wpAny_rule (wpAny_pure ?_))
            have w : kf true r' := w
            exact fin (s₁.setGen g gs') r' H true w (inv_gens S.inv0 (fun _ _ e => e) rfl hbr') S.post S.len
          | false =>
            simp only [Bool.false_eq_true, if_false, if_true]
            have w : Wd (quickS true turn src m' i' r') (fun _ _ => False) kf := w
            have hnx : nextS turn src m' i' r' = nxs turn src gN0 r1 (j' + 1) := by
              show _ = match nxs turn src gN0 r1 j' with
                | .ok (some (_, m, i)) r => nextS turn src m i r
                | _ => .no
              rw [hx]
            refine wpAny_pure ⟨plainId_quiet F.plain_any_loop _, ih (j' + 1) (by omega) m' i' r' _ hji' hmi' hnx w ⟨hgo.at (S.inv.pin (a, go) (List.mem_append_left _ hpn)).1, S.inv.nolimit, hbr', gs', setGen_at hsz1, fun s'' e1 e2 e3 e4 => ?_⟩⟩
            exact kap s'' (Chg.refl0 e1) e2 e3 e4
        | _ => exact w.elim
      · intro _
        obtain ⟨j', r'', H, hn', hk', I, P, l⟩ := hp
        have ej : j' = j := by omega
        subst ej
        rw [hx] at hk'
        cases hk'
        have w : kf (!true) r' := w
        refine wpAny_bind (wpAny_rule (wpAny_pure ?_))
        exact fin _ r' H (!true) w (inv_gens I hk rfl (allBare_setGen I.bare rfl)) P l
theorem all_loop {A : Around} {kf : Bool → Env → Prop} {Rr : Result → Shared → Prop} (hh : A.handled = none) (hd : A.depth < recursionLimit) (hgo : IsGo go g) (hpn : (a, go) ∈ X'.pn)
    (fin : ∀ s' r' H b, kf b r' → Inv X' [] (L2.wipe σ own) H s' → Post X'.K Y.T (wipe own r1) (L2.wipe σ own) H4 (wipe own r') H → r'.length = r1.length → Rr (.ok (.ret (.bool b))) s') :
    ∀ (q j : Nat), q + j = gN → ∀ (m i : Nat) (r : Env) (s : Shared), j ≤ i → m + i = gN0 → nextS turn src m i r = nxs turn src gN0 r1 j → Wd (quickS false turn src m i r) (fun _ _ => False) kf →
      Awake X' (model X'.prog X'.w) A.in1.in1 (gEnd X' Y.T own r1 σ H4 turn src) (gYld X' Y.T own r1 σ H4 fp [] tn turn src) turn src r1 a g q j s → codeAny (model X'.prog X'.w) A (.builtin "all.loop" ⟨[.ref a], []⟩) Rr s := by
  intro q
  induction q with
  | zero =>
    intro j hq m i r s hji hmi
    unfold gN at hq
    unfold gN0 at hmi
    omega
  | succ q ih =>
    intro j hq m i r s hji hmi hn w AW
    obtain ⟨hg, hl, hbr, gs, hgs, goes⟩ := AW
    rw [quickS_step, hn] at w
    cases hx : nxs turn src gN0 r1 j with
    | ex c r => rw [hx] at w; exact w.elim
    | no => rw [hx] at w; exact w.elim
    | ok o r' =>
      rw [hx] at w
      have w : Wd (qBack false turn src o r') (fun _ _ => False) kf := w
      have hgl : g < s.gens.size := (Array.getElem?_eq_some_iff.mp hgs).1
      refine codeAny_builtin F.entry_all_loop ?_
      rw [Around.under_plainId F.plain_all_loop _]
      show wpAny _ A.in1 (pyNext (.ref a) >>= _) _ _ s
      refine wpAny_bind (wpAny_gsz (n := g + 1) hgl (wpAny_pyNext_genexpQ (A := A.in1) (P := gEndP X' Y.T own r1 σ H4 turn src) hh hl hd hg hgs (goes _ rfl rfl (allBare_setGen hbr rfl) ⟨o, r', hx⟩) (fun v s₁ gs' hb hv => ?_) (fun s₁ hp h' hk => ?_)))
      · intro hsz
        obtain ⟨j', d, m', i', r'', H, x, hn', hk', rv, hf, S, hmi', hji', kap⟩ := hv
        have ej : j' = j := by omega
        subst ej
        rw [hx] at hk'
        cases hk'
        cases d with
        | bool b =>
          have hf : x = .bl b := by simpa [Fz] using hf
          subst hf
          have rv : v = .bool b := rv
          subst rv
          have hsz1 : g < s₁.gens.size := by
            have q1 : (s₁.setGen g gs').gens.size = s₁.gens.size := setGen_size _ _ _
            have q2 : g + 1 ≤ (s₁.setGen g gs').gens.size := hsz
            omega
          have hbr' : AllBare (s₁.setGen g gs').gens := allBare_setGen S.inv.bare hb
          refine wpAny_bind (wpAny_holding (wpAny_truthy_bool ?_))
          refine wpAny_bind (wpAny_letGo ?_)
          cases b with
          | false =>
            simp only [Bool.false_eq_true, if_false, if_true]
            refine wpAny_bind (wpAny_rule (wpAny_pure ?_))
            have w : kf false r' := w
            exact fin (s₁.setGen g gs') r' H false w (inv_gens S.inv0 (fun _ _ e => e) rfl hbr') S.post S.len
          | true =>
            simp only [Bool.false_eq_true, if_false, if_true]
            have w : Wd (quickS false turn src m' i' r') (fun _ _ => False) kf := w
            have hnx : nextS turn src m' i' r' = nxs turn src gN0 r1 (j' + 1) := by
              show _ = match nxs turn src gN0 r1 j' with
                | .ok (some (_, m, i)) r => nextS turn src m i r
                | _ => .no
              rw [hx]
            refine wpAny_pure ⟨plainId_quiet F.plain_all_loop _, ih (j' + 1) (by omega) m' i' r' _ hji' hmi' hnx w ⟨hgo.at (S.inv.pin (a, go) (List.mem_append_left _ hpn)).1, S.inv.nolimit, hbr', gs', setGen_at hsz1, fun s'' e1 e2 e3 e4 => ?_⟩⟩
            exact kap s'' (Chg.refl0 e1) e2 e3 e4
        | _ => exact w.elim
      · intro _
        obtain ⟨j', r'', H, hn', hk', I, P, l⟩ := hp
        have ej : j' = j := by omega
        subst ej
        rw [hx] at hk'
        cases hk'
        have w : kf (!false) r' := w
        refine wpAny_bind (wpAny_rule (wpAny_pure ?_))
        exact fin _ r' H (!false) w (inv_gens I hk rfl (allBare_setGen I.bare rfl)) P l
end
theorem srcv_up {K : PySem.W.Frag} {σ : St} {r : Env} {H H' : Hp} {J : It} {src : Src} (k : Kp H H') (kl : ∀ a xs, H a = some (.lst xs) → H' a = some (.lst xs)) (h : SrcV K σ H0 r H J src) : SrcV K σ H0 r H' J src := by
  cases src with
  | fixed xs =>
    obtain ⟨L, h1, h2, h3, h4⟩ := h
    exact ⟨L, fun p hp => kl _ _ (h1 p hp), h2, h3, fun i H2 q => h4 i H2 ⟨k.trans q.1, q.2⟩⟩
  | byref i => exact h
/-- the code table at P has grown -/
theorem post_tab {K : PySem.W.Frag} {T : List Addr} {r : Env} {σ : St} {H : Hp} {P : Addr} {ps ps' : Array Value} (g : Gd K T r σ H) (hP : H P = some (.tbl ps)) (ht : TriplesOk ps'.toList) : Post K T r σ H r (upd H P (.tbl ps')) := by
  have at_ : ∀ b o, H b = some o → (∀ q, o ≠ .tbl q) → upd H P (.tbl ps') b = some o := fun b o e nt => by
    rw [upd_ne (fun z => by subst z; rw [hP] at e; cases e; exact nt _ rfl)]; exact e
  have k : Kp H (upd H P (.tbl ps')) := ⟨fun a o u h => at_ _ _ h (fun _ z => by cases z), fun a xs h => at_ _ _ h (fun _ z => by cases z)⟩
  refine ⟨⟨g.len, fun i d e => ?_, fun i d e => ?_, g.inj, fun p hp => ?_⟩, fun a o h1 h2 _ => at_ a o h1 h2, fun _ h => h, fun a h => ?_⟩
  · obtain ⟨v, h1, h2⟩ := g.fz i d e
    exact ⟨v, h1, Fz.keep k d v h2⟩
  · obtain ⟨v, h1, h2⟩ := g.ow i d e
    exact ⟨v, h1, h2.keep k fun a xs e1 e2 => at_ _ _ e2 (fun _ z => by cases z)⟩
  · by_cases hp2 : p = P
    · subst hp2; exact ⟨ps', upd_same, ht⟩
    · obtain ⟨qs, h1, h2⟩ := g.tb p hp
      exact ⟨qs, by rw [upd_ne hp2]; exact h1, h2⟩
  · by_cases ha : a = P
    · subst ha; rw [upd_same]; simp
    · rw [upd_ne ha]; exact h
theorem snd_any {CX : CXT} {X : Cx} {c : Cc} {Y : Yc} {G : Nat → Option D} {f : CE} {n : Nat} {elt tg iter : Expr} {ifs : List Expr} {scope : Scope} {p pos gpos : Pos} {own : List (Str × Nat)} {ie iit : E} {it' : Tg} {ic : Option E}
    (C : Ck CX X c Y G f n) (hca : c.ca = true) (hgd : c.gd = true) (hg : isGl c "any" = true) (hi : PI X tg iter (tI X.K Y (bd (ev G f iit) (srcOf (own.map (·.2)))))) (ok : BlkOk X.N X.env.scope scope own) (hcell : ∀ y ∈ scope.names, y.2 ≠ .cell) (hco : scope.isCoroutine = false)
    (hdot : scope.names.lookup (".0" : Str) = some NameKind.local) (hs : ∀ x, genFold iter X.env x = pure x) (htg : ∀ i ∈ tgSl it', i ∈ own.map (·.2))
    (hblk : ∀ (s4 : Shared) (H4 : Hp) (C : Addr) (code : Value) (fp : List Addr) (pn : List (Addr × Obj)) (A' : Around), Room n A' → 
      PG (Xg X s4 H4 (genEnv scope (cloFrom X.env.cells scope.names []) C code builtinsNs X.env) fp pn A') tg (tG X.K Y.T it') ∧
      PTs (Xg X s4 H4 (genEnv scope (cloFrom X.env.cells scope.names []) C code builtinsNs X.env) fp pn A') ifs (tT X.K Y.no (tstO G f ic)) ∧
      PE (Xg X s4 H4 (genEnv scope (cloFrom X.env.cells scope.names []) C code builtinsNs X.env) fp pn A') elt (tFz (tE X.K Y.no (ev G f ie)))) :
    PE X (.Call (.Name "any" p) [.GeneratorExp elt [⟨tg, iter, ifs, 0⟩] scope gpos] [] pos) (tE X.K Y (ev G f (.gen .any ie it' iit ic (own.map (·.2))))) := by
  refine ⟨fun pins s σ H Q I w => ?_⟩
  obtain ⟨r, g, w⟩ := w
  simp only [ev] at w
  have w : Wd (bd (ev G f iit) (fun x => bd (srcOf (own.map (·.2)) x) fun s => inOwn (own.map (·.2)) (genRun .any (turnM G f ie it' ic (own.map (·.2))) s)) r) (exK X.K Y r σ H) fun o r' => ∀ v H', Post X.K Y.T r σ H r' H' → OpV X.K σ H H' o v → Q v H' := w
  have wi : tI X.K Y (bd (ev G f iit) (srcOf (own.map (·.2)))) σ H fun J Hb => ∃ src rb, Post X.K Y.T r σ H rb Hb ∧ SrcV X.K σ H rb Hb J src ∧ (∀ i, src = .byref i → i ∉ own.map (·.2)) ∧
      Wd (quickS true (turnM G f ie it' ic (own.map (·.2))) src gN0 0 rb) (fun _ _ => False) fun b r' => ∀ H', Post X.K Y.T r σ H (back (own.map (·.2)) rb r') H' → Q (.bl b) H' := by
    refine ⟨r, g, Wd.bd' (w.bd.mono (fun _ _ z => z) fun o ra ea q => q.bd.mono (fun _ _ z => z) fun src rb eb q J Hb pb hJ => ?_)⟩
    have q := inOwn_wd q
    have q : Wd (bd (quickRun true (turnM G f ie it' ic (own.map (·.2))) src) (fun b => ret (.val (.bool b))) rb) (fun _ _ => False) fun o r' => ∀ v H', Post X.K Y.T r σ H (back (own.map (·.2)) rb r') H' → OpV X.K σ H H' o v → Q v H' := q
    have q2 : Wd (quickRun true (turnM G f ie it' ic (own.map (·.2))) src rb) (fun _ _ => False) fun b r' => ∀ H', Post X.K Y.T r σ H (back (own.map (·.2)) rb r') H' → Q (.bl b) H' := q.bd.mono (fun _ _ z => z) fun b r' _ q H' pp => q (.bl b) H' pp (by show Fz X.K H' (.bool b) _; simp [Fz])
    refine ⟨src, rb, pb, hJ, fun i e => by subst e; exact srcOf_own eb, ?_⟩
    cases src with
    | fixed xs =>
      obtain ⟨_, _, _, hlen, _⟩ := hJ
      rcases quick_S (c := true) (turn := turnM G f ie it' ic (own.map (·.2))) (xs := xs) gN0 0 rb (by unfold gN0; omega) with e | ⟨e, _⟩
      · rw [← e]; exact q2
      · unfold gN0 at e; omega
    | byref i0 => exact quickRef_S sizeLine gN0 0 rb (by unfold gN0; omega) q2
  have hfree : ∀ y ∈ scope.names, y.2 = .free → ∃ c, X.env.cells.lookup y.1 = some c := fun y hy e => by
    rcases ok.free y hy e with k | k
    · exact I.ok.has _ (.inl k)
    · exact I.ok.has _ (.inr k)
  refine wpAny_Call_Name_kw (ld_blt I (gl_of C hg) (C.bi _ (by decide +kernel)) boot_any ?_ (by decide +kernel) (by decide +kernel))
  refine PyProof.Rows.callWith_builtin1 ?_ rfl (by rfl)
  show wpAny _ _ (spliced ((false, eval (.GeneratorExp elt [⟨tg, iter, ifs, 0⟩] scope gpos) X.env) :: backTo pos (starEach [] X.env))) _ _ s
  have hroom := C.room hca
  rw [if_pos hgd] at hroom
  refine Calls.spliced_cons (wpAny_GeneratorExp_make hco (closure_ok hfree) hcell hdot ok.kind (by have := hroom.dp; omega) ?_ hs)
  refine thn (hi.run pins s σ H _ I wi) fun xv s1 h1 => thn h1 fun itv s2 ⟨it, fp, tn, J, H2, e, I2, T, st2, f2, src, rb, pb, hJ, ho, wq⟩ => ⟨I2.nolimit, ?_⟩
  subst e
  obtain ⟨cA, P, hPT, TB, hcode⟩ := C.code hgd
  obtain ⟨ps, hP, ht⟩ := pb.gd.tb P hPT
  have hPs : s2.heap.get? P = some { cls := .none, data := .fields ps } := I2.hok P _ hP
  have cd : PySem.W.CodeHd s2.heap cA P := TB.code.keeps fun b u e => I2.bk b u e
  have cont : ∀ (code : Value) (h3 : Heap) (tk : Nat) (ps' : Array Value), Heap.ExtBut P s2.heap h3 → h3.get? P = some { cls := .none, data := .fields ps' } → (∃ more, ps' = ps ++ more) → TriplesOk ps'.toList →
      wpAny (model X.prog X.w) X.A (builtinsFor X.env.globals X.env.builtins) (fun bi s₄ =>
        ∀ h', h'.Ns s₄.heap.objs.size (fun y => if y = (".0" : Str) then some (.ref it) else none) → Heap.SameBut s₄.heap.objs.size (s₄.heap.push { cls := .type "frame", data := .dict #[] }) h' →
          wpAny (model X.prog X.w) X.A (spliced (backTo pos (starEach [] X.env))) (fun us s' => wpAny (model X.prog X.w) X.A (call (.builtin "any") (.ref h'.objs.size :: us)) (EP X pins σ Q) X.xe s') X.xe
          { s₄ with
            gens := s₄.gens.push (.fresh (.compStart (.GeneratorExp elt [⟨tg, iter, ifs, 0⟩] scope gpos) 0 (.ref it) .none (genEnv scope (cloFrom X.env.cells scope.names []) s₄.heap.objs.size code bi X.env))),
            toks := s₄.toks + 1 + 1 + 1,
            heap := h'.push { cls := .type "generator", data := .fields #[.int s₄.gens.size 0, .str "<genexpr>" (s₄.toks + 1), .str (X.env.qual ++ "<genexpr>") (s₄.toks + 1 + 1)] } }) X.xe { s2 with heap := h3, toks := tk } := by
    intro code h3 tk ps' hx hP3 hmore ht3
    obtain ⟨bm, ob, e1, e2, e3, e4, e5, e6, e7, e8⟩ := TB.bm
    refine wpAny_builtinsFor (m := X.mg) (by rw [I2.ok.glob]; exact (I2.mod.glob.keeps I2.bk).extBut hx TB.gP) e1 e2 (hx _ _ e4 (I2.bk _ _ e5)) e6 e7 e8 ?_
    intro h' hn' hs'
    obtain ⟨more, em⟩ := hmore
    have I3 : Inv X pins σ (upd H2 P (.tbl ps')) { s2 with heap := h3, toks := tk } := by
      rw [em]
      exact GxR.inv_tab (more := more) (g' := s2.gens) (d' := s2.drawn) I2 hP (fun b o hb e => hx b o hb e) (by rw [← em]; exact hP3) I2.bare
    have p3 := post_tab (ps' := ps') pb.gd hP ht3
    have hJ3 := srcv_up (p3.kp pb.gd) (fun a xs e => by rw [upd_ne (fun z => by subst z; rw [hP] at e; cases e)]; exact e) hJ
    have h2P : ∀ b, H2 b = none → b ≠ P := fun b e z => by rw [z, hP] at e; cases e
    have f3 : ∀ b ∈ fp, FpOk X pins (upd H2 P (.tbl ps')) b ∧ b < h3.objs.size := fun b hb => by
      obtain ⟨o, eo, _⟩ := T.obj _ _ st2 b hb
      exact ⟨⟨by rw [upd_ne (h2P b (f2 b hb).1)]; exact (f2 b hb).1, (f2 b hb).2⟩, Heap.lt_size (hx b o (h2P b (f2 b hb).1) eo)⟩
    have st3 : tn 0 h3 := T.keep _ _ _ st2 fun b hb o e => hx b o (h2P b (f2 b hb).1) e
    generalize hs3 : ({ s2 with heap := h3, toks := tk } : Shared) = s3 at I3 hn' hs' ⊢
    have hh3 : s3.heap = h3 := by rw [← hs3]
    generalize hH3 : upd H2 P (.tbl ps') = H3 at I3 p3 hJ3 f3
    have sz' : h'.objs.size = s3.heap.objs.size + 1 := by rw [hs'.1, Heap.size_push]
    have keep' : ∀ b o, s3.heap.get? b = some o → h'.get? b = some o := fun b o e => hs'.extBut b o (Nat.ne_of_lt (Heap.lt_size e)) (Heap.get?_push_of_some _ e)
    generalize hgo : ({ cls := .type "generator", data := .fields #[.int s3.gens.size 0, .str "<genexpr>" (s3.toks + 1), .str (X.env.qual ++ "<genexpr>") (s3.toks + 1 + 1)] } : Obj) = go
    have isgo : IsGo go s3.gens.size := by rw [← hgo]; exact ⟨_, _, rfl, rfl, rfl⟩
    have hget : (h'.push go).get? h'.objs.size = some go := by rw [← hgo]; exact Heap.get?_push_size _ rfl
    have keep5 : ∀ b o, s3.heap.get? b = some o → (h'.push go).get? b = some o := fun b o e => Heap.get?_push_of_some _ (keep' b o e)
    generalize hcenv : genEnv scope (cloFrom X.env.cells scope.names []) s3.heap.objs.size code builtinsNs X.env = cenv
    have cL : cenv.locals = s3.heap.objs.size := by rw [← hcenv]; rfl
    have cS : cenv.scope = scope := by rw [← hcenv]; rfl
    generalize hs5 : ({ s3 with gens := s3.gens.push (.fresh (.compStart (.GeneratorExp elt [⟨tg, iter, ifs, 0⟩] scope gpos) 0 (.ref it) .none cenv)), toks := s3.toks + 1 + 1 + 1, heap := h'.push go } : Shared) = s5
    have h5 : s5.heap = h'.push go := by rw [← hs5]
    have g5 : s5.gens = s3.gens.push (.fresh (.compStart (.GeneratorExp elt [⟨tg, iter, ifs, 0⟩] scope gpos) 0 (.ref it) .none cenv)) := by rw [← hs5]
    have o5 : s5.os = s3.os := by rw [← hs5]
    have b5 : AllBare s5.gens := by rw [g5]; exact I3.bare.push rfl
    refine Calls.spliced_nil ?_
    -- the block
    have hA : X.A.in1.in1.frames = some X.stack := I3.ok.frames
    have hfrm : (X.A.in1.in1.over (gCd elt tg iter ifs scope gpos it cenv) []).frames = some (cenv :: X.stack) := over_loopG hA
    have hhd : (X.A.in1.in1.over (gCd elt tg iter ifs scope gpos it cenv) []).handled = none := I3.ok.hd (C.calm hca)
    have hrm : Room n (X.A.in1.in1.over (gCd elt tg iter ifs scope gpos it cenv) []) := by
      refine ⟨hhd, ?_, ?_⟩
      · have := hroom.dp
        show X.A.depth + 1 + 3 * n + 5 < _
        omega
      · have := hroom.un
        show X.A.units + 1 + 1 + 3 + 16 * n + 200 < _
        omega
    have IB0 := gen_start (code := code) (A' := X.A.in1.in1.over (gCd elt tg iter ifs scope gpos it cenv) []) (s5 := s5) (m5 := fun y => if y = (".0" : Str) then some (.ref it) else none) I3 ok C.nd hcell (fun b hb => by rw [hh3]; exact f3 b hb) hhd (by rw [hcenv]; exact hfrm) (by rw [h5]; exact keep5)
      (by rw [h5]; exact hn'.push _) o5 b5
    rw [hcenv] at IB0
    have aN : H3 h'.objs.size = none := I3.hok.fresh (by rw [sz']; exact Nat.le_succ _)
    have aL : h'.objs.size ≠ cenv.locals := by rw [cL, sz']; exact Nat.succ_ne_self _
    have aF : h'.objs.size ∉ frs X.stack := fun hm => by
      obtain ⟨_, o, eo, _⟩ := I3.stack.mem hm
      have h9 : h'.objs.size < s3.heap.objs.size := Heap.lt_size eo
      rw [sz'] at h9
      exact absurd h9 (Nat.not_lt.mpr (Nat.le_succ _))
    have IB := gen_pin IB0 ⟨by rw [h5]; exact hget, aN, aL, aF, fun v z => by rw [← hgo] at z; cases z⟩
    have S0 : GSt (gX X s3 H3 cenv fp h'.objs.size go X.A.in1.in1 (gCd elt tg iter ifs scope gpos it cenv)) Y.T (own.map (·.2)) rb σ H3 fp [] tn 0 rb H3 s5 s5 :=
      ⟨IB, fun b hb => by simp at hb, T.keep _ _ _ st3 fun b hb o e => by rw [h5]; exact keep5 b o (by rw [hh3]; exact e), fun b hb => (f3 b hb).1.1, .refl (gd_wipe p3.gd rfl), rfl⟩
    have fpa : ∀ b ∈ fp, h'.objs.size ≠ b := fun b hb z => by
      have h9 : b < s3.heap.objs.size := by rw [hh3]; exact (f3 b hb).2
      rw [← z, sz'] at h9
      exact absurd h9 (Nat.not_lt.mpr (Nat.le_succ _))
    have stat : ∀ {σ' : St} {H' : Hp} {s' : Shared}, Inv (gX X s3 H3 cenv fp h'.objs.size go X.A.in1.in1 (gCd elt tg iter ifs scope gpos it cenv)) [] σ' H' s' → (∀ b ∈ fp, H' b = none) → ∀ b ∈ fp, FpOk (gX X s3 H3 cenv fp h'.objs.size go X.A.in1.in1 (gCd elt tg iter ifs scope gpos it cenv)) [] H' b := fun {σ' H' s'} I' hn b hb =>
      ⟨hn b hb, (I'.ok.exf b hb).1, I'.ok.exfs b hb, .inl hb, fun x c e => (I'.ok.exf b hb).2 x c e, fun p hp => by
        have e : p = (h'.objs.size, go) := by simpa using hp
        subst e
        exact fpa b hb⟩
    obtain ⟨pg, pt, pe⟩ := hblk s3 H3 s3.heap.objs.size code fp [(h'.objs.size, go)] (X.A.in1.in1.over (gCd elt tg iter ifs scope gpos it cenv) []) hrm
    rw [hcenv] at pg pt pe
    have seg := gen_seg (X := X) (s4 := s3) (H4 := H3) (cenv := cenv) (fp := fp) (a := h'.objs.size) (it := it) (go := go) (Aw := X.A.in1.in1) (own := own.map (·.2)) (r1 := rb) (σ := σ) (tn := tn) (J := J) (src := src) (pos := gpos) (iter := iter) (C.calm hca) (by rw [cS]; exact hco) T p3.gd hJ3 ho htg Wt.nil pg pt pe stat
    refine call_function_tree F.kind_any F.plain_any F.entry_any (F.args_any1 _) ?_
    unfold Builtin.«any»
    refine wpAny_bind (m := oneArg "any" _) (wpAny_pure ?_)
    refine wpAny_bind (wpAny_pyIter_gen (isgo.at (by rw [h5]; exact hget)) ?_)
    refine wpAny_pure ⟨plainId_quiet F.plain_any_loop _, any_loop (X' := gX X s3 H3 cenv fp h'.objs.size go X.A.in1.in1 (gCd elt tg iter ifs scope gpos it cenv)) (Y := Y) (A := X.A) (own := own.map (·.2)) (r1 := rb) (σ := σ) (H4 := H3) (fp := fp) (tn := tn) (src := src)
      (turn := turnM G f ie it' ic (own.map (·.2))) (g := s3.gens.size) (go := go) (a := h'.objs.size) (I3.ok.hd (C.calm hca)) (by have := hroom.dp; show X.A.depth < _; omega) isgo List.mem_cons_self (fun s' r' H' b kf I' P' l' => ?_) gN 0 rfl gN0 0 rb s5 (Nat.le_refl _) rfl rfl wq
      ⟨isgo.at (by rw [h5]; exact hget), by rw [h5]; exact I3.nolimit.keeps keep5, b5, _, by rw [g5]; exact Array.getElem?_push_size .., fun s'' e1 e2 e3 hok => ?_⟩⟩
    · have I7 : Inv X pins σ H' s' := I3.call' (ch := fp) I'.os I'.base I'.hok I'.bare fun b hb => ⟨(f3 b hb).1.2.2.2.1, (f3 b hb).1.2.1, (f3 b hb).1.2.2.2.2.1, (f3 b hb).1.2.2.2.2.2⟩
      exact ⟨.bl b, H', I7, rfl, kf H' (pb.trans (p3.trans (post_back p3.gd P' l')))⟩
    · have S1 := S0.still Wt.nil T.keep (Chg.refl0 e1) e2 e3
      have loop := seg gN 0 rfl gN0 0 rb H3 s'' s'' (Nat.le_refl _) rfl rfl hok S1
      refine ⟨rfl, ?_⟩
      show Seg _ X.A.in1.in1 _ _ _ s'' _ ((compStart (.GeneratorExp elt [⟨tg, iter, ifs, 0⟩] scope gpos) 0 (.ref it) .none cenv).onRaise (leaving cenv)) [] s''
      unfold compStart
      rw [Sem.onRaise_eq_wrap]
      show Seg _ X.A.in1.in1 _ _ _ s'' _ ((ask >>= _).wrap _ _ _ _) [] s''
      refine seg_bind_wrap (wpAny_askSetting ?_)
      split
      · exact seg_again rfl loop
      · first
          | exact seg_bind_wrap (wpAny_rule (seg_bind_wrap (wpAny_standAt (seg_bind_wrap (T.self _ 0 s'' _ _ S1.tn (seg_again rfl loop))))))
          | (refine seg_bind_wrap (wpAny_rule ?_); show Seg _ X.A.in1.in1 _ _ _ s'' _ ((standAt iter.pos >>= _).wrap _ _ _ _) [] s''; exact seg_bind_wrap (wpAny_standAt (seg_bind_wrap (T.self _ 0 s'' _ _ S1.tn (seg_again rfl loop)))))
  cases hf : codeAmong gpos ps.toList with
  | none =>
    refine wpAny_genexprCodeX hcode (cd.code hPs ht) (cd.tab hPs) hf fun c' h' tk hx hge hlt hco' _ htab' _ => ?_
    obtain ⟨o1, vs, f1, tf, fl, tg, inF, tx, tt, op, _, _, _, _, _, _, _, _, _, htr, _⟩ := hco'
    exact cont _ h' tk _ hx htab'.2 ⟨_, rfl⟩ htr
  | some cv =>
    refine wpAny_genexprCode_hit hcode (cd.code hPs ht) hf ?_
    exact cont cv s2.heap s2.toks ps (Heap.ExtBut.refl _ _) hPs ⟨#[], by simp⟩ ht
theorem snd_all {CX : CXT} {X : Cx} {c : Cc} {Y : Yc} {G : Nat → Option D} {f : CE} {n : Nat} {elt tg iter : Expr} {ifs : List Expr} {scope : Scope} {p pos gpos : Pos} {own : List (Str × Nat)} {ie iit : E} {it' : Tg} {ic : Option E}
    (C : Ck CX X c Y G f n) (hca : c.ca = true) (hgd : c.gd = true) (hg : isGl c "all" = true) (hi : PI X tg iter (tI X.K Y (bd (ev G f iit) (srcOf (own.map (·.2)))))) (ok : BlkOk X.N X.env.scope scope own) (hcell : ∀ y ∈ scope.names, y.2 ≠ .cell) (hco : scope.isCoroutine = false)
    (hdot : scope.names.lookup (".0" : Str) = some NameKind.local) (hs : ∀ x, genFold iter X.env x = pure x) (htg : ∀ i ∈ tgSl it', i ∈ own.map (·.2))
    (hblk : ∀ (s4 : Shared) (H4 : Hp) (C : Addr) (code : Value) (fp : List Addr) (pn : List (Addr × Obj)) (A' : Around), Room n A' → 
      PG (Xg X s4 H4 (genEnv scope (cloFrom X.env.cells scope.names []) C code builtinsNs X.env) fp pn A') tg (tG X.K Y.T it') ∧
      PTs (Xg X s4 H4 (genEnv scope (cloFrom X.env.cells scope.names []) C code builtinsNs X.env) fp pn A') ifs (tT X.K Y.no (tstO G f ic)) ∧
      PE (Xg X s4 H4 (genEnv scope (cloFrom X.env.cells scope.names []) C code builtinsNs X.env) fp pn A') elt (tFz (tE X.K Y.no (ev G f ie)))) :
    PE X (.Call (.Name "all" p) [.GeneratorExp elt [⟨tg, iter, ifs, 0⟩] scope gpos] [] pos) (tE X.K Y (ev G f (.gen .all ie it' iit ic (own.map (·.2))))) := by
  refine ⟨fun pins s σ H Q I w => ?_⟩
  obtain ⟨r, g, w⟩ := w
  simp only [ev] at w
  have w : Wd (bd (ev G f iit) (fun x => bd (srcOf (own.map (·.2)) x) fun s => inOwn (own.map (·.2)) (genRun .all (turnM G f ie it' ic (own.map (·.2))) s)) r) (exK X.K Y r σ H) fun o r' => ∀ v H', Post X.K Y.T r σ H r' H' → OpV X.K σ H H' o v → Q v H' := w
  have wi : tI X.K Y (bd (ev G f iit) (srcOf (own.map (·.2)))) σ H fun J Hb => ∃ src rb, Post X.K Y.T r σ H rb Hb ∧ SrcV X.K σ H rb Hb J src ∧ (∀ i, src = .byref i → i ∉ own.map (·.2)) ∧
      Wd (quickS false (turnM G f ie it' ic (own.map (·.2))) src gN0 0 rb) (fun _ _ => False) fun b r' => ∀ H', Post X.K Y.T r σ H (back (own.map (·.2)) rb r') H' → Q (.bl b) H' := by
    refine ⟨r, g, Wd.bd' (w.bd.mono (fun _ _ z => z) fun o ra ea q => q.bd.mono (fun _ _ z => z) fun src rb eb q J Hb pb hJ => ?_)⟩
    have q := inOwn_wd q
    have q : Wd (bd (quickRun false (turnM G f ie it' ic (own.map (·.2))) src) (fun b => ret (.val (.bool b))) rb) (fun _ _ => False) fun o r' => ∀ v H', Post X.K Y.T r σ H (back (own.map (·.2)) rb r') H' → OpV X.K σ H H' o v → Q v H' := q
    have q2 : Wd (quickRun false (turnM G f ie it' ic (own.map (·.2))) src rb) (fun _ _ => False) fun b r' => ∀ H', Post X.K Y.T r σ H (back (own.map (·.2)) rb r') H' → Q (.bl b) H' := q.bd.mono (fun _ _ z => z) fun b r' _ q H' pp => q (.bl b) H' pp (by show Fz X.K H' (.bool b) _; simp [Fz])
    refine ⟨src, rb, pb, hJ, fun i e => by subst e; exact srcOf_own eb, ?_⟩
    cases src with
    | fixed xs =>
      obtain ⟨_, _, _, hlen, _⟩ := hJ
      rcases quick_S (c := false) (turn := turnM G f ie it' ic (own.map (·.2))) (xs := xs) gN0 0 rb (by unfold gN0; omega) with e | ⟨e, _⟩
      · rw [← e]; exact q2
      · unfold gN0 at e; omega
    | byref i0 => exact quickRef_S sizeLine gN0 0 rb (by unfold gN0; omega) q2
  have hfree : ∀ y ∈ scope.names, y.2 = .free → ∃ c, X.env.cells.lookup y.1 = some c := fun y hy e => by
    rcases ok.free y hy e with k | k
    · exact I.ok.has _ (.inl k)
    · exact I.ok.has _ (.inr k)
  refine wpAny_Call_Name_kw (ld_blt I (gl_of C hg) (C.bi _ (by decide +kernel)) boot_all ?_ (by decide +kernel) (by decide +kernel))
  refine PyProof.Rows.callWith_builtin1 ?_ rfl (by rfl)
  show wpAny _ _ (spliced ((false, eval (.GeneratorExp elt [⟨tg, iter, ifs, 0⟩] scope gpos) X.env) :: backTo pos (starEach [] X.env))) _ _ s
  have hroom := C.room hca
  rw [if_pos hgd] at hroom
  refine Calls.spliced_cons (wpAny_GeneratorExp_make hco (closure_ok hfree) hcell hdot ok.kind (by have := hroom.dp; omega) ?_ hs)
  refine thn (hi.run pins s σ H _ I wi) fun xv s1 h1 => thn h1 fun itv s2 ⟨it, fp, tn, J, H2, e, I2, T, st2, f2, src, rb, pb, hJ, ho, wq⟩ => ⟨I2.nolimit, ?_⟩
  subst e
  obtain ⟨cA, P, hPT, TB, hcode⟩ := C.code hgd
  obtain ⟨ps, hP, ht⟩ := pb.gd.tb P hPT
  have hPs : s2.heap.get? P = some { cls := .none, data := .fields ps } := I2.hok P _ hP
  have cd : PySem.W.CodeHd s2.heap cA P := TB.code.keeps fun b u e => I2.bk b u e
  have cont : ∀ (code : Value) (h3 : Heap) (tk : Nat) (ps' : Array Value), Heap.ExtBut P s2.heap h3 → h3.get? P = some { cls := .none, data := .fields ps' } → (∃ more, ps' = ps ++ more) → TriplesOk ps'.toList →
      wpAny (model X.prog X.w) X.A (builtinsFor X.env.globals X.env.builtins) (fun bi s₄ =>
        ∀ h', h'.Ns s₄.heap.objs.size (fun y => if y = (".0" : Str) then some (.ref it) else none) → Heap.SameBut s₄.heap.objs.size (s₄.heap.push { cls := .type "frame", data := .dict #[] }) h' →
          wpAny (model X.prog X.w) X.A (spliced (backTo pos (starEach [] X.env))) (fun us s' => wpAny (model X.prog X.w) X.A (call (.builtin "all") (.ref h'.objs.size :: us)) (EP X pins σ Q) X.xe s') X.xe
          { s₄ with
            gens := s₄.gens.push (.fresh (.compStart (.GeneratorExp elt [⟨tg, iter, ifs, 0⟩] scope gpos) 0 (.ref it) .none (genEnv scope (cloFrom X.env.cells scope.names []) s₄.heap.objs.size code bi X.env))),
            toks := s₄.toks + 1 + 1 + 1,
            heap := h'.push { cls := .type "generator", data := .fields #[.int s₄.gens.size 0, .str "<genexpr>" (s₄.toks + 1), .str (X.env.qual ++ "<genexpr>") (s₄.toks + 1 + 1)] } }) X.xe { s2 with heap := h3, toks := tk } := by
    intro code h3 tk ps' hx hP3 hmore ht3
    obtain ⟨bm, ob, e1, e2, e3, e4, e5, e6, e7, e8⟩ := TB.bm
    refine wpAny_builtinsFor (m := X.mg) (by rw [I2.ok.glob]; exact (I2.mod.glob.keeps I2.bk).extBut hx TB.gP) e1 e2 (hx _ _ e4 (I2.bk _ _ e5)) e6 e7 e8 ?_
    intro h' hn' hs'
    obtain ⟨more, em⟩ := hmore
    have I3 : Inv X pins σ (upd H2 P (.tbl ps')) { s2 with heap := h3, toks := tk } := by
      rw [em]
      exact GxR.inv_tab (more := more) (g' := s2.gens) (d' := s2.drawn) I2 hP (fun b o hb e => hx b o hb e) (by rw [← em]; exact hP3) I2.bare
    have p3 := post_tab (ps' := ps') pb.gd hP ht3
    have hJ3 := srcv_up (p3.kp pb.gd) (fun a xs e => by rw [upd_ne (fun z => by subst z; rw [hP] at e; cases e)]; exact e) hJ
    have h2P : ∀ b, H2 b = none → b ≠ P := fun b e z => by rw [z, hP] at e; cases e
    have f3 : ∀ b ∈ fp, FpOk X pins (upd H2 P (.tbl ps')) b ∧ b < h3.objs.size := fun b hb => by
      obtain ⟨o, eo, _⟩ := T.obj _ _ st2 b hb
      exact ⟨⟨by rw [upd_ne (h2P b (f2 b hb).1)]; exact (f2 b hb).1, (f2 b hb).2⟩, Heap.lt_size (hx b o (h2P b (f2 b hb).1) eo)⟩
    have st3 : tn 0 h3 := T.keep _ _ _ st2 fun b hb o e => hx b o (h2P b (f2 b hb).1) e
    generalize hs3 : ({ s2 with heap := h3, toks := tk } : Shared) = s3 at I3 hn' hs' ⊢
    have hh3 : s3.heap = h3 := by rw [← hs3]
    generalize hH3 : upd H2 P (.tbl ps') = H3 at I3 p3 hJ3 f3
    have sz' : h'.objs.size = s3.heap.objs.size + 1 := by rw [hs'.1, Heap.size_push]
    have keep' : ∀ b o, s3.heap.get? b = some o → h'.get? b = some o := fun b o e => hs'.extBut b o (Nat.ne_of_lt (Heap.lt_size e)) (Heap.get?_push_of_some _ e)
    generalize hgo : ({ cls := .type "generator", data := .fields #[.int s3.gens.size 0, .str "<genexpr>" (s3.toks + 1), .str (X.env.qual ++ "<genexpr>") (s3.toks + 1 + 1)] } : Obj) = go
    have isgo : IsGo go s3.gens.size := by rw [← hgo]; exact ⟨_, _, rfl, rfl, rfl⟩
    have hget : (h'.push go).get? h'.objs.size = some go := by rw [← hgo]; exact Heap.get?_push_size _ rfl
    have keep5 : ∀ b o, s3.heap.get? b = some o → (h'.push go).get? b = some o := fun b o e => Heap.get?_push_of_some _ (keep' b o e)
    generalize hcenv : genEnv scope (cloFrom X.env.cells scope.names []) s3.heap.objs.size code builtinsNs X.env = cenv
    have cL : cenv.locals = s3.heap.objs.size := by rw [← hcenv]; rfl
    have cS : cenv.scope = scope := by rw [← hcenv]; rfl
    generalize hs5 : ({ s3 with gens := s3.gens.push (.fresh (.compStart (.GeneratorExp elt [⟨tg, iter, ifs, 0⟩] scope gpos) 0 (.ref it) .none cenv)), toks := s3.toks + 1 + 1 + 1, heap := h'.push go } : Shared) = s5
    have h5 : s5.heap = h'.push go := by rw [← hs5]
    have g5 : s5.gens = s3.gens.push (.fresh (.compStart (.GeneratorExp elt [⟨tg, iter, ifs, 0⟩] scope gpos) 0 (.ref it) .none cenv)) := by rw [← hs5]
    have o5 : s5.os = s3.os := by rw [← hs5]
    have b5 : AllBare s5.gens := by rw [g5]; exact I3.bare.push rfl
    refine Calls.spliced_nil ?_
    -- the block
    have hA : X.A.in1.in1.frames = some X.stack := I3.ok.frames
    have hfrm : (X.A.in1.in1.over (gCd elt tg iter ifs scope gpos it cenv) []).frames = some (cenv :: X.stack) := over_loopG hA
    have hhd : (X.A.in1.in1.over (gCd elt tg iter ifs scope gpos it cenv) []).handled = none := I3.ok.hd (C.calm hca)
    have hrm : Room n (X.A.in1.in1.over (gCd elt tg iter ifs scope gpos it cenv) []) := by
      refine ⟨hhd, ?_, ?_⟩
      · have := hroom.dp
        show X.A.depth + 1 + 3 * n + 5 < _
        omega
      · have := hroom.un
        show X.A.units + 1 + 1 + 3 + 16 * n + 200 < _
        omega
    have IB0 := gen_start (code := code) (A' := X.A.in1.in1.over (gCd elt tg iter ifs scope gpos it cenv) []) (s5 := s5) (m5 := fun y => if y = (".0" : Str) then some (.ref it) else none) I3 ok C.nd hcell (fun b hb => by rw [hh3]; exact f3 b hb) hhd (by rw [hcenv]; exact hfrm) (by rw [h5]; exact keep5)
      (by rw [h5]; exact hn'.push _) o5 b5
    rw [hcenv] at IB0
    have aN : H3 h'.objs.size = none := I3.hok.fresh (by rw [sz']; exact Nat.le_succ _)
    have aL : h'.objs.size ≠ cenv.locals := by rw [cL, sz']; exact Nat.succ_ne_self _
    have aF : h'.objs.size ∉ frs X.stack := fun hm => by
      obtain ⟨_, o, eo, _⟩ := I3.stack.mem hm
      have h9 : h'.objs.size < s3.heap.objs.size := Heap.lt_size eo
      rw [sz'] at h9
      exact absurd h9 (Nat.not_lt.mpr (Nat.le_succ _))
    have IB := gen_pin IB0 ⟨by rw [h5]; exact hget, aN, aL, aF, fun v z => by rw [← hgo] at z; cases z⟩
    have S0 : GSt (gX X s3 H3 cenv fp h'.objs.size go X.A.in1.in1 (gCd elt tg iter ifs scope gpos it cenv)) Y.T (own.map (·.2)) rb σ H3 fp [] tn 0 rb H3 s5 s5 :=
      ⟨IB, fun b hb => by simp at hb, T.keep _ _ _ st3 fun b hb o e => by rw [h5]; exact keep5 b o (by rw [hh3]; exact e), fun b hb => (f3 b hb).1.1, .refl (gd_wipe p3.gd rfl), rfl⟩
    have fpa : ∀ b ∈ fp, h'.objs.size ≠ b := fun b hb z => by
      have h9 : b < s3.heap.objs.size := by rw [hh3]; exact (f3 b hb).2
      rw [← z, sz'] at h9
      exact absurd h9 (Nat.not_lt.mpr (Nat.le_succ _))
    have stat : ∀ {σ' : St} {H' : Hp} {s' : Shared}, Inv (gX X s3 H3 cenv fp h'.objs.size go X.A.in1.in1 (gCd elt tg iter ifs scope gpos it cenv)) [] σ' H' s' → (∀ b ∈ fp, H' b = none) → ∀ b ∈ fp, FpOk (gX X s3 H3 cenv fp h'.objs.size go X.A.in1.in1 (gCd elt tg iter ifs scope gpos it cenv)) [] H' b := fun {σ' H' s'} I' hn b hb =>
      ⟨hn b hb, (I'.ok.exf b hb).1, I'.ok.exfs b hb, .inl hb, fun x c e => (I'.ok.exf b hb).2 x c e, fun p hp => by
        have e : p = (h'.objs.size, go) := by simpa using hp
        subst e
        exact fpa b hb⟩
    obtain ⟨pg, pt, pe⟩ := hblk s3 H3 s3.heap.objs.size code fp [(h'.objs.size, go)] (X.A.in1.in1.over (gCd elt tg iter ifs scope gpos it cenv) []) hrm
    rw [hcenv] at pg pt pe
    have seg := gen_seg (X := X) (s4 := s3) (H4 := H3) (cenv := cenv) (fp := fp) (a := h'.objs.size) (it := it) (go := go) (Aw := X.A.in1.in1) (own := own.map (·.2)) (r1 := rb) (σ := σ) (tn := tn) (J := J) (src := src) (pos := gpos) (iter := iter) (C.calm hca) (by rw [cS]; exact hco) T p3.gd hJ3 ho htg Wt.nil pg pt pe stat
    refine call_function_tree F.kind_all F.plain_all F.entry_all (F.args_all1 _) ?_
    unfold Builtin.«all»
    refine wpAny_bind (m := oneArg "all" _) (wpAny_pure ?_)
    refine wpAny_bind (wpAny_pyIter_gen (isgo.at (by rw [h5]; exact hget)) ?_)
    refine wpAny_pure ⟨plainId_quiet F.plain_all_loop _, all_loop (X' := gX X s3 H3 cenv fp h'.objs.size go X.A.in1.in1 (gCd elt tg iter ifs scope gpos it cenv)) (Y := Y) (A := X.A) (own := own.map (·.2)) (r1 := rb) (σ := σ) (H4 := H3) (fp := fp) (tn := tn) (src := src)
      (turn := turnM G f ie it' ic (own.map (·.2))) (g := s3.gens.size) (go := go) (a := h'.objs.size) (I3.ok.hd (C.calm hca)) (by have := hroom.dp; show X.A.depth < _; omega) isgo List.mem_cons_self (fun s' r' H' b kf I' P' l' => ?_) gN 0 rfl gN0 0 rb s5 (Nat.le_refl _) rfl rfl wq
      ⟨isgo.at (by rw [h5]; exact hget), by rw [h5]; exact I3.nolimit.keeps keep5, b5, _, by rw [g5]; exact Array.getElem?_push_size .., fun s'' e1 e2 e3 hok => ?_⟩⟩
    · have I7 : Inv X pins σ H' s' := I3.call' (ch := fp) I'.os I'.base I'.hok I'.bare fun b hb => ⟨(f3 b hb).1.2.2.2.1, (f3 b hb).1.2.1, (f3 b hb).1.2.2.2.2.1, (f3 b hb).1.2.2.2.2.2⟩
      exact ⟨.bl b, H', I7, rfl, kf H' (pb.trans (p3.trans (post_back p3.gd P' l')))⟩
    · have S1 := S0.still Wt.nil T.keep (Chg.refl0 e1) e2 e3
      have loop := seg gN 0 rfl gN0 0 rb H3 s'' s'' (Nat.le_refl _) rfl rfl hok S1
      refine ⟨rfl, ?_⟩
      show Seg _ X.A.in1.in1 _ _ _ s'' _ ((compStart (.GeneratorExp elt [⟨tg, iter, ifs, 0⟩] scope gpos) 0 (.ref it) .none cenv).onRaise (leaving cenv)) [] s''
      unfold compStart
      rw [Sem.onRaise_eq_wrap]
      show Seg _ X.A.in1.in1 _ _ _ s'' _ ((ask >>= _).wrap _ _ _ _) [] s''
      refine seg_bind_wrap (wpAny_askSetting ?_)
      split
      · exact seg_again rfl loop
      · first
          | exact seg_bind_wrap (wpAny_rule (seg_bind_wrap (wpAny_standAt (seg_bind_wrap (T.self _ 0 s'' _ _ S1.tn (seg_again rfl loop))))))
          | (refine seg_bind_wrap (wpAny_rule ?_); show Seg _ X.A.in1.in1 _ _ _ s'' _ ((standAt iter.pos >>= _).wrap _ _ _ _) [] s''; exact seg_bind_wrap (wpAny_standAt (seg_bind_wrap (T.self _ 0 s'' _ _ S1.tn (seg_again rfl loop)))))
  cases hf : codeAmong gpos ps.toList with
  | none =>
    refine wpAny_genexprCodeX hcode (cd.code hPs ht) (cd.tab hPs) hf fun c' h' tk hx hge hlt hco' _ htab' _ => ?_
    obtain ⟨o1, vs, f1, tf, fl, tg, inF, tx, tt, op, _, _, _, _, _, _, _, _, _, htr, _⟩ := hco'
    exact cont _ h' tk _ hx htab'.2 ⟨_, rfl⟩ htr
  | some cv =>
    refine wpAny_genexprCode_hit hcode (cd.code hPs ht) hf ?_
    exact cont cv s2.heap s2.toks ps (Heap.ExtBut.refl _ _) hPs ⟨#[], by simp⟩ ht
end Fw

/-! Fw: the sum of a generator expression -/
namespace Fw
open PySem PySem.Spec PyProof.Rows L2 GenW

/-! ### the meaning: item by item -/
def sAfter (go : Nat → Nat → Int → M Int) (m i : Nat) (a : Int) : Option D → M Int
  | none => go m i a
  | some (.int b) => go m i (a + b)
  | some _ => opt none
def sumS (turn : D → M (Option D)) (s : Src) : Nat → Nat → Int → M Int
  | 0, _, _ => fun _ => .no
  | m + 1, i, a => fun r => match itemAt s r i with
    | none => .no
    | some none => .ok a r
    | some (some d) => bd (turn d) (fun o => match o with
      | none => sumS turn s m (i + 1) a
      | some (.int b) => sumS turn s m (i + 1) (a + b)
      | some _ => opt none) r
theorem sumS_succ {turn : D → M (Option D)} {s : Src} {m i : Nat} {a : Int} {r : Env} : sumS turn s (m + 1) i a r = match itemAt s r i with
    | none => .no
    | some none => .ok a r
    | some (some d) => bd (turn d) (sAfter (sumS turn s) m (i + 1) a) r := by
  show (match itemAt s r i with
    | none => Res.no
    | some none => .ok a r
    | some (some d) => bd (turn d) (fun o => match o with
      | none => sumS turn s m (i + 1) a
      | some (.int b) => sumS turn s m (i + 1) (a + b)
      | some _ => opt none) r) = _
  congr 1
def sBack (turn : D → M (Option D)) (s : Src) (a : Int) : Option (D × Nat × Nat) → M Int
  | none => ret a
  | some (.int b, m', i') => sumS turn s m' i' (a + b)
  | some _ => opt none
theorem sumS_step {turn : D → M (Option D)} {s : Src} : ∀ (m i : Nat) (a : Int) (r : Env), sumS turn s m i a r = (nextS turn s m i r).bd (sBack turn s a)
  | 0, _, _, _ => rfl
  | m + 1, i, a, r => by
    rw [sumS_succ, nextS_succ]
    cases itemAt s r i with
    | none => rfl
    | some z =>
      cases z with
      | none => rfl
      | some d =>
        simp only [Fw.bd]
        cases turn d r with
        | ex c r => rfl
        | no => rfl
        | ok o r1 =>
          cases o with
          | none => exact sumS_step m (i + 1) a r1
          | some e => cases e <;> rfl
theorem ints_snoc_none : ∀ {xs : List D} {d : D}, intsOf xs = none → intsOf (xs ++ [d]) = none
  | [], d, h => by cases h
  | x :: xs, d, h => by
    cases x with
    | int i =>
      rw [List.cons_append]
      have h : (intsOf xs).map (i :: ·) = none := h
      show (intsOf (xs ++ [d])).map (i :: ·) = none
      rw [ints_snoc_none (by simpa using h)]
      rfl
    | _ => rfl
theorem ints_snoc : ∀ {xs : List D} {ns : List Int} {b : Int}, intsOf xs = some ns → intsOf (xs ++ [.int b]) = some (ns ++ [b])
  | [], ns, b, h => by cases h; rfl
  | x :: xs, ns, b, h => by
    cases x with
    | int i =>
      have h : (intsOf xs).map (i :: ·) = some ns := h
      obtain ⟨ms, e, rfl⟩ := Option.map_eq_some_iff.mp h
      show (intsOf (xs ++ [.int b])).map (i :: ·) = _
      rw [ints_snoc e]
      rfl
    | _ => cases h
theorem ints_snoc_bad : ∀ {xs : List D} {d : D}, (∀ b, d ≠ .int b) → intsOf (xs ++ [d]) = none
  | [], d, h => by
    cases d with
    | int i => exact absurd rfl (h i)
    | _ => rfl
  | x :: xs, d, h => by
    cases x with
    | int i =>
      show (intsOf (xs ++ [d])).map (i :: ·) = none
      rw [ints_snoc_bad h]
      rfl
    | _ => rfl
/-- what is wanted of a sum's items -/
abbrev sFin (xs : List D) : M Rv := opt (genFin .sum xs)
theorem fin_bad {xs : List D} {r : Env} {k : Rv → Env → Prop} (h : intsOf xs = none) : ¬ Wd (sFin xs r) (fun _ _ => False) k := by
  have e : sFin xs r = .no := by
    show opt ((some xs).bind fun xs => (intsOf xs).map fun ns => Rv.val (.int ns.sum)) r = _
    rw [Option.bind_some, h]
    rfl
  rw [e]
  exact fun z => z
theorem fix_bad {turn : D → M (Option D)} {k : Rv → Env → Prop} : ∀ {xs acc : List D} {r : Env}, intsOf acc = none → ¬ Wd (bd (lcFix turn xs acc) sFin r) (fun _ _ => False) k
  | [], acc, r, h => fin_bad h
  | x :: xs, acc, r, h => fun w => by
    have w : Wd (bd (bd (turn x) fun o => lcFix turn xs (match o with | some d => acc ++ [d] | none => acc)) sFin r) (fun _ _ => False) k := w
    unfold bd at w
    cases e : turn x r with
    | ex c r => rw [e] at w; exact w
    | no => rw [e] at w; exact w
    | ok o r1 =>
      rw [e] at w
      cases o with
      | none => exact fix_bad (xs := xs) h w
      | some d => exact fix_bad (xs := xs) (ints_snoc_none h) w
theorem ref_bad {turn : D → M (Option D)} {i0 : Nat} {k : Rv → Env → Prop} : ∀ {m i : Nat} {acc : List D} {r : Env}, intsOf acc = none → ¬ Wd (bd (lcRef turn i0 m i acc) sFin r) (fun _ _ => False) k
  | 0, i, acc, r, h => fun w => w
  | m + 1, i, acc, r, h => fun w => by
    unfold bd lcRef at w
    cases hd : dataAt r i0 with
    | none => simp only [hd] at w; exact w
    | some d =>
      cases d with
      | list ys =>
        simp only [hd] at w
        cases hy : ys[i]? with
        | none => simp only [hy] at w; exact fin_bad h w
        | some x =>
          simp only [hy] at w
          unfold bd at w
          cases e : turn x r with
          | ex c r => rw [e] at w; exact w
          | no => rw [e] at w; exact w
          | ok o r1 =>
            rw [e] at w
            cases o with
            | none => exact ref_bad (m := m) h w
            | some d => exact ref_bad (m := m) (ints_snoc_none h) w
      | _ => simp only [hd] at w; exact w
theorem fin_ok {xs : List D} {ns : List Int} {r : Env} (h : intsOf xs = some ns) : sFin xs r = .ok (.val (.int ns.sum)) r := by
  show opt ((some xs).bind fun xs => (intsOf xs).map fun ns => Rv.val (.int ns.sum)) r = _
  rw [Option.bind_some, h]
  rfl
theorem sum_snoc (ns : List Int) (b : Int) : (ns ++ [b]).sum = ns.sum + b := by
  rw [List.sum_append, List.sum_cons, List.sum_nil, Int.add_zero]
theorem fix_sumS {turn : D → M (Option D)} {xs : List D} {k : Rv → Env → Prop} : ∀ (m i : Nat) (acc : List D) (ns : List Int) (r : Env), intsOf acc = some ns → xs.length < m + i → Wd (bd (lcFix turn (xs.drop i) acc) sFin r) (fun _ _ => False) k → i ≤ xs.length → Wd (sumS turn (.fixed xs) m i ns.sum r) (fun _ _ => False) fun b r' => k (.val (.int b)) r'
  | 0, i, acc, ns, r, ha, h, w, hi => by omega
  | m + 1, i, acc, ns, r, ha, h, w, hi => by
    rw [sumS_succ]
    show Wd (match (some xs[i]? : Option (Option D)) with
      | none => _
      | some none => _
      | some (some d) => _) _ _
    cases e : xs[i]? with
    | none =>
      have := List.getElem?_eq_none_iff.mp e
      rw [List.drop_eq_nil_of_le this] at w
      have w : Wd (sFin acc r) (fun _ _ => False) k := w
      rw [fin_ok ha] at w
      exact w
    | some d =>
      obtain ⟨hl, rfl⟩ := List.getElem?_eq_some_iff.mp e
      rw [List.drop_eq_getElem_cons hl] at w
      have w : Wd (bd (bd (turn xs[i]) fun o => lcFix turn (xs.drop (i + 1)) (match o with | some d => acc ++ [d] | none => acc)) sFin r) (fun _ _ => False) k := w
      show Wd (bd (turn xs[i]) (sAfter (sumS turn (.fixed xs)) m (i + 1) ns.sum) r) _ _
      unfold bd at w ⊢
      cases e2 : turn xs[i] r with
      | ex c r => rw [e2] at w; exact w
      | no => rw [e2] at w; exact w
      | ok o r1 =>
        rw [e2] at w
        cases o with
        | none => exact fix_sumS m (i + 1) acc ns r1 ha (by omega) w (by omega)
        | some z =>
          by_cases hz : ∃ b, z = .int b
          · obtain ⟨b, rfl⟩ := hz
            have w : Wd (bd (lcFix turn (xs.drop (i + 1)) (acc ++ [.int b])) sFin r1) (fun _ _ => False) k := w
            have q := fix_sumS m (i + 1) (acc ++ [.int b]) (ns ++ [b]) r1 (ints_snoc ha) (by omega) w (by omega)
            rw [sum_snoc] at q
            exact q
          · exact absurd w (fix_bad (xs := xs.drop (i + 1)) (ints_snoc_bad fun b e => hz ⟨b, e⟩))
theorem ref_sumS {turn : D → M (Option D)} {i0 : Nat} {k : Rv → Env → Prop} : ∀ (m m' i : Nat) (acc : List D) (ns : List Int) (r : Env), intsOf acc = some ns → m ≤ m' → Wd (bd (lcRef turn i0 m i acc) sFin r) (fun _ _ => False) k → Wd (sumS turn (.byref i0) m' i ns.sum r) (fun _ _ => False) fun b r' => k (.val (.int b)) r'
  | 0, _, _, _, _, _, _, _, w => w.elim
  | m + 1, 0, _, _, _, _, _, h, _ => by omega
  | m + 1, m' + 1, i, acc, ns, r, ha, h, w => by
    unfold bd lcRef at w
    rw [sumS_succ]
    unfold itemAt
    cases hd : dataAt r i0 with
    | none => simp only [hd] at w; exact w.elim
    | some d =>
      cases d with
      | list ys =>
        simp only [hd] at w ⊢
        cases hy : ys[i]? with
        | none =>
          simp only [hy] at w ⊢
          have w : Wd (sFin acc r) (fun _ _ => False) k := w
          rw [fin_ok ha] at w
          exact w
        | some x =>
          simp only [hy] at w ⊢
          unfold bd at w ⊢
          cases e2 : turn x r with
          | ex c r => rw [e2] at w; exact w
          | no => rw [e2] at w; exact w
          | ok o r1 =>
            rw [e2] at w
            cases o with
            | none => exact ref_sumS m m' (i + 1) acc ns r1 ha (by omega) w
            | some z =>
              by_cases hz : ∃ b, z = .int b
              · obtain ⟨b, rfl⟩ := hz
                have w : Wd (bd (lcRef turn i0 m (i + 1) (acc ++ [.int b])) sFin r1) (fun _ _ => False) k := w
                have q := ref_sumS m m' (i + 1) (acc ++ [.int b]) (ns ++ [b]) r1 (ints_snoc ha) (by omega) w
                rw [sum_snoc] at q
                exact q
              · exact absurd w (ref_bad (m := m) (ints_snoc_bad fun b e => hz ⟨b, e⟩))
      | _ => simp only [hd] at w; exact w.elim

section
variable {X : Cx} {X' : Cx} {Y : Yc} {s4 : Shared} {H4 : Hp} {fp : List Addr} {a t : Addr} {go : Obj} {Aw : Around} {own : List Nat} {r1 : Env} {σ : St} {tn : Nat → Heap → Prop} {src : Src} {turn : D → M (Option D)} {g : Nat}
theorem sum_loop {A : Around} {kf : Int → Env → Prop} {Rr : Result → Shared → Prop} (hh : A.handled = none) (hd : A.depth < recursionLimit) (hgo : IsGo go g) (hpn : (a, go) ∈ X'.pn) (W : Wt X' fp [t]) (kt : ∀ i h h', tn i h → (∀ b ∈ fp, ∀ o, h.get? b = some o → h'.get? b = some o) → tn i h')
    (fin : ∀ s' r' H b tk, kf b r' → Inv X' [] (L2.wipe σ own) H s' → Post X'.K Y.T (wipe own r1) (L2.wipe σ own) H4 (wipe own r') H → r'.length = r1.length → Rr (.ok (.ret (.int b tk))) s') :
    ∀ (q j : Nat), q + j = gN → ∀ (m i : Nat) (r : Env) (s : Shared) (av : Int) (tA : Tok) (c : Nat) (stage : Int), stage = 0 ∨ stage = 2 → j ≤ i → m + i = gN0 → nextS turn src m i r = nxs turn src gN0 r1 j → Wd (sumS turn src m i av r) (fun _ _ => False) kf →
      s.heap.get? t = some { cls := .type "list", dict := none, data := .seq #[.int av tA] c, slots := #[] } →
      Awake X' (model X'.prog X'.w) A.in1.in1 (gEnd X' Y.T own r1 σ H4 turn src) (gYld X' Y.T own r1 σ H4 fp [t] tn turn src) turn src r1 a g q j s → codeAny (model X'.prog X'.w) A (.builtin "sum.loop" ⟨[.ref a, .ref t, rawInt stage, rawInt 0], []⟩) Rr s := by
  intro q
  induction q with
  | zero =>
    intro j hq m i r s av tA c stage hst hji hmi
    unfold gN at hq
    unfold gN0 at hmi
    omega
  | succ q ih =>
    intro j hq m i r s av tA c stage hst hji hmi hn w hS AW
    obtain ⟨hg, hl, hbr, gs, hgs, goes⟩ := AW
    rw [sumS_step, hn] at w
    cases hx : nxs turn src gN0 r1 j with
    | ex c r => rw [hx] at w; exact w.elim
    | no => rw [hx] at w; exact w.elim
    | ok o r' =>
      rw [hx] at w
      have w : Wd (sBack turn src av o r') (fun _ _ => False) kf := w
      have hgl : g < s.gens.size := (Array.getElem?_eq_some_iff.mp hgs).1
      refine codeAny_builtin F.entry_sum_loop ?_
      rw [Around.under_plainId F.plain_sum_loop _]
      show wpAny _ A.in1 (seqItems? (.ref t) >>= _) _ _ s
      refine wpAny_bind (wpAny_seqItems hS rfl ?_)
      show wpAny _ A.in1 (tryCatch (pyNext (.ref a)) _ >>= _) _ _ s
      refine wpAny_bind (wpAny_tryCatch (wpAny_gsz (n := g + 1) hgl (wpAny_pyNext_genexpQ (A := A.in1) (P := gEndP X' Y.T own r1 σ H4 turn src) hh hl hd hg hgs (goes _ rfl rfl (allBare_setGen hbr rfl) ⟨o, r', hx⟩) (fun v s₁ gs' hb hv => ?_) (fun s₁ hp h' hk => ?_))))
      · intro hsz
        obtain ⟨j', d, m', i', r'', H, x, hn', hk', rv, hf, S, hmi', hji', kap⟩ := hv
        have ej : j' = j := by omega
        subst ej
        rw [hx] at hk'
        cases hk'
        cases d with
        | int b =>
          have hf : x = .int b := by simpa [Fz] using hf
          subst hf
          obtain ⟨tb, rfl⟩ : ∃ tb, v = .int b tb := rv
          have hsz1 : g < s₁.gens.size := by
            have q1 : (s₁.setGen g gs').gens.size = s₁.gens.size := setGen_size _ _ _
            have q2 : g + 1 ≤ (s₁.setGen g gs').gens.size := hsz
            omega
          have hbr' : AllBare (s₁.setGen g gs').gens := allBare_setGen S.inv.bare hb
          have hS1 : s₁.heap.get? t = some { cls := .type "list", dict := none, data := .seq #[.int av tA] c, slots := #[] } := S.tsK (List.mem_singleton.mpr rfl) hS
          have w : Wd (sumS turn src m' i' (av + b) r') (fun _ _ => False) kf := w
          have hnx : nextS turn src m' i' r' = nxs turn src gN0 r1 (j' + 1) := by
            show _ = match nxs turn src gN0 r1 j' with
              | .ok (some (_, m, i)) r => nextS turn src m i r
              | _ => .no
            rw [hx]
          -- behind the step
          have next : ∀ (h2 : Heap) (tk : Nat) (t2 : Tok) (c2 : Nat) (st2 : Int), st2 = 0 ∨ st2 = 2 → (∀ b o, b ≠ t → s₁.heap.get? b = some o → h2.get? b = some o) → h2.get? t = some { cls := .type "list", dict := none, data := .seq #[.int (av + b) t2] c2, slots := #[] } →
              (Code.builtin "sum.loop" ⟨[.ref a, .ref t, rawInt st2, rawInt 0], []⟩).quiet = true ∧ codeAny (model X'.prog X'.w) A (.builtin "sum.loop" ⟨[.ref a, .ref t, rawInt st2, rawInt 0], []⟩) Rr { s₁.setGen g gs' with heap := h2, toks := tk } := fun h2 tk t2 c2 st2 hs2 hk2 ht2 => by
            have ch : Chg [t] s₁.heap h2 := ⟨fun b o hb e => hk2 b o (fun z => hb (List.mem_singleton.mpr z)) e, fun b hb => by
              rw [List.mem_singleton.mp hb]
              exact ⟨_, ht2, fun v z => by cases z⟩⟩
            have S2 := S.still (s' := { s₁.setGen g gs' with heap := h2, toks := tk }) W kt ch rfl hbr'
            exact ⟨plainId_quiet F.plain_sum_loop _, ih (j' + 1) (by omega) m' i' r' _ (av + b) t2 c2 st2 hs2 hji' hmi' hnx w ht2 ⟨hgo.at (S2.inv.pin (a, go) (List.mem_append_left _ hpn)).1, S2.inv.nolimit, hbr', gs', setGen_at hsz1, fun s'' e1 e2 e3 e4 => kap s'' (by rw [e1]; exact ch) e2 e3 e4⟩⟩
          have hk1 : ∀ (f : Array Value → Array Value) b o, b ≠ t → s₁.heap.get? b = some o → (s₁.heap.update t (Obj.mapSeq f)).get? b = some o := fun f b o hb e => (Heap.get?_update_other _ _ (Ne.symm hb)).trans e
          have plain : ∀ (next2 : Value → Int), next2 (.int (av + b) (s₁.setGen g gs').toks) = 2 → wpAny (model X'.prog X'.w) A.in1 ((holding [.int b tb] (binaryOp .Add (.int av tA) (.int b tb))).attempt >>= fun o => match o with
            | .ok x => do updateSeq t fun _ => #[x]; letGo [.int av tA, .int b tb]; (updateSeq t (fun _ => #[x]) >>= fun _ => again (.builtin "sum.loop" ⟨[.ref a, .ref t, rawInt (next2 x), rawInt 0], []⟩))
            | .error e => do updateSeq t fun _ => #[]; letGo [.int av tA, .int b tb] [e]; throw e)
              (fun fin s'' => match fin with | .done f => Rr (.ok f) s'' | .again c' => c'.quiet = true ∧ codeAny (model X'.prog X'.w) A c' Rr s'') (fun e s'' => Rr (.error e) s'') (s₁.setGen g gs') := fun next2 hn2 => by
            refine wpAny_bind (wpAny_attempt (wpAny_holding (wpAny_add_int ?_)))
            show wpAny _ A.in1 (updateSeq t (fun _ => #[.int (av + b) (s₁.setGen g gs').toks]) >>= _) _ _ _
            refine wpAny_bind (wpAny_updateSeq hS1 rfl ?_)
            refine wpAny_bind (wpAny_letGo ?_)
            refine wpAny_bind (wpAny_updateSeq (Heap.get?_update_self _ hS1 rfl) rfl ?_)
            rw [hn2]
            refine wpAny_pure (next _ _ _ _ 2 (.inr rfl) (fun b o hb e => (Heap.get?_update_other _ _ (Ne.symm hb)).trans (hk1 _ b o hb e)) (Heap.get?_update_self _ (Heap.get?_update_self _ hS1 rfl) rfl))
          rcases hst with rfl | rfl
          · show wpAny _ A.in1 (if (_ : Bool) = true then (mkInt (av + b) >>= _) else _) _ _ _
            split
            · refine wpAny_bind (wpAny_mkInt ?_)
              show wpAny _ A.in1 (updateSeq t (fun _ => #[.int (av + b) (s₁.setGen g gs').toks]) >>= _) _ _ _
              refine wpAny_bind (wpAny_updateSeq hS1 rfl (wpAny_pure (next _ _ _ _ 0 (.inl rfl) (hk1 _) (Heap.get?_update_self _ hS1 rfl))))
            · refine wpAny_bind (wpAny_rule ?_)
              exact plain _ rfl
          · exact plain _ rfl
        | _ => exact w.elim
      · intro _
        obtain ⟨j', r'', H, hn', hk', I, P, l⟩ := hp
        have ej : j' = j := by omega
        subst ej
        rw [hx] at hk'
        cases hk'
        have w : kf av r' := w
        exact wpAny_pure (fin _ r' H av tA w (inv_gens I hk rfl (allBare_setGen I.bare rfl)) P l)
end
theorem snd_sum {CX : CXT} {X : Cx} {c : Cc} {Y : Yc} {G : Nat → Option D} {f : CE} {n : Nat} {elt tg iter : Expr} {ifs : List Expr} {scope : Scope} {p pos gpos : Pos} {own : List (Str × Nat)} {ie iit : E} {it' : Tg} {ic : Option E}
    (C : Ck CX X c Y G f n) (hca : c.ca = true) (hgd : c.gd = true) (hg : isGl c "sum" = true) (hi : PI X tg iter (tI X.K Y (bd (ev G f iit) (srcOf (own.map (·.2)))))) (ok : BlkOk X.N X.env.scope scope own) (hcell : ∀ y ∈ scope.names, y.2 ≠ .cell) (hco : scope.isCoroutine = false)
    (hdot : scope.names.lookup (".0" : Str) = some NameKind.local) (hs : ∀ x, genFold iter X.env x = pure x) (htg : ∀ i ∈ tgSl it', i ∈ own.map (·.2))
    (hblk : ∀ (s4 : Shared) (H4 : Hp) (C : Addr) (code : Value) (fp : List Addr) (pn : List (Addr × Obj)) (A' : Around), Room n A' → 
      PG (Xg X s4 H4 (genEnv scope (cloFrom X.env.cells scope.names []) C code builtinsNs X.env) fp pn A') tg (tG X.K Y.T it') ∧
      PTs (Xg X s4 H4 (genEnv scope (cloFrom X.env.cells scope.names []) C code builtinsNs X.env) fp pn A') ifs (tT X.K Y.no (tstO G f ic)) ∧
      PE (Xg X s4 H4 (genEnv scope (cloFrom X.env.cells scope.names []) C code builtinsNs X.env) fp pn A') elt (tFz (tE X.K Y.no (ev G f ie)))) :
    PE X (.Call (.Name "sum" p) [.GeneratorExp elt [⟨tg, iter, ifs, 0⟩] scope gpos] [] pos) (tE X.K Y (ev G f (.gen .sum ie it' iit ic (own.map (·.2))))) := by
  refine ⟨fun pins s σ H Q I w => ?_⟩
  obtain ⟨r, g, w⟩ := w
  simp only [ev] at w
  have w : Wd (bd (ev G f iit) (fun x => bd (srcOf (own.map (·.2)) x) fun s => inOwn (own.map (·.2)) (genRun .sum (turnM G f ie it' ic (own.map (·.2))) s)) r) (exK X.K Y r σ H) fun o r' => ∀ v H', Post X.K Y.T r σ H r' H' → OpV X.K σ H H' o v → Q v H' := w
  have wi : tI X.K Y (bd (ev G f iit) (srcOf (own.map (·.2)))) σ H fun J Hb => ∃ src rb, Post X.K Y.T r σ H rb Hb ∧ SrcV X.K σ H rb Hb J src ∧ (∀ i, src = .byref i → i ∉ own.map (·.2)) ∧
      Wd (sumS (turnM G f ie it' ic (own.map (·.2))) src gN0 0 0 rb) (fun _ _ => False) fun b r' => ∀ H', Post X.K Y.T r σ H (back (own.map (·.2)) rb r') H' → Q (.int b) H' := by
    refine ⟨r, g, Wd.bd' (w.bd.mono (fun _ _ z => z) fun o ra ea q => q.bd.mono (fun _ _ z => z) fun src rb eb q J Hb pb hJ => ?_)⟩
    have q := inOwn_wd q
    have q : Wd (bd (lcRun (turnM G f ie it' ic (own.map (·.2))) src) (fun xs => bd (opt (genFin .sum xs)) fun v => ret v.op) rb) (fun _ _ => False) fun o r' => ∀ v H', Post X.K Y.T r σ H (back (own.map (·.2)) rb r') H' → OpV X.K σ H H' o v → Q v H' := q
    have q2 : Wd (bd (lcRun (turnM G f ie it' ic (own.map (·.2))) src) sFin rb) (fun _ _ => False) fun v r' => ∀ w H', Post X.K Y.T r σ H (back (own.map (·.2)) rb r') H' → OpV X.K σ H H' v.op w → Q w H' := Wd.bd' (q.bd.mono (fun _ _ z => z) fun xs r' e q => q.bd.mono (fun _ _ z => z) fun v r2 e q => q)
    refine ⟨src, rb, pb, hJ, fun i e => by subst e; exact srcOf_own eb, ?_⟩
    have last : ∀ {b : Int} {r' : Env}, (∀ w H', Post X.K Y.T r σ H (back (own.map (·.2)) rb r') H' → OpV X.K σ H H' (Rv.val (.int b)).op w → Q w H') → ∀ H', Post X.K Y.T r σ H (back (own.map (·.2)) rb r') H' → Q (.int b) H' := fun {b r'} z H' pp => z (.int b) H' pp (by show Fz X.K H' (.int b) _; simp [Fz])
    cases src with
    | fixed xs =>
      obtain ⟨_, _, _, hlen, _⟩ := hJ
      have q2 : Wd (bd (lcFix (turnM G f ie it' ic (own.map (·.2))) (xs.drop 0) []) sFin rb) (fun _ _ => False) fun v r' => ∀ w H', Post X.K Y.T r σ H (back (own.map (·.2)) rb r') H' → OpV X.K σ H H' v.op w → Q w H' := q2
      exact (fix_sumS gN0 0 [] [] rb rfl (by unfold gN0; omega) q2 (Nat.zero_le _)).mono (fun _ _ z => z) fun b r' e q => last q
    | byref i0 => exact (ref_sumS sizeLine gN0 0 [] [] rb rfl (by unfold gN0; omega) q2).mono (fun _ _ z => z) fun b r' e q => last q
  have hfree : ∀ y ∈ scope.names, y.2 = .free → ∃ c, X.env.cells.lookup y.1 = some c := fun y hy e => by
    rcases ok.free y hy e with k | k
    · exact I.ok.has _ (.inl k)
    · exact I.ok.has _ (.inr k)
  refine wpAny_Call_Name_kw (ld_blt I (gl_of C hg) (C.bi _ (by decide +kernel)) boot_sum ?_ (by decide +kernel) (by decide +kernel))
  refine PyProof.Rows.callWith_builtin1 ?_ rfl (by rfl)
  show wpAny _ _ (spliced ((false, eval (.GeneratorExp elt [⟨tg, iter, ifs, 0⟩] scope gpos) X.env) :: backTo pos (starEach [] X.env))) _ _ s
  have hroom := C.room hca
  rw [if_pos hgd] at hroom
  refine Calls.spliced_cons (wpAny_GeneratorExp_make hco (closure_ok hfree) hcell hdot ok.kind (by have := hroom.dp; omega) ?_ hs)
  refine thn (hi.run pins s σ H _ I wi) fun xv s1 h1 => thn h1 fun itv s2 ⟨it, fp, tn, J, H2, e, I2, T, st2, f2, src, rb, pb, hJ, ho, wq⟩ => ⟨I2.nolimit, ?_⟩
  subst e
  obtain ⟨cA, P, hPT, TB, hcode⟩ := C.code hgd
  obtain ⟨ps, hP, ht⟩ := pb.gd.tb P hPT
  have hPs : s2.heap.get? P = some { cls := .none, data := .fields ps } := I2.hok P _ hP
  have cd : PySem.W.CodeHd s2.heap cA P := TB.code.keeps fun b u e => I2.bk b u e
  have cont : ∀ (code : Value) (h3 : Heap) (tk : Nat) (ps' : Array Value), Heap.ExtBut P s2.heap h3 → h3.get? P = some { cls := .none, data := .fields ps' } → (∃ more, ps' = ps ++ more) → TriplesOk ps'.toList →
      wpAny (model X.prog X.w) X.A (builtinsFor X.env.globals X.env.builtins) (fun bi s₄ =>
        ∀ h', h'.Ns s₄.heap.objs.size (fun y => if y = (".0" : Str) then some (.ref it) else none) → Heap.SameBut s₄.heap.objs.size (s₄.heap.push { cls := .type "frame", data := .dict #[] }) h' →
          wpAny (model X.prog X.w) X.A (spliced (backTo pos (starEach [] X.env))) (fun us s' => wpAny (model X.prog X.w) X.A (call (.builtin "sum") (.ref h'.objs.size :: us)) (EP X pins σ Q) X.xe s') X.xe
          { s₄ with
            gens := s₄.gens.push (.fresh (.compStart (.GeneratorExp elt [⟨tg, iter, ifs, 0⟩] scope gpos) 0 (.ref it) .none (genEnv scope (cloFrom X.env.cells scope.names []) s₄.heap.objs.size code bi X.env))),
            toks := s₄.toks + 1 + 1 + 1,
            heap := h'.push { cls := .type "generator", data := .fields #[.int s₄.gens.size 0, .str "<genexpr>" (s₄.toks + 1), .str (X.env.qual ++ "<genexpr>") (s₄.toks + 1 + 1)] } }) X.xe { s2 with heap := h3, toks := tk } := by
    intro code h3 tk ps' hx hP3 hmore ht3
    obtain ⟨bm, ob, e1, e2, e3, e4, e5, e6, e7, e8⟩ := TB.bm
    refine wpAny_builtinsFor (m := X.mg) (by rw [I2.ok.glob]; exact (I2.mod.glob.keeps I2.bk).extBut hx TB.gP) e1 e2 (hx _ _ e4 (I2.bk _ _ e5)) e6 e7 e8 ?_
    intro h' hn' hs'
    obtain ⟨more, em⟩ := hmore
    have I3 : Inv X pins σ (upd H2 P (.tbl ps')) { s2 with heap := h3, toks := tk } := by
      rw [em]
      exact GxR.inv_tab (more := more) (g' := s2.gens) (d' := s2.drawn) I2 hP (fun b o hb e => hx b o hb e) (by rw [← em]; exact hP3) I2.bare
    have p3 := post_tab (ps' := ps') pb.gd hP ht3
    have hJ3 := srcv_up (p3.kp pb.gd) (fun a xs e => by rw [upd_ne (fun z => by subst z; rw [hP] at e; cases e)]; exact e) hJ
    have h2P : ∀ b, H2 b = none → b ≠ P := fun b e z => by rw [z, hP] at e; cases e
    have f3 : ∀ b ∈ fp, FpOk X pins (upd H2 P (.tbl ps')) b ∧ b < h3.objs.size := fun b hb => by
      obtain ⟨o, eo, _⟩ := T.obj _ _ st2 b hb
      exact ⟨⟨by rw [upd_ne (h2P b (f2 b hb).1)]; exact (f2 b hb).1, (f2 b hb).2⟩, Heap.lt_size (hx b o (h2P b (f2 b hb).1) eo)⟩
    have st3 : tn 0 h3 := T.keep _ _ _ st2 fun b hb o e => hx b o (h2P b (f2 b hb).1) e
    generalize hs3 : ({ s2 with heap := h3, toks := tk } : Shared) = s3 at I3 hn' hs' ⊢
    have hh3 : s3.heap = h3 := by rw [← hs3]
    generalize hH3 : upd H2 P (.tbl ps') = H3 at I3 p3 hJ3 f3
    have sz' : h'.objs.size = s3.heap.objs.size + 1 := by rw [hs'.1, Heap.size_push]
    have keep' : ∀ b o, s3.heap.get? b = some o → h'.get? b = some o := fun b o e => hs'.extBut b o (Nat.ne_of_lt (Heap.lt_size e)) (Heap.get?_push_of_some _ e)
    generalize hgo : ({ cls := .type "generator", data := .fields #[.int s3.gens.size 0, .str "<genexpr>" (s3.toks + 1), .str (X.env.qual ++ "<genexpr>") (s3.toks + 1 + 1)] } : Obj) = go
    have isgo : IsGo go s3.gens.size := by rw [← hgo]; exact ⟨_, _, rfl, rfl, rfl⟩
    have hget : (h'.push go).get? h'.objs.size = some go := by rw [← hgo]; exact Heap.get?_push_size _ rfl
    have keep5 : ∀ b o, s3.heap.get? b = some o → (h'.push go).get? b = some o := fun b o e => Heap.get?_push_of_some _ (keep' b o e)
    generalize hcenv : genEnv scope (cloFrom X.env.cells scope.names []) s3.heap.objs.size code builtinsNs X.env = cenv
    have cL : cenv.locals = s3.heap.objs.size := by rw [← hcenv]; rfl
    have cS : cenv.scope = scope := by rw [← hcenv]; rfl
    generalize hs5 : ({ s3 with gens := s3.gens.push (.fresh (.compStart (.GeneratorExp elt [⟨tg, iter, ifs, 0⟩] scope gpos) 0 (.ref it) .none cenv)), toks := s3.toks + 1 + 1 + 1, heap := h'.push go } : Shared) = s5
    have h5 : s5.heap = h'.push go := by rw [← hs5]
    have g5 : s5.gens = s3.gens.push (.fresh (.compStart (.GeneratorExp elt [⟨tg, iter, ifs, 0⟩] scope gpos) 0 (.ref it) .none cenv)) := by rw [← hs5]
    have o5 : s5.os = s3.os := by rw [← hs5]
    have b5 : AllBare s5.gens := by rw [g5]; exact I3.bare.push rfl
    refine Calls.spliced_nil ?_
    -- the block
    have hA : X.A.in1.in1.frames = some X.stack := I3.ok.frames
    have hfrm : (X.A.in1.in1.over (gCd elt tg iter ifs scope gpos it cenv) []).frames = some (cenv :: X.stack) := over_loopG hA
    have hhd : (X.A.in1.in1.over (gCd elt tg iter ifs scope gpos it cenv) []).handled = none := I3.ok.hd (C.calm hca)
    have hrm : Room n (X.A.in1.in1.over (gCd elt tg iter ifs scope gpos it cenv) []) := by
      refine ⟨hhd, ?_, ?_⟩
      · have := hroom.dp
        show X.A.depth + 1 + 3 * n + 5 < _
        omega
      · have := hroom.un
        show X.A.units + 1 + 1 + 3 + 16 * n + 200 < _
        omega
    have IB0 := gen_start (code := code) (A' := X.A.in1.in1.over (gCd elt tg iter ifs scope gpos it cenv) []) (s5 := s5) (m5 := fun y => if y = (".0" : Str) then some (.ref it) else none) I3 ok C.nd hcell (fun b hb => by rw [hh3]; exact f3 b hb) hhd (by rw [hcenv]; exact hfrm) (by rw [h5]; exact keep5)
      (by rw [h5]; exact hn'.push _) o5 b5
    rw [hcenv] at IB0
    have aN : H3 h'.objs.size = none := I3.hok.fresh (by rw [sz']; exact Nat.le_succ _)
    have aL : h'.objs.size ≠ cenv.locals := by rw [cL, sz']; exact Nat.succ_ne_self _
    have aF : h'.objs.size ∉ frs X.stack := fun hm => by
      obtain ⟨_, o, eo, _⟩ := I3.stack.mem hm
      have h9 : h'.objs.size < s3.heap.objs.size := Heap.lt_size eo
      rw [sz'] at h9
      exact absurd h9 (Nat.not_lt.mpr (Nat.le_succ _))
    have IB := gen_pin IB0 ⟨by rw [h5]; exact hget, aN, aL, aF, fun v z => by rw [← hgo] at z; cases z⟩
    have fpa : ∀ b ∈ fp, h'.objs.size ≠ b := fun b hb z => by
      have h9 : b < s3.heap.objs.size := by rw [hh3]; exact (f3 b hb).2
      rw [← z, sz'] at h9
      exact absurd h9 (Nat.not_lt.mpr (Nat.le_succ _))
    have stat : ∀ {σ' : St} {H' : Hp} {s' : Shared}, Inv (gX X s3 H3 cenv fp h'.objs.size go X.A.in1.in1 (gCd elt tg iter ifs scope gpos it cenv)) [] σ' H' s' → (∀ b ∈ fp, H' b = none) → ∀ b ∈ fp, FpOk (gX X s3 H3 cenv fp h'.objs.size go X.A.in1.in1 (gCd elt tg iter ifs scope gpos it cenv)) [] H' b := fun {σ' H' s'} I' hn b hb =>
      ⟨hn b hb, (I'.ok.exf b hb).1, I'.ok.exfs b hb, .inl hb, fun x c e => (I'.ok.exf b hb).2 x c e, fun p hp => by
        have e : p = (h'.objs.size, go) := by simpa using hp
        subst e
        exact fpa b hb⟩
    obtain ⟨pg, pt, pe⟩ := hblk s3 H3 s3.heap.objs.size code fp [(h'.objs.size, go)] (X.A.in1.in1.over (gCd elt tg iter ifs scope gpos it cenv) []) hrm
    rw [hcenv] at pg pt pe
    -- the sum's own cell
    refine call_function_tree F.kind_sum F.plain_sum F.entry_sum (F.args_sum1 _) ?_
    unfold Builtin.«sum»
    simp only [List.length_cons, List.length_nil]
    rw [if_neg (by decide)]
    refine wpAny_bind (wpAny_of_eq (show Builtin.Builtins.bindParams "sum" ["start"] 0 { } = pure [none] from rfl) ?_)
    refine wpAny_bind (wpAny_pyIter_gen (isgo.at (by rw [h5]; exact hget)) ?_)
    refine wpAny_bind (wpAny_mkInt ?_)
    refine wpAny_bind (wpAny_pure ?_)
    simp only [List.forIn_cons, List.forIn_nil]
    refine wpAny_bind (wpAny_bind (wpAny_bind (wpAny_isInstance (T := "int") (b := false) (typeIs_int _ _ _) PySem.sub_int_str ?_)))
    simp only [Bool.false_eq_true, if_false]
    refine wpAny_pure (wpAny_bind (wpAny_bind (wpAny_isInstance (T := "int") (b := false) (typeIs_int _ _ _) PySem.sub_int_bytes ?_)))
    simp only [Bool.false_eq_true, if_false]
    refine wpAny_pure (wpAny_bind (wpAny_bind (wpAny_isInstance (T := "int") (b := false) (typeIs_int _ _ _) PySem.sub_int_bytearray ?_)))
    simp only [Bool.false_eq_true, if_false]
    refine wpAny_pure (wpAny_pure ?_)
    refine wpAny_bind (wpAny_newObj_type ?_)
    generalize hs6 : ({ s5 with heap := s5.heap.push { cls := .type "list", dict := none, data := .seq #[.int 0 s5.toks] 0, slots := #[] }, toks := s5.toks + 1 } : Shared) = s6
    have h6 : s6.heap = s5.heap.push { cls := .type "list", dict := none, data := .seq #[.int 0 s5.toks] 0, slots := #[] } := by rw [← hs6]
    have sz5 : s5.heap.objs.size = s3.heap.objs.size + 1 + 1 := by rw [h5, Heap.size_push, sz']
    have get6 : s6.heap.get? s5.heap.objs.size = some { cls := .type "list", dict := none, data := .seq #[.int 0 s5.toks] 0, slots := #[] } := by rw [h6]; exact Heap.get?_push_size _ rfl
    have keep6 : ∀ b o, s5.heap.get? b = some o → s6.heap.get? b = some o := fun b o e => by rw [h6]; exact Heap.get?_push_of_some _ e
    have b6 : AllBare s6.gens := by rw [← hs6]; exact b5
    have o6 : s6.os = s5.os := by rw [← hs6]
    have g6 : s6.gens = s5.gens := by rw [← hs6]
    have tN : H3 s5.heap.objs.size = none := I3.hok.fresh (by omega)
    have tC : ∀ x c, cenv.cells.lookup x = some c → c ≠ s5.heap.objs.size := fun x c e z => by
      obtain ⟨v, q⟩ := IB0.cell x c e
      exact absurd (Nat.lt_of_lt_of_le q.lt (by rw [z]; exact Nat.le_refl _)) (Nat.lt_irrefl _)
    have tF : s5.heap.objs.size ∉ frs X.stack := fun hm => by
      obtain ⟨_, o, eo, _⟩ := I3.stack.mem hm
      have h9 : s5.heap.objs.size < s3.heap.objs.size := Heap.lt_size eo
      omega
    have W : Wt (gX X s3 H3 cenv fp h'.objs.size go X.A.in1.in1 (gCd elt tg iter ifs scope gpos it cenv)) fp [s5.heap.objs.size] := ⟨fun {σ' H' s'} I' hn b hb => by
      have e := List.mem_singleton.mp hb
      subst e
      refine ⟨hn _ hb, by show s5.heap.objs.size ≠ cenv.locals; rw [cL]; omega, tF, .inr (by show s3.heap.objs.size ≤ _; omega), tC, fun p hp => ?_⟩
      have e : p = (h'.objs.size, go) := by simpa using hp
      subst e
      show h'.objs.size ≠ _
      omega, fun b hb z => by
      have h9 : b < s3.heap.objs.size := by rw [hh3]; exact (f3 b hb).2
      rw [List.mem_singleton.mp z, sz5] at h9
      exact Nat.lt_irrefl _ (Nat.lt_of_le_of_lt (Nat.le_add_right _ 2) h9)⟩
    have IB6 := inv_gens IB keep6 o6 b6
    have S0 : GSt (gX X s3 H3 cenv fp h'.objs.size go X.A.in1.in1 (gCd elt tg iter ifs scope gpos it cenv)) Y.T (own.map (·.2)) rb σ H3 fp [s5.heap.objs.size] tn 0 rb H3 s6 s6 :=
      ⟨IB6.pinned (W.old IB6 fun b hb => by rw [List.mem_singleton.mp hb]; exact tN) (fun b hb => by rw [List.mem_singleton.mp hb]; exact ⟨_, get6, fun v z => by cases z⟩), fun b hb => by rw [List.mem_singleton.mp hb]; exact ⟨_, get6⟩,
        T.keep _ _ _ st3 fun b hb o e => keep6 b o (by rw [h5]; exact keep5 b o (by rw [hh3]; exact e)), fun b hb => (f3 b hb).1.1, .refl (gd_wipe p3.gd rfl), rfl⟩
    have seg := gen_seg (X := X) (s4 := s3) (H4 := H3) (cenv := cenv) (fp := fp) (ts := [s5.heap.objs.size]) (a := h'.objs.size) (it := it) (go := go) (Aw := X.A.in1.in1) (own := own.map (·.2)) (r1 := rb) (σ := σ) (tn := tn) (J := J) (src := src) (pos := gpos) (iter := iter) (C.calm hca) (by rw [cS]; exact hco) T p3.gd hJ3 ho htg W pg pt pe stat
    refine wpAny_pure ⟨plainId_quiet F.plain_sum_loop _, sum_loop (X' := gX X s3 H3 cenv fp h'.objs.size go X.A.in1.in1 (gCd elt tg iter ifs scope gpos it cenv)) (Y := Y) (A := X.A) (own := own.map (·.2)) (r1 := rb) (σ := σ) (H4 := H3) (fp := fp) (tn := tn) (src := src)
      (turn := turnM G f ie it' ic (own.map (·.2))) (g := s3.gens.size) (go := go) (a := h'.objs.size) (t := s5.heap.objs.size) (I3.ok.hd (C.calm hca)) (by have := hroom.dp; show X.A.depth < _; omega) isgo List.mem_cons_self W T.keep (fun s' r' H' b tk kf I' P' l' => ?_) gN 0 rfl gN0 0 rb s6 0 s5.toks 0 0 (.inl rfl) (Nat.le_refl _) rfl rfl wq get6
      ⟨isgo.at (keep6 _ _ (by rw [h5]; exact hget)), by rw [h6, h5]; exact I3.nolimit.keeps fun b o e => Heap.get?_push_of_some _ (keep5 b o e), b6, _, by rw [g6, g5]; exact Array.getElem?_push_size .., fun s'' e1 e2 e3 hok => ?_⟩⟩
    · have I7 : Inv X pins σ H' s' := I3.call' (ch := fp) I'.os I'.base I'.hok I'.bare fun b hb => ⟨(f3 b hb).1.2.2.2.1, (f3 b hb).1.2.1, (f3 b hb).1.2.2.2.2.1, (f3 b hb).1.2.2.2.2.2⟩
      exact ⟨.int b, H', I7, ⟨_, rfl⟩, kf H' (pb.trans (p3.trans (post_back p3.gd P' l')))⟩
    · have S1 := S0.still W T.keep (s' := s'') ⟨fun b o _ e => by rw [e1]; exact e, fun b hb => by rw [List.mem_singleton.mp hb, e1]; exact ⟨_, get6, fun v z => by cases z⟩⟩ e2 e3
      have loop := seg gN 0 rfl gN0 0 rb H3 s'' s'' (Nat.le_refl _) rfl rfl hok S1
      refine ⟨rfl, ?_⟩
      show Seg _ X.A.in1.in1 _ _ _ s'' _ ((compStart (.GeneratorExp elt [⟨tg, iter, ifs, 0⟩] scope gpos) 0 (.ref it) .none cenv).onRaise (leaving cenv)) [] s''
      unfold compStart
      rw [Sem.onRaise_eq_wrap]
      show Seg _ X.A.in1.in1 _ _ _ s'' _ ((ask >>= _).wrap _ _ _ _) [] s''
      refine seg_bind_wrap (wpAny_askSetting ?_)
      split
      · exact seg_again rfl loop
      · first
          | exact seg_bind_wrap (wpAny_rule (seg_bind_wrap (wpAny_standAt (seg_bind_wrap (T.self _ 0 s'' _ _ S1.tn (seg_again rfl loop))))))
          | (refine seg_bind_wrap (wpAny_rule ?_); show Seg _ X.A.in1.in1 _ _ _ s'' _ ((standAt iter.pos >>= _).wrap _ _ _ _) [] s''; exact seg_bind_wrap (wpAny_standAt (seg_bind_wrap (T.self _ 0 s'' _ _ S1.tn (seg_again rfl loop)))))
  cases hf : codeAmong gpos ps.toList with
  | none =>
    refine wpAny_genexprCodeX hcode (cd.code hPs ht) (cd.tab hPs) hf fun c' h' tk hx hge hlt hco' _ htab' _ => ?_
    obtain ⟨o1, vs, f1, tf, fl, tg, inF, tx, tt, op, _, _, _, _, _, _, _, _, _, htr, _⟩ := hco'
    exact cont _ h' tk _ hx htab'.2 ⟨_, rfl⟩ htr
  | some cv =>
    refine wpAny_genexprCode_hit hcode (cd.code hPs ht) hf ?_
    exact cont cv s2.heap s2.toks ps (Heap.ExtBut.refl _ _) hPs ⟨#[], by simp⟩ ht
end Fw

/-! Fw: zip and enumerate over lists and tuples; list(dict(pairs)) -/
namespace Fw
open PySem PySem.Spec PyProof.Rows L2

/-! ### a list or a tuple -/
def SqB (b : Bool) (K : PySem.W.Frag) (H : Hp) (a : Addr) (xs : List V) : Prop := match b with
  | true => SqL K H a xs
  | false => SqT K H a xs
def OnB (b : Bool) (h : Heap) (it a : Addr) (i : Nat) : Prop := match b with
  | true => h.IsListIter it a i
  | false => h.IsTupleIter it a i
def StB (b : Bool) (h : Heap) (a : Addr) (its : Array Value) : Prop := match b with
  | true => h.IsList a its
  | false => h.IsTuple a its
def itB (b : Bool) (a : Addr) : Obj := match b with
  | true => { cls := .type "list_iterator", data := .fields #[.ref a, .int 0 0] }
  | false => { cls := .type "tuple_iterator", data := .fields #[.ref a, .int 0 0] }
theorem sqb_at {X : Cx} {pins : List (Addr × Obj)} {σ : St} {H : Hp} {s : Shared} {b : Bool} {a : Addr} {xs : List V} (I : Inv X pins σ H s) (h : SqB b X.K H a xs) : ∃ its : List Value, Vals xs its ∧ StB b s.heap a its.toArray ∧ a < s.heap.objs.size := by
  cases b
  · obtain ⟨its, rv, p, _⟩ := I.tuple h
    obtain ⟨o, ho, _⟩ := id p
    exact ⟨its, rv, p, Heap.lt_size ho⟩
  · obtain ⟨its, rv, p, _⟩ := I.list h
    exact ⟨its, rv, p.isList, p.lt⟩
theorem draws_b {prog : Program} {w : World} {A : Around} (hh : A.handled = none) (b : Bool) (it a : Addr) (hne : a ≠ it) (its : Array Value) : Draws prog w A it [it, a] its.size (fun i v => its[i]? = some v) (fun i h => OnB b h it a i ∧ StB b h a its) := by
  cases b
  · exact Draws.tuple hh it a hne its
  · exact Draws.list hh it a hne its
theorem begins_b (b : Bool) (a : Addr) (its : Array Value) : Begins (.ref a) (itB b a) fun h => StB b h a its := by
  cases b
  · exact begins_tuple a its
  · exact begins_list a its
theorem OnB.keep {b : Bool} {h h' : Heap} {it a : Addr} {i : Nat} (q : OnB b h it a i) (k : ∀ o, h.get? it = some o → h'.get? it = some o) : OnB b h' it a i := by
  cases b
  · obtain ⟨o, ho, r⟩ := q; exact ⟨o, k o ho, r⟩
  · obtain ⟨o, ho, r⟩ := q; exact ⟨o, k o ho, r⟩
theorem OnB.obj {b : Bool} {h : Heap} {it a : Addr} {i : Nat} (q : OnB b h it a i) : ∃ o, h.get? it = some o ∧ ∀ v, o.data ≠ .cell v := by
  cases b
  · obtain ⟨o, ho, _, hd⟩ := q; exact ⟨o, ho, fun v z => by rw [hd] at z; cases z⟩
  · obtain ⟨o, ho, _, hd⟩ := q; exact ⟨o, ho, fun v z => by rw [hd] at z; cases z⟩
theorem onb_new {b : Bool} {h : Heap} {it a : Addr} (e : h.get? it = some (itB b a)) : OnB b h it a 0 := by
  cases b
  · exact ⟨_, e, rfl, rfl⟩
  · exact ⟨_, e, rfl, rfl⟩

/-! ### zip -/
def ItzG (K : PySem.W.Frag) (b1 : Bool) (a : Addr) (xs : List V) (b2 : Bool) (c : Addr) (ys : List V) : It :=
  ⟨fun i H => SqB b1 K H a xs ∧ SqB b2 K H c ys ∧ i < min xs.length ys.length,
    fun i H v H' => ∃ T x y, v = .ref T ∧ H T = none ∧ H' = upd H T (.tup [x, y]) ∧ xs[i]? = some x ∧ ys[i]? = some y,
    fun i H => SqB b1 K H a xs ∧ SqB b2 K H c ys ∧ min xs.length ys.length ≤ i⟩
def TnZ (b1 : Bool) (a : Addr) (b2 : Bool) (c : Addr) (m : Nat) (z TI TO i1 i2 : Addr) (i : Nat) (h : Heap) : Prop :=
  i ≤ m ∧ IsZip h z TI TO .none ∧ IsTupOf2 h TI (.ref i1) (.ref i2) ∧ (∃ x y, IsTupOf2 h TO x y) ∧ OnB b1 h i1 a i ∧ OnB b2 h i2 c i
theorem turn_zipG {P : Program} {w : World} {K : PySem.W.Frag} {elts : List Expr} {kk : Nat} {tpos : Pos} {b1 b2 : Bool} {a c z TI TO i1 i2 : Addr} {xs ys : List V} (S : ZipSep2 z TI TO i1 i2 [i1, a] [i2, c]) (n1 : a ≠ i1) (n2 : c ≠ i2) :
    Turn P w K (.Tuple elts kk tpos) (ItzG K b1 a xs b2 c ys) [z, TI, TO, i1, i2] z (TnZ b1 a b2 c (min xs.length ys.length) z TI TO i1 i2) where
  mem := List.mem_cons_self
  obj := fun i h st q hq => by
    obtain ⟨_, hz, hTI, ⟨x, y, hTO⟩, h1, h2⟩ := st
    simp only [List.mem_cons, List.not_mem_nil, or_false] at hq
    rcases hq with rfl | rfl | rfl | rfl | rfl
    · exact ⟨_, hz, fun v z => nomatch z⟩
    · exact ⟨_, hTI, fun v z => nomatch z⟩
    · exact ⟨_, hTO, fun v z => nomatch z⟩
    · exact h1.obj
    · exact h2.obj
  keep := fun i h h' st k => by
    obtain ⟨hi, hz, hTI, ⟨x, y, hTO⟩, h1, h2⟩ := st
    exact ⟨hi, k _ (by simp) _ hz, k _ (by simp) _ hTI, ⟨x, y, k _ (by simp) _ hTO⟩, h1.keep fun o => k _ (by simp) o, h2.keep fun o => k _ (by simp) o⟩
  item := by
    intro X eP eW eK hc i pins s σ H E I hf st hg
    subst eP eW eK
    obtain ⟨hi, hz, hTI, ⟨x0, y0, hTO⟩, h1, h2⟩ := st
    obtain ⟨q1, q2, hlt⟩ := hg
    obtain ⟨its, rv, p1, _⟩ := sqb_at I q1
    obtain ⟨its2, rv2, p2, _⟩ := sqb_at I q2
    have l1 := rv.length
    have l2 := rv2.length
    have hh : X.A.handled = none := I.ok.hd hc
    have W := WalksT.zipD2 (prog := X.prog) (w := X.w) (A := X.A) S (draws_b (A := X.A.in1) hh b1 i1 a n1 its.toArray) (draws_b (A := X.A.in1) hh b2 i2 c n2 its2.toArray)
    have ex : ∃ x, xs[i]? = some x := ⟨_, List.getElem?_eq_getElem (by omega)⟩
    have ey : ∃ y, ys[i]? = some y := ⟨_, List.getElem?_eq_getElem (by omega)⟩
    obtain ⟨x, ex⟩ := ex
    obtain ⟨y, ey⟩ := ey
    obtain ⟨u, hu, ru⟩ := rv.get ex
    obtain ⟨u2, hu2, ru2⟩ := rv2.get ey
    have ltz : ∀ q ∈ [z, TI, TO, i1, i2], q < s.heap.objs.size := fun q hq => by
      simp only [List.mem_cons, List.not_mem_nil, or_false] at hq
      rcases hq with rfl | rfl | rfl | rfl | rfl
      · exact Heap.lt_size hz
      · exact Heap.lt_size hTI
      · exact Heap.lt_size hTO
      · obtain ⟨_, e, _⟩ := h1.obj; exact Heap.lt_size e
      · obtain ⟨_, e, _⟩ := h2.obj; exact Heap.lt_size e
    refine W.item i s _ E (by simp only [List.size_toArray]; omega) ⟨hz, hTI, ⟨_, _, hTO⟩, ⟨h1, p1⟩, ⟨h2, p2⟩⟩ fun T vals h' tk pt hT hTup hm hk => ⟨_, rfl, W.go elts kk tpos i T _ _ E hm fun h2 st2 hk2 => ?_⟩
    obtain ⟨v1, v2, e1, e2, ev⟩ := pt
    subst ev
    have e1 : its.toArray[i]? = some v1 := e1
    have e2 : its2.toArray[i]? = some v2 := e2
    rw [List.getElem?_toArray, hu] at e1
    rw [List.getElem?_toArray, hu2] at e2
    cases e1
    cases e2
    have hT2 : h2.IsTuple T #[u, u2] := hTup.at fun o q => hk2 T o (W.apart _ _ _ hm) q
    have new : ObjOk X.prog X.w (upd H T (.tup [x, y])) h2 T (.tup [x, y]) := ⟨by show 2 ≤ sizeLine; decide, [u, u2], .cons ru (.cons ru2 .nil), hT2⟩
    have sb : ∀ q ∈ [z, TO, i1, i2], q ∈ [z, TI, TO, i1, i2] := fun q hq => by
      simp only [List.mem_cons, List.not_mem_nil, or_false] at hq ⊢
      rcases hq with rfl | rfl | rfl | rfl <;> simp
    have I1 := I.turnedNew (h' := h2) (t' := tk) (ch := [z, TO, i1, i2]) (fun q o hb e => hk2 q o hb (hk q o hb e)) (fun q hq => hf q (sb q hq)) hT new
    obtain ⟨t1, t2, t3, t4, t5⟩ := st2
    refine ⟨.ref T, _, I1, rfl, ⟨T, x, y, rfl, I.hok.fresh hT, rfl, ex, ey⟩, ⟨by omega, t1, t2, t3, t4.1, t5.1⟩, fun q hq => ?_⟩
    rw [upd_ne (Nat.ne_of_lt (Nat.lt_of_lt_of_le (ltz q hq) hT))]
    exact (hf q hq).1
  done := by
    intro X eP eW eK hc i pins s σ H E I hf st hg
    subst eP eW eK
    obtain ⟨hi, hz, hTI, ⟨x0, y0, hTO⟩, h1, h2⟩ := st
    obtain ⟨q1, q2, hle⟩ := hg
    obtain ⟨its, rv, p1, _⟩ := sqb_at I q1
    obtain ⟨its2, rv2, p2, _⟩ := sqb_at I q2
    have l1 := rv.length
    have l2 := rv2.length
    have hh : X.A.handled = none := I.ok.hd hc
    have W := WalksT.zipD2 (prog := X.prog) (w := X.w) (A := X.A) S (draws_b (A := X.A.in1) hh b1 i1 a n1 its.toArray) (draws_b (A := X.A.in1) hh b2 i2 c n2 its2.toArray)
    have ei : i = min its.toArray.size its2.toArray.size := by simp only [List.size_toArray]; omega
    subst ei
    have sb : ∀ q ∈ [z, TO, i1, i2], q ∈ [z, TI, TO, i1, i2] := fun q hq => by
      simp only [List.mem_cons, List.not_mem_nil, or_false] at hq ⊢
      rcases hq with rfl | rfl | rfl | rfl <;> simp
    exact W.done s _ E ⟨hz, hTI, ⟨_, _, hTO⟩, ⟨h1, p1⟩, ⟨h2, p2⟩⟩ fun h' tk hk => ⟨rfl, I.turnedL (t' := tk) (ch := [z, TO, i1, i2]) hk fun q hq => hf q (sb q hq)⟩
  self := fun A i s Q E st h => wpAny_pyIter_zip st.2.1 h
def iZipG (K : PySem.W.Frag) (ta : TA) : TI := fun σ H R => ta σ H fun vs H1 => ∃ b1 a xs b2 c ys, vs = [.ref a, .ref c] ∧ SqB b1 K H1 a xs ∧ SqB b2 K H1 c ys ∧ R (ItzG K b1 a xs b2 c ys) H1
theorem pi_zipG {X : Cx} {e e2 : Expr} {ta : TA} {p pos tpos : Pos} {elts : List Expr} {kk : Nat} (hg : Gl X "zip") (hm : X.mg "zip" = none) (ha : PA X [e, e2] ta)
    (hs : starEach [e, e2] X.env = (false, eval e X.env) :: starEach [e2] X.env) (hpl : (backTo pos (starEach [e2] X.env)).any (·.1) = false) :
    PI X (.Tuple elts kk tpos) (.Call (.Name "zip" p) [e, e2] [] pos) (iZipG X.K ta) := by
  refine ⟨fun pins s σ H R I q0 => ?_⟩
  refine Call_ (ld_blt I hg hm boot_zip (callWith_type1 (thn (ha.run pos pins s σ H _ I q0) fun us s1 ⟨vs, H1, I1, r1, q1⟩ => ?_) hs hpl))
  obtain ⟨b1, a, xs, b2, c, ys, ex, hqx, hqy, q⟩ := q1
  subst ex
  cases r1 with
  | cons ra rr =>
    cases rr with
    | cons rb rr =>
      cases rr
      cases ra
      cases rb
      obtain ⟨its, _, p1, la⟩ := sqb_at I1 hqx
      obtain ⟨its2, _, p2, lc⟩ := sqb_at I1 hqy
      refine zip_begins2 (begins_b b1 a its.toArray) (begins_b b2 c its2.toArray) p1 p2 fun h' hz hTI hTO g1 g2 hsz hk => wpAny_pyIter_zip hz ?_
      have I2 : Inv X pins σ H1 { s1 with heap := h' } := I1.kept (t' := s1.toks) hk
      have S := zip_sep2 (N := s1.heap.objs.size) (fp1 := [a]) (fp2 := [c]) (fun b hb => by rw [List.mem_singleton.mp hb]; exact la) (fun b hb => by rw [List.mem_singleton.mp hb]; exact lc)
      refine ⟨s1.heap.objs.size + 4, [s1.heap.objs.size + 4, s1.heap.objs.size + 2, s1.heap.objs.size + 3, s1.heap.objs.size, s1.heap.objs.size + 1], _, _, H1, rfl, I2, turn_zipG S (Nat.ne_of_lt la) (Nat.ne_of_lt (Nat.lt_succ_of_lt lc)), ⟨Nat.zero_le _, hz, hTI, ⟨_, _, hTO⟩, onb_new g1, onb_new g2⟩, fun q hq => ?_, q⟩
      have hle : s1.heap.objs.size ≤ q := by
        simp only [List.mem_cons, List.not_mem_nil, or_false] at hq
        rcases hq with z | z | z | z | z
        · rw [z]; exact Nat.le_add_right _ _
        · rw [z]; exact Nat.le_add_right _ _
        · rw [z]; exact Nat.le_add_right _ _
        · rw [z]; exact Nat.le_refl _
        · rw [z]; exact Nat.le_add_right _ _
      exact I1.fpOk hle (I1.hok.fresh hle)

/-! ### enumerate -/
set_option maxHeartbeats 1000000 in
theorem enum_new1 {v : Value} {o : Obj} {H : Heap → Prop} (B : Begins v o H) :
    Meets (Builtin.«enumerate.__new__» ⟨[.type "enumerate", v], []⟩) (fun _ R s => H s.heap ∧
      R (.ok (.ret (.ref (s.heap.push o).objs.size))) { s with heap := (s.heap.push o).push { cls := .type "enumerate", data := .fields #[.none, .bool false, .ref s.heap.objs.size, rawInt 0, .none, .none] } }) :=
  .of_wp fun prog w A R s ⟨h1, h⟩ => by
    obtain ⟨hp, g, d, tk, os⟩ := s
    have su := sub_enumerate
    have q0 : ∀ {A2 : Around} {E2 : Value → Shared → Prop} {Q2 : Value → Shared → Prop}, Q2 (.ref hp.objs.size) ⟨hp.push o, g, d, tk, os⟩ → wpAny (model prog w) A2 (pyIter v) Q2 E2 ⟨hp, g, d, tk, os⟩ := fun q => B.iter prog w _ _ ⟨hp, g, d, tk, os⟩ _ h1 q
    wp_walk using q0
    refine wpAny_stack_any fun st2 => wpAny_pure ?_
    split
    · rename_i c2 _ _ _ _ _
      cases (c2 == Value.type "enumerate")
      · wp_walk using q0
        exact ⟨_, rfl, h⟩
      · wp_walk using q0
        exact ⟨_, rfl, h⟩
    · wp_walk using q0
      exact ⟨_, rfl, h⟩
theorem enum_call1 {prog : Program} {w : World} {A : Around} {E : Value → Shared → Prop} {s : Shared} {v : Value} {o : Obj} {H : Heap → Prop} {Q : Value → Shared → Prop} (B : Begins v o H) (h1 : H s.heap)
    (h : ∀ h2, IsEnum h2 (s.heap.objs.size + 1) s.heap.objs.size 0 .none → h2.get? s.heap.objs.size = some o → (∀ b ob, s.heap.get? b = some ob → h2.get? b = some ob) → Q (.ref (s.heap.objs.size + 1)) { s with heap := h2 }) :
    wpAny (model prog w) A (call (.type "enumerate") [v]) Q E s := by
  refine callType_new F.called_enumerate (by decide) (F.typeCall_enumerate_1 _) (F.newCall_enumerate_1 _) (fun obj => F.args_object_init_2 obj _) F.entry_enumerate_new (enum_new1 B) ⟨h1, ?_⟩
  have hz : (s.heap.push o).objs.size = s.heap.objs.size + 1 := Heap.size_push ..
  show _ ∧ _
  rw [hz]
  have he : IsEnum ((s.heap.push o).push { cls := .type "enumerate", data := .fields #[.none, .bool false, .ref s.heap.objs.size, rawInt 0, .none, .none] }) (s.heap.objs.size + 1) s.heap.objs.size 0 .none := by
    have q := Heap.get?_push_size (s.heap.push o) (o := { cls := .type "enumerate", data := .fields #[.none, .bool false, .ref s.heap.objs.size, rawInt 0, .none, .none] }) rfl
    rwa [hz] at q
  exact ⟨⟨_, he, rfl⟩, h _ he (Heap.get?_push_of_some _ (Heap.get?_push_size _ B.free)) fun b ob e => Heap.get?_push_of_some _ (Heap.get?_push_of_some _ e)⟩
def IteG (K : PySem.W.Frag) (b : Bool) (a : Addr) (xs : List V) : It :=
  ⟨fun i H => SqB b K H a xs ∧ i < xs.length,
    fun i H v H' => ∃ T x, v = .ref T ∧ H T = none ∧ H' = upd H T (.tup [.int (i : Nat), x]) ∧ xs[i]? = some x,
    fun i H => SqB b K H a xs ∧ xs.length ≤ i⟩
def TnE (b : Bool) (a : Addr) (m : Nat) (e it : Addr) (i : Nat) (h : Heap) : Prop := i ≤ m ∧ (∃ old, IsEnum h e it (i : Nat) old) ∧ OnB b h it a i
theorem turn_enumG {P : Program} {w : World} {K : PySem.W.Frag} {elts : List Expr} {kk : Nat} {tpos : Pos} {b : Bool} {a e it : Addr} {xs : List V} (n1 : a ≠ it) (n2 : e ≠ it) (n3 : e ≠ a) :
    Turn P w K (.Tuple elts kk tpos) (IteG K b a xs) [e, it] e (TnE b a xs.length e it) where
  mem := List.mem_cons_self
  obj := fun i h st q hq => by
    obtain ⟨_, ⟨old, he⟩, h1⟩ := st
    simp only [List.mem_cons, List.not_mem_nil, or_false] at hq
    rcases hq with rfl | rfl
    · exact ⟨_, he, fun v z => nomatch z⟩
    · exact h1.obj
  keep := fun i h h' st k => by
    obtain ⟨hi, ⟨old, he⟩, h1⟩ := st
    exact ⟨hi, ⟨old, k _ (by simp) _ he⟩, h1.keep fun o => k _ (by simp) o⟩
  item := by
    intro X eP eW eK hc i pins s σ H E I hf st hg
    subst eP eW eK
    obtain ⟨hi, ⟨old, he⟩, h1⟩ := st
    obtain ⟨q1, hlt⟩ := hg
    obtain ⟨its, rv, p1, _⟩ := sqb_at I q1
    have l1 := rv.length
    have hh : X.A.handled = none := I.ok.hd hc
    have W := WalksT.enumerateD (prog := X.prog) (w := X.w) (A := X.A) (draws_b (A := X.A.in1) hh b it a n1 its.toArray) e n2 (by simp [n2, n3]) (by simp)
    have ex : ∃ x, xs[i]? = some x := ⟨_, List.getElem?_eq_getElem hlt⟩
    obtain ⟨x, ex⟩ := ex
    obtain ⟨u, hu, ru⟩ := rv.get ex
    have ltz : ∀ q ∈ [e, it], q < s.heap.objs.size := fun q hq => by
      simp only [List.mem_cons, List.not_mem_nil, or_false] at hq
      rcases hq with rfl | rfl
      · exact Heap.lt_size he
      · obtain ⟨_, z, _⟩ := h1.obj; exact Heap.lt_size z
    refine W.item i s _ E (by simp only [List.size_toArray]; omega) ⟨⟨old, he⟩, h1, p1⟩ fun T vals h' tk pt hT hTup hm hk => ⟨_, rfl, W.go elts kk tpos i T _ _ E hm fun h2 st2 hk2 => ?_⟩
    obtain ⟨t, v1, e1, ev⟩ := pt
    subst ev
    have e1 : its.toArray[i]? = some v1 := e1
    rw [List.getElem?_toArray, hu] at e1
    cases e1
    have hT2 : h2.IsTuple T #[.int i t, u] := hTup.at fun o q => hk2 T o (W.apart _ _ _ hm) q
    have new : ObjOk X.prog X.w (upd H T (.tup [.int (i : Nat), x])) h2 T (.tup [.int (i : Nat), x]) := ⟨by show 2 ≤ sizeLine; decide, [.int i t, u], .cons ⟨_, rfl⟩ (.cons ru .nil), hT2⟩
    have I1 := I.turnedNew (h' := h2) (t' := tk) (ch := [e, it]) (fun q o hb z => hk2 q o hb (hk q o hb z)) hf hT new
    obtain ⟨t1, t2⟩ := st2
    refine ⟨.ref T, _, I1, rfl, ⟨T, x, rfl, I.hok.fresh hT, rfl, ex⟩, ⟨by omega, t1, t2.1⟩, fun q hq => ?_⟩
    rw [upd_ne (Nat.ne_of_lt (Nat.lt_of_lt_of_le (ltz q hq) hT))]
    exact (hf q hq).1
  done := by
    intro X eP eW eK hc i pins s σ H E I hf st hg
    subst eP eW eK
    obtain ⟨hi, ⟨old, he⟩, h1⟩ := st
    obtain ⟨q1, hle⟩ := hg
    obtain ⟨its, rv, p1, _⟩ := sqb_at I q1
    have l1 := rv.length
    have hh : X.A.handled = none := I.ok.hd hc
    have W := WalksT.enumerateD (prog := X.prog) (w := X.w) (A := X.A) (draws_b (A := X.A.in1) hh b it a n1 its.toArray) e n2 (by simp [n2, n3]) (by simp)
    have ei : i = its.toArray.size := by simp only [List.size_toArray]; omega
    subst ei
    exact W.done s _ E ⟨⟨old, he⟩, h1, p1⟩ fun h' tk hk => ⟨rfl, I.turnedL (t' := tk) (ch := [e, it]) hk hf⟩
  self := fun A i s Q E st h => by
    obtain ⟨_, ⟨old, he⟩, _⟩ := st
    exact wpAny_pyIter_enum he h
def iEnumG (K : PySem.W.Frag) (ta : TA) : TI := fun σ H R => ta σ H fun vs H1 => ∃ b a xs, vs = [.ref a] ∧ SqB b K H1 a xs ∧ R (IteG K b a xs) H1
theorem pi_enumG {X : Cx} {e : Expr} {ta : TA} {p pos tpos : Pos} {elts : List Expr} {kk : Nat} (hg : Gl X "enumerate") (hm : X.mg "enumerate" = none) (ha : PA X [e] ta) (hs : starEach [e] X.env = [(false, eval e X.env)]) :
    PI X (.Tuple elts kk tpos) (.Call (.Name "enumerate" p) [e] [] pos) (iEnumG X.K ta) := by
  refine ⟨fun pins s σ H R I q0 => ?_⟩
  refine Call_ (ld_blt I hg hm boot_enumerate (callWith_type1 (thn (ha.run pos pins s σ H _ I q0) fun us s1 ⟨vs, H1, I1, r1, q1⟩ => ?_) hs rfl))
  obtain ⟨b, a, xs, ex, hqx, q⟩ := q1
  subst ex
  cases r1 with
  | cons ra rr =>
    cases rr
    cases ra
    obtain ⟨its, _, p1, la⟩ := sqb_at I1 hqx
    refine enum_call1 (begins_b b a its.toArray) p1 fun h' he g1 hk => wpAny_pyIter_enum he ?_
    have I2 : Inv X pins σ H1 { s1 with heap := h' } := I1.kept (t' := s1.toks) hk
    refine ⟨s1.heap.objs.size + 1, [s1.heap.objs.size + 1, s1.heap.objs.size], _, _, H1, rfl, I2, turn_enumG (Nat.ne_of_lt la) (Nat.succ_ne_self _) (Nat.ne_of_gt (Nat.lt_succ_of_lt la)), ⟨Nat.zero_le _, ⟨_, he⟩, onb_new g1⟩, fun q hq => ?_, q⟩
    have hle : s1.heap.objs.size ≤ q := by
      simp only [List.mem_cons, List.not_mem_nil, or_false] at hq
      rcases hq with z | z
      · rw [z]; exact Nat.le_add_right _ _
      · rw [z]; exact Nat.le_refl _
    exact I1.fpOk hle (I1.hok.fresh hle)
end Fw

/-! Fw: what is walked by zip, by enumerate; list(dict(pairs)) -/
namespace Fw
open PySem PySem.Spec PyProof.Rows L2
theorem fz_sq {K : PySem.W.Frag} {H : Hp} {d : D} {v : V} {dx : List D} (h : Fz K H d v) (e : seqOf d = some dx) : ∃ b a vs, v = .ref a ∧ (∀ H', Kp H H' → SqB b K H' a vs) ∧ Fzs K H dx vs := by
  rcases seqOf_cases e with rfl | rfl
  · simp only [Fz] at h
    obtain ⟨a, vs, e1, h1, h2⟩ := h
    exact ⟨true, a, vs, e1, fun H' k => (k.fzl h1).sql, h2⟩
  · simp only [Fz] at h
    obtain ⟨a, vs, e1, h1, h2⟩ := h
    exact ⟨false, a, vs, e1, fun H' k => k.sqt h1, h2⟩
theorem fz_pair {K : PySem.W.Frag} {H : Hp} {T : Addr} {p q : D} {x y : V} (hT : H T = none) (h1 : Fz K H p x) (h2 : Fz K H q y) : Fz K (upd H T (.tup [x, y])) (.tuple [p, q]) (.ref T) := by
  have s := same_upd (o := .tup [x, y]) hT
  have k : Kp H (upd H T (.tup [x, y])) := ⟨fun a o u e => s _ _ e, fun a ys e => s _ _ e⟩
  simp only [Fz]
  exact ⟨T, [x, y], rfl, .inl (.inl upd_same), .cons (Fz.keep k _ _ h1) (.one (Fz.keep k _ _ h2))⟩
theorem fix_zip {K : PySem.W.Frag} {H : Hp} {b1 b2 : Bool} {a c : Addr} {dx dy : List D} {vs ws : List V} {P : Hp → Prop} (hz : vs.length ≤ sizeLine) (h1 : Fzs K H dx vs) (h2 : Fzs K H dy ws) (hk : ∀ H2, P H2 → Kp H H2 ∧ SqB b1 K H2 a vs ∧ SqB b2 K H2 c ws) : FixOk K (ItzG K b1 a vs b2 c ws) ((dx.zip dy).map fun p => .tuple [p.1, p.2]) P := by
  have l1 := h1.length
  have l2 := h2.length
  have ll : ((dx.zip dy).map fun p => PyData.tuple [p.1, p.2]).length = min vs.length ws.length := by rw [List.length_map, List.length_zip, l1, l2]
  refine ⟨by rw [ll]; omega, fun i H2 p => ⟨fun d e => ?_, fun hi => ?_⟩⟩
  · obtain ⟨k, s1, s2⟩ := hk H2 p
    have hi : i < min vs.length ws.length := by rw [← ll]; exact (List.getElem?_eq_some_iff.mp e).1
    rw [List.getElem?_map] at e
    obtain ⟨⟨p, q⟩, e1, rfl⟩ := Option.map_eq_some_iff.mp e
    rw [List.getElem?_zip_eq_some] at e1
    obtain ⟨x, g1, f1⟩ := h1.get e1.1
    obtain ⟨y, g2, f2⟩ := h2.get e1.2
    refine ⟨⟨s1, s2, hi⟩, fun v H' ⟨T, x', y', e2, e3, e4, e5, e6⟩ => ?_⟩
    rw [g1] at e5
    rw [g2] at e6
    cases e5
    cases e6
    subst e2 e4
    exact ⟨same_upd e3, fz_pair e3 (Fz.keep k _ _ f1) (Fz.keep k _ _ f2)⟩
  · obtain ⟨k, s1, s2⟩ := hk H2 p
    exact ⟨s1, s2, by rw [ll] at hi; exact hi⟩
theorem fix_enum {K : PySem.W.Frag} {H : Hp} {b : Bool} {a : Addr} {dx : List D} {vs : List V} {P : Hp → Prop} (hz : vs.length ≤ sizeLine) (h1 : Fzs K H dx vs) (hk : ∀ H2, P H2 → Kp H H2 ∧ SqB b K H2 a vs) : FixOk K (IteG K b a vs) (((List.range dx.length).zip dx).map fun p => .tuple [.int (p.1 : Nat), p.2]) P := by
  have l1 := h1.length
  have ll : (((List.range dx.length).zip dx).map fun p => PyData.tuple [.int (p.1 : Nat), p.2]).length = vs.length := by rw [List.length_map, List.length_zip, List.length_range, l1]; omega
  refine ⟨by rw [ll]; omega, fun i H2 p => ⟨fun d e => ?_, fun hi => ?_⟩⟩
  · obtain ⟨k, s1⟩ := hk H2 p
    have hi : i < vs.length := by rw [← ll]; exact (List.getElem?_eq_some_iff.mp e).1
    rw [List.getElem?_map] at e
    obtain ⟨⟨p, q⟩, e1, rfl⟩ := Option.map_eq_some_iff.mp e
    rw [List.getElem?_zip_eq_some] at e1
    obtain ⟨e0, e1⟩ := e1
    have e0 : (List.range dx.length)[i]? = some p := e0
    rw [List.getElem?_range (by omega)] at e0
    cases e0
    obtain ⟨x, g1, f1⟩ := h1.get e1
    refine ⟨⟨s1, hi⟩, fun v H' ⟨T, x', e2, e3, e4, e5⟩ => ?_⟩
    rw [g1] at e5
    cases e5
    subst e2 e4
    exact ⟨same_upd e3, fz_pair e3 (by simp [Fz]) (Fz.keep k _ _ f1)⟩
  · obtain ⟨k, s1⟩ := hk H2 p
    exact ⟨s1, by rw [ll] at hi; exact hi⟩
section
variable {CX : CXT} {X : Cx} {c : Cc} {Y : Yc} {G : Nat → Option D} {f : CE} {n : Nat} {σ : St} {H : Hp} {Q : VK}
theorem SqB.len {pins : List (Addr × Obj)} {s : Shared} {b : Bool} {a : Addr} {xs : List V} (I : Inv X pins σ H s) (h : SqB b X.K H a xs) : xs.length ≤ sizeLine := by
  cases b
  · obtain ⟨_, _, _, z⟩ := I.tuple h; exact z
  · obtain ⟨_, _, _, z⟩ := I.list h; exact z
/-- what is walked is known for good -/
theorem walk_to {es : List E} {z : List D → Option (List D)} {own : List Nat} {R : It → Hp → Prop} {R2 : List V → Hp → Prop} (hl : es.length ≤ 1000) (w : tI X.K Y (bd (bd (evs G f es) fun os => bd (escAll os) fun ds => bd (opt (z ds)) fun xs => ret (.val (.list xs))) (srcOf own)) σ H R)
    (fin : ∀ ds vs xs H2, Fzs X.K H2 ds vs → vs.length = es.length → z ds = some xs → (∀ b a ys, SqB b X.K H2 a ys → ys.length ≤ sizeLine) → (∀ J, (FixOk X.K J xs fun H3 => Kp H2 H3) → R J H2) → R2 vs H2) :
    tGa X (tA X.K Y (evs G f es)) σ H R2 := by
  obtain ⟨r, g, w⟩ := w
  refine ⟨r, g, w.bd.bd.mono (fun _ _ z => z) fun os r1 e q vs H1 p1 ho pins s I => ?_⟩
  obtain ⟨ds, r2, e2, q⟩ := q.bd.escAll
  obtain ⟨H2, I2, f2, g2, s2, k2, b2⟩ := escAll_ok p1.gd I ho (fun a z => p1.own_some g a z) e2
  obtain ⟨xs, e3, q⟩ := q.bd.opt
  have q : ∀ J H', Post X.K Y.T r σ H r2 H' → SrcV X.K σ H r2 H' J (.fixed xs) → R J H' := q
  have P2 := esc_post p1 g2 s2 b2
  refine ⟨H2, I2, fin ds vs xs H2 f2 (by rw [ho.len, evs_len e]) e3 (fun b a ys h => h.len I2) fun J hJ => q J H2 P2 ⟨[], fun _ h => absurd h List.not_mem_nil, fun _ h => absurd h List.not_mem_nil, hJ.1, fun i H3 hp => hJ.2 i H3 hp.1⟩⟩
theorem snd_zip {elts : List Expr} {kk : Nat} {tpos p pos : Pos} {es : List Expr} {ies : List E} {own : List Nat} (C : Ck CX X c Y G f n) (hg : isGl c "zip" = true) (hs : PA X es (tA X.K Y (evs G f ies))) (hes : es.all plainE = true) (hl : es.length = ies.length) (h2 : es.length = 2) :
    PI X (.Tuple elts kk tpos) (.Call (.Name "zip" p) es [] pos) (tI X.K Y (bd (ev G f (.zip ies)) (srcOf own))) := by
  match es, h2, hes, hl, hs with
  | [a, b], _, hes, hl, hs =>
    simp only [List.all_cons, Bool.and_eq_true] at hes
    refine (pi_zipG (gl_of C hg) (C.bi _ (by decide +kernel)) (pa_ge hs) (by rw [plainE_star hes.1]) (by rw [plainE_star hes.2.1]; rfl)).to fun σ H R w => ?_
    simp only [ev] at w
    refine walk_to (by rw [← hl]; show _ ≤ 1000; simp) w fun ds vs xs H2 f2 lv e3 lz q => ?_
    have ld := f2.length
    rw [lv, ← hl] at ld
    match ds, ld, f2, e3 with
    | [d, e], _, f2, e3 =>
      simp only [Fzs] at f2
      obtain ⟨v, r, rfl, f1, v2, r2, rfl, g1, rfl⟩ := f2
      obtain ⟨dx, ex, e3⟩ := Option.bind_eq_some_iff.mp e3
      obtain ⟨dy, ey, rfl⟩ := Option.map_eq_some_iff.mp e3
      obtain ⟨b1, a1, vs1, rfl, s1, z1⟩ := fz_sq f1 ex
      obtain ⟨b2, a2, vs2, rfl, s2, z2⟩ := fz_sq g1 ey
      exact ⟨b1, a1, vs1, b2, a2, vs2, rfl, s1 _ (Kp.refl _), s2 _ (Kp.refl _), q _ (fix_zip (lz _ _ _ (s1 _ (Kp.refl _))) z1 z2 fun H3 k => ⟨k, s1 _ k, s2 _ k⟩)⟩
theorem snd_enum {elts : List Expr} {kk : Nat} {tpos p pos : Pos} {es : List Expr} {ies : List E} {own : List Nat} (C : Ck CX X c Y G f n) (hg : isGl c "enumerate" = true) (hs : PA X es (tA X.K Y (evs G f ies))) (hes : es.all plainE = true) (hl : es.length = ies.length) (h2 : es.length = 1) :
    PI X (.Tuple elts kk tpos) (.Call (.Name "enumerate" p) es [] pos) (tI X.K Y (bd (ev G f (.enum ies)) (srcOf own))) := by
  match es, h2, hes, hl, hs with
  | [a], _, hes, hl, hs =>
    simp only [List.all_cons, Bool.and_eq_true] at hes
    refine (pi_enumG (gl_of C hg) (C.bi _ (by decide +kernel)) (pa_ge hs) (by rw [plainE_star hes.1]; rfl)).to fun σ H R w => ?_
    simp only [ev] at w
    refine walk_to (by rw [← hl]; show _ ≤ 1000; simp) w fun ds vs xs H2 f2 lv e3 lz q => ?_
    have ld := f2.length
    rw [lv, ← hl] at ld
    match ds, ld, f2, e3 with
    | [d], _, f2, e3 =>
      simp only [Fzs] at f2
      obtain ⟨v, r, rfl, f1, rfl⟩ := f2
      obtain ⟨dx, ex, rfl⟩ := Option.map_eq_some_iff.mp e3
      obtain ⟨b1, a1, vs1, rfl, s1, z1⟩ := fz_sq f1 ex
      exact ⟨b1, a1, vs1, rfl, s1 _ (Kp.refl _), q _ (fix_enum (lz _ _ _ (s1 _ (Kp.refl _))) z1 fun H3 k => ⟨k, s1 _ k⟩)⟩

/-! ### list(dict(pairs)) -/
theorem any_key (kvs : List (L2.Key × V)) (k : L2.Key) : ((kvs.any fun kv => decide (kv.1 = k)) = true) ↔ k ∈ kvs.map Prod.fst := by
  rw [List.any_eq_true, List.mem_map]
  constructor
  · rintro ⟨p, h1, h2⟩; exact ⟨p, h1, by simpa using h2⟩
  · rintro ⟨p, h1, h2⟩; exact ⟨p, h1, by simpa using h2⟩
theorem keys_old {kvs : List (L2.Key × V)} {k : L2.Key} (v : V) (c : k ∈ kvs.map Prod.fst) : (putK kvs k v).map Prod.fst = kvs.map Prod.fst := by
  unfold putK
  rw [if_pos ((any_key kvs k).mpr c), List.map_map]
  apply List.map_congr_left
  intro p _
  show (if p.1 = k then (p.1, v) else p).1 = p.1
  split <;> rfl
theorem keys_new {kvs : List (L2.Key × V)} {k : L2.Key} (v : V) (c : ¬ k ∈ kvs.map Prod.fst) : (putK kvs k v).map Prod.fst = kvs.map Prod.fst ++ [k] := by
  unfold putK
  rw [if_neg (fun z => c ((any_key kvs k).mp z))]
  simp
theorem keys_merge : ∀ (more kvs : List (L2.Key × V)) (ks acc : List Int), more.map Prod.fst = ks.map Sum.inl → kvs.map Prod.fst = acc.map Sum.inl → (mergeK kvs more).map Prod.fst = (onceI acc ks).map Sum.inl
  | [], kvs, ks, acc, h1, h2 => by
    cases ks with
    | nil => exact h2
    | cons _ _ => cases h1
  | p :: more, kvs, ks, acc, h1, h2 => by
    cases ks with
    | nil => cases h1
    | cons k ks =>
      rw [List.map_cons, List.map_cons] at h1
      injection h1 with h3 h4
      show (mergeK (putK kvs p.1 p.2) more).map Prod.fst = (onceI (if acc.contains k then acc else acc ++ [k]) ks).map Sum.inl
      refine keys_merge more _ ks _ h4 ?_
      have e : ((Sum.inl k : L2.Key) ∈ acc.map (Sum.inl : Int → L2.Key)) ↔ acc.contains k = true := by
        rw [List.contains_iff_mem, List.mem_map]
        constructor
        · rintro ⟨x, h5, h6⟩; cases h6; exact h5
        · intro h5; exact ⟨k, h5, rfl⟩
      by_cases c : acc.contains k = true
      · rw [if_pos c, keys_old _ (by rw [h2, h3]; exact e.mpr c), h2]
      · rw [if_neg c, keys_new _ (by rw [h2, h3]; exact fun z => c (e.mp z)), h2, h3]
        simp
theorem pairs_of {K : PySem.W.Frag} {H : Hp} : ∀ {ps : List D} {vs : List V} {ks : List Int}, keysOf ps = some ks → Fzs K H ps vs → ∃ (as : List Addr) (kvs : List (L2.Key × V)), vs = as.map V.ref ∧ Paired (fun p kv => SqT K H p [kV kv.1, kv.2]) as kvs ∧ kvs.map Prod.fst = ks.map Sum.inl
  | [], vs, ks, e, h => by
    simp only [Fzs] at h
    cases e
    exact ⟨[], [], h, .nil, rfl⟩
  | p :: ps, vs, ks, e, h => by
    have hp : ∃ k d, p = .tuple [.int k, d] := by
      unfold keysOf at e
      split at e
      · rename_i q; cases q
      · rename_i k d r q; cases q; exact ⟨k, d, rfl⟩
      · cases e
    obtain ⟨k, d, rfl⟩ := hp
    obtain ⟨ks', e1, rfl⟩ := Option.map_eq_some_iff.mp (show (keysOf ps).map (k :: ·) = some ks from e)
    simp only [Fzs] at h
    obtain ⟨v, r, rfl, h1, h2⟩ := h
    obtain ⟨as, kvs, rfl, h3, h4⟩ := pairs_of e1 h2
    simp only [Fz, Fzs] at h1
    obtain ⟨a, xs, rfl, h5, v1, r1, rfl, h6, v2, r2, rfl, h7, rfl⟩ := h1
    subst h6
    exact ⟨a :: as, (.inl k, v2) :: kvs, rfl, .cons h5 h3, by rw [List.map_cons, h4]; rfl⟩
theorem snd_dkl {a : Expr} {p p2 pos pos2 : Pos} {ea : E} (C : Ck CX X c Y G f n) (hca : c.ca = true) (hg : isGl c "list" = true) (hg2 : isGl c "dict" = true) (ha : PE X a (tE X.K Y (ev G f ea))) (hp : plainE a = true) :
    PE X (.Call (.Name "list" p) [.Call (.Name "dict" p2) [a] [] pos2] [] pos) (tE X.K Y (ev G f (.dkl ea))) := by
  have d1 := pe_callTy (pos := pos2) (p := p2) (call_dictP (C.calm hca)) (gl_of C hg2) (C.bi _ (by decide +kernel)) rfl (pa_cons ha pa_nil (plainE_star hp [] X.env)) (by decide) (by decide) (plainE_star hp [] X.env) rfl
  have d2 := pe_callTy (pos := pos) (p := p) (call_list_dK (C.calm hca)) (gl_of C hg) (C.bi _ (by decide +kernel)) rfl (pa_cons d1 pa_nil rfl) (by decide) (by decide) rfl rfl
  refine d2.to fun σ H Q w => ?_
  simp only [ev] at w
  obtain ⟨r, g, w⟩ := w
  refine ⟨r, g, w.bd.mono (fun _ _ z => z) fun o r1 e q x H1 p1 o1 => ?_⟩
  obtain ⟨d, h1, e1, q⟩ := q.bd.rd1 p1.gd o1
  obtain ⟨v, e2, gv⟩ := tE_fin p1 q
  cases d with
  | list ps =>
    obtain ⟨ks, e3, rfl⟩ := Option.map_eq_some_iff.mp (show (keysOf ps).map _ = some v from e2)
    obtain ⟨a, ys, rfl, h3, h4⟩ := h1.list
    obtain ⟨as, kvs, rfl, h5, h6⟩ := pairs_of e3 h4
    refine ⟨a, as, kvs, rfl, h3, h5, fun b hb => ⟨b, _, rfl, upd_same, fun b2 hb2 => ?_⟩⟩
    have n2 : b2 ≠ b := fun z => by subst z; rw [upd_same] at hb2; cases hb2
    have s1 := same_upd (o := .dK (mergeK [] kvs)) hb
    have s2 := same_upd (o := .lst ((mergeK [] kvs).map fun kv => kV kv.1)) hb2
    refine gv _ _ (fun x o e => s2 x o (s1 x o e)) ⟨⟨b2, _, rfl, upd_same, ?_⟩, fun x e => ?_⟩
    · have e4 := keys_merge kvs [] ks [] h6 rfl
      have e5 : ((mergeK [] kvs).map fun kv => kV kv.1) = (onceI [] ks).map V.int := by
        have : ((mergeK [] kvs).map fun kv => kV kv.1) = ((mergeK [] kvs).map Prod.fst).map kV := by rw [List.map_map]; rfl
        rw [this, e4, List.map_map]
        rfl
      rw [e5]
      exact Fzs.ints
    · cases e
      rw [upd_ne n2] at hb2
      exact hb2
  | _ => cases e2
end
end Fw

/-! Fw: dicts that are new -/
namespace Fw
open PySem PySem.Spec PyProof.Rows L2
/-- a container that may be written -/
def Mu (u : HO) : Prop := (∃ xs, u = .lst xs) ∨ (∃ kvs, u = .dK kvs) ∨ ∃ kvs, u = .dT kvs
section
variable {X : Cx} {pins : List (Addr × Obj)} {σ : St} {H H' : Hp} {s : Shared}
theorem Mu.not {u : HO} (h : Mu u) : (∀ xs, u ≠ .tup xs) ∧ (∀ x, u ≠ .own x) ∧ (∀ ps, u ≠ .tbl ps) := by
  rcases h with ⟨_, rfl⟩ | ⟨_, rfl⟩ | ⟨_, rfl⟩ <;> exact ⟨fun _ z => (by cases z), fun _ z => (by cases z), fun _ z => (by cases z)⟩
/-- such a one becomes known for good -/
theorem frzM_at (I : Inv X pins σ H s) {a : Addr} {u : HO} (hu : Mu u) (ha : H a = some u) : ∃ o, s.heap.get? a = some o ∧ Inv X pins σ (upd H a (.frz o u)) s := by
  obtain ⟨o, ho⟩ : ∃ o, s.heap.get? a = some o := by
    have h := I.hok a u ha
    rcases hu with ⟨_, rfl⟩ | ⟨_, rfl⟩ | ⟨_, rfl⟩
    · obtain ⟨_, _, _, _, e⟩ := h; exact ⟨_, e⟩
    · obtain ⟨_, _, _, _, o, _, _, e, _⟩ := h; exact ⟨o, e⟩
    · obtain ⟨_, _, _, _, o, _, _, e, _⟩ := h; exact ⟨o, e⟩
  obtain ⟨n1, n2, n3⟩ := hu.not
  have ne : ∀ b v, H b = some v → (∀ w, v ≠ .frz o w) → v ≠ u → upd H a (.frz o u) b = some v := fun b v e _ h2 => by
    rw [upd_ne]
    · exact e
    · rintro rfl; rw [ha] at e; cases e; exact h2 rfl
  have nn : ∀ b, H b = none → upd H a (.frz o u) b = none := fun b e => by
    rw [upd_ne]
    · exact e
    · rintro rfl; rw [ha] at e; cases e
  have tp : ∀ b xs, H b = some (.tup xs) → upd H a (.frz o u) b = some (.tup xs) := fun b xs e => ne b _ e (fun _ z => by cases z) fun z => n1 xs z.symm
  have ow : ∀ b x, H b = some (.own x) → upd H a (.frz o u) b = some (.own x) := fun b x e => ne b _ e (fun _ z => by cases z) fun z => n2 x z.symm
  have tb : ∀ b ps, H b = some (.tbl ps) → upd H a (.frz o u) b = some (.tbl ps) := fun b ps e => ne b _ e (fun _ z => by cases z) fun z => n3 ps z.symm
  have st : ∀ b v, ObjOk X.prog X.w H s.heap b v → ObjOk X.prog X.w (upd H a (.frz o u)) s.heap b v := fun b v h => h.stay (fun _ _ _ z => z) (fun c z => ow c b z) fun c xs z => tp c xs z
  have hk : HOk X.prog X.w (upd H a (.frz o u)) s.heap := fun b v e => by
    by_cases hb : b = a
    · subst hb
      rw [upd_same] at e
      cases e
      exact ⟨ho, st b u (I.hok b u ha)⟩
    · rw [upd_ne hb] at e
      exact st b v (I.hok b v e)
  refine ⟨o, ho, I.ok, I.os, I.bare, ⟨I.base.keep, I.base.slot, fun b o e n hx => nn b (I.base.free b o e n hx), I.base.there, fun b xs e => tp b xs (I.base.tups b xs e), fun b o2 u2 e => ?_, fun b ps e => ?_⟩, I.loc, I.cell, nn _ I.free, fun x c e => nn c (I.freeC x c e), fun p hp => ?_, hk, I.len⟩
  · have e1 := I.base.frzs b o2 u2 e
    rw [upd_ne]
    · exact e1
    · rintro rfl
      rw [ha] at e1
      cases e1
      rcases hu with ⟨_, z⟩ | ⟨_, z⟩ | ⟨_, z⟩ <;> cases z
  · obtain ⟨more, e1⟩ := I.base.tbls b ps e
    exact ⟨more, tb b _ e1⟩
  · obtain ⟨h1, h2, h3⟩ := I.pin p hp
    exact ⟨h1, nn _ h2, h3⟩
end
section
variable {CX : CXT} {X : Cx} {c : Cc} {Y : Yc} {G : Nat → Option D} {f : CE} {n : Nat} {σ : St} {H : Hp} {Q : VK}
theorem fix_keys {K : PySem.W.Frag} {H : Hp} {d : Addr} {o : Obj} {kvs : List (L2.Key × V)} {ks : List Int} (hz : kvs.length ≤ sizeLine) (e : kvs.map Prod.fst = ks.map Sum.inl) (hd : H d = some (.frz o (.dK kvs))) : FixOk K (Itk d o kvs) (ks.map .int) fun H2 => Kp H H2 := by
  have hl : kvs.length = ks.length := by have := congrArg List.length e; simpa using this
  refine ⟨by rw [List.length_map]; omega, fun i H2 k => ⟨fun x ex => ?_, fun hi => ⟨k.frz _ _ _ hd, by rw [List.length_map] at hi; omega⟩⟩⟩
  have hi : i < ks.length := by have := (List.getElem?_eq_some_iff.mp ex).1; rwa [List.length_map] at this
  refine ⟨⟨k.frz _ _ _ hd, by omega⟩, fun y H' ⟨e1, kk, vv, e2, e3⟩ => ?_⟩
  subst e1 e3
  refine ⟨Same.refl _, ?_⟩
  have e4 : (kvs.map Prod.fst)[i]? = some kk := by rw [List.getElem?_map, e2]; rfl
  rw [e, List.getElem?_map, List.getElem?_eq_getElem hi] at e4
  rw [List.getElem?_map, List.getElem?_eq_getElem hi] at ex
  cases e4
  cases ex
  simp [Fz, kV]
/-- for x in dict(pairs) -/
theorem snd_dki {a tg : Expr} {p2 pos2 : Pos} {ea : E} {own : List Nat} (C : Ck CX X c Y G f n) (hca : c.ca = true) (hg2 : isGl c "dict" = true) (ha : PE X a (tE X.K Y (ev G f ea))) (hp : plainE a = true) :
    PI X tg (.Call (.Name "dict" p2) [a] [] pos2) (tI X.K Y (bd (ev G f (.dkl ea)) (srcOf own))) := by
  have d1 := pe_callTy (pos := pos2) (p := p2) (call_dictP (C.calm hca)) (gl_of C hg2) (C.bi _ (by decide +kernel)) rfl (pa_cons ha pa_nil (plainE_star hp [] X.env)) (by decide) (by decide) (plainE_star hp [] X.env) rfl
  refine (pi_keys (tg := tg) (pe_ge d1)).to fun σ H R w => ?_
  obtain ⟨r, g, w⟩ := w
  have w := w.bd
  simp only [ev] at w
  refine ⟨r, g, w.bd.mono (fun _ _ z => z) fun ob r1 e q x H1 p1 o1 => ?_⟩
  obtain ⟨d, h1, e1, q⟩ := q.bd.rd1 p1.gd o1
  obtain ⟨v, e2, q⟩ := q.bd.opt
  cases d with
  | list ps =>
    obtain ⟨ks, e3, rfl⟩ := Option.map_eq_some_iff.mp (show (keysOf ps).map _ = some v from e2)
    have q : ∀ J H', Post X.K Y.T r σ H r1 H' → SrcV X.K σ H r1 H' J (.fixed ((onceI [] ks).map .int)) → R J H' := q
    obtain ⟨a, ys, rfl, h3, h4⟩ := h1.list
    obtain ⟨as, kvs, rfl, h5, h6⟩ := pairs_of e3 h4
    refine ⟨a, as, kvs, rfl, h3, h5, fun b hb pins s I => ?_⟩
    have I0 := I
    obtain ⟨o, ho, I2⟩ := frzM_at I (.inr (.inl ⟨_, rfl⟩)) upd_same
    have s1 := same_upd (o := .dK (mergeK [] kvs)) hb
    have s2 : Same H1 (upd (upd H1 b (.dK (mergeK [] kvs))) b (.frz o (.dK (mergeK [] kvs)))) := fun x ox ex => by
      have hx : x ≠ b := fun z => by subst z; rw [hb] at ex; cases ex
      rw [upd_ne hx, upd_ne hx]; exact ex
    refine ⟨_, I2, b, o, rfl, .inl ⟨_, upd_same, q _ _ (p1.trans (.same p1.gd s2)) ⟨[], fun _ h => absurd h List.not_mem_nil, fun _ h => absurd h List.not_mem_nil, ?_⟩⟩⟩
    have hz : (mergeK [] kvs).length ≤ sizeLine := (I0.hok b _ upd_same).1
    have fk := fix_keys (K := X.K) hz (keys_merge kvs [] ks [] h6 rfl) (H := upd (upd H1 b (.dK (mergeK [] kvs))) b (.frz o (.dK (mergeK [] kvs)))) upd_same
    exact ⟨fk.1, fun i H3 hp3 => fk.2 i H3 hp3.1⟩
  | _ => cases e2
end
end Fw

/-! Fw: THE SOUNDNESS of expressions -/
namespace Fw
open PySem PySem.Spec PyProof.Rows L2

/-! ### contexts of blocks -/
theorem ownOf_mem {N : List Str} {sc : Scope} {x : Str} {i : Nat} : (x, i) ∈ ownOf N sc ↔ ixOf x N = some i ∧ ((x, NameKind.local) ∈ sc.names ∨ (x, NameKind.cell) ∈ sc.names) := by
  unfold ownOf
  rw [List.mem_filterMap]
  constructor
  · rintro ⟨⟨y, k⟩, hy, e⟩
    cases k with
    | «local» =>
      obtain ⟨j, h1, h2⟩ := Option.map_eq_some_iff.mp e
      cases h2
      exact ⟨h1, .inl hy⟩
    | cell =>
      obtain ⟨j, h1, h2⟩ := Option.map_eq_some_iff.mp e
      cases h2
      exact ⟨h1, .inr hy⟩
    | _ => cases e
  · rintro ⟨h1, h2 | h2⟩
    · exact ⟨_, h2, by simp [h1]⟩
    · exact ⟨_, h2, by simp [h1]⟩
theorem own_st {N : List Str} {sc : Scope} {x : Str} (h : ((ownOf N sc).map Prod.fst).contains x = true) : ∃ i, (x, i) ∈ ownOf N sc := by
  have h := List.contains_iff_mem.mp h
  obtain ⟨⟨y, i⟩, h1, h2⟩ := List.mem_map.mp h
  cases h2
  exact ⟨i, h1⟩
theorem own_tg {c : Cc} {m : Nat} {sc : Scope} {e : Expr} {t : Tg} {c2 : Cc} (hN : c2.N = c.N) (hst : c2.st = (ownOf c.N sc).map Prod.fst) (h : cTg c2 m e = some t) : ∀ i ∈ tgSl t, i ∈ (ownOf c.N sc).map Prod.snd := by
  intro i hi
  obtain ⟨x, h1, h2⟩ := (cTg_sl m).1 e t h i hi
  rw [hst] at h1
  obtain ⟨j, hj⟩ := own_st h1
  have e1 : ixOf x c.N = some i := by
    rw [← hN]
    unfold slotOf at h2
    split at h2 <;> first | exact h2 | cases h2
  have e2 := (ownOf_mem.mp hj).1
  rw [e1] at e2
  cases e2
  exact List.mem_map.mpr ⟨_, hj, rfl⟩
section
variable {CX : CXT} {X : Cx} {c : Cc} {Y : Yc} {G : Nat → Option D} {f : CE} {n : Nat}
theorem ck_lc {scope : Scope} (C : Ck CX X c Y G f n) (ok : BlkOk X.N X.env.scope scope (ownOf c.N scope)) (s : Shared) (H : Hp) (Ca : Addr) (cl : List (Str × Addr)) (fp : List Addr) (hh : c.hb = true → HotT (X.blk s H scope (compEnvC scope cl Ca X.env) fp)) :
    Ck CX (X.blk s H scope (compEnvC scope cl Ca X.env) fp) { c with sc := relS scope c.sc, st := (ownOf c.N scope).map Prod.fst, hc := false } Y.no G f n where
  N := C.N
  nd := C.nd
  sc := by
    show relS scope X.env.scope = relS scope c.sc
    rw [C.sc]
  calm := C.calm
  hot := hh
  hbca := C.hbca
  hchb := fun h => by cases h
  roomH := fun h => by cases h
  un := C.un
  xnd := C.xnd
  xcl := C.xcl
  xsub := C.xsub
  room := C.room
  bi := C.bi
  gcd := C.gcd
  glo := C.glo
  fn := C.fn
  fnH := C.fnH
  pass := fun pins σ H s e s' I z => absurd z (C.cxf _ _ _ _ _)
  cxf := C.cxf
  code := C.code
  st := fun x h => by
    obtain ⟨i, hi⟩ := own_st h
    obtain ⟨_, h2⟩ := ownOf_mem.mp hi
    rcases h2 with h2 | h2
    · have e := ok.uniq _ h2
      exact .inl (lookup_relS_keep (by decide) e)
    · have e := ok.uniq _ h2
      refine .inr ⟨lookup_relS_keep (by decide) e, ?_⟩
      show (scope.names.lookup x == some .cell) = true
      rw [show scope.names.lookup x = some .cell from e]; rfl
  glo0 := C.glo0
  def0 := C.def0
  N0 := C.N0
theorem ck_gen {scope : Scope} (C : Ck CX X c Y G f n) (hca : c.ca = true) (ok : BlkOk X.N X.env.scope scope (ownOf c.N scope)) (hcell : ∀ y ∈ scope.names, y.2 ≠ .cell) (s4 : Shared) (H4 : Hp) (Ca : Addr) (code : Value) (fp : List Addr) (pn : List (Addr × Obj)) (A' : Around) (hr : Room n A') :
    Ck CX (Xg X s4 H4 (genEnv scope (cloFrom X.env.cells scope.names []) Ca code builtinsNs X.env) fp pn A') { c with sc := scope, st := (ownOf c.N scope).map Prod.fst, gd := false, hc := false } Y.no G f n where
  N := C.N
  nd := C.nd
  sc := rfl
  calm := C.calm
  hot := fun h => by
    have h : c.hb = true := h
    rw [C.hbca h] at hca; cases hca
  hbca := C.hbca
  hchb := fun h => by cases h
  roomH := fun h => by cases h
  un := by have := hr.un; show A'.units + 200 < cLine; omega
  xnd := C.xnd
  xcl := C.xcl
  xsub := C.xsub
  room := fun _ => by
    show Room (n + if false = true then 1 else 0) A'
    rw [if_neg (by decide)]; exact hr
  bi := C.bi
  gcd := C.gcd
  glo := C.glo
  fn := C.fn
  fnH := C.fnH
  pass := fun pins σ H s e s' I z => absurd z (C.cxf _ _ _ _ _)
  cxf := C.cxf
  code := fun h => by cases h
  st := fun x h => by
    obtain ⟨i, hi⟩ := own_st h
    obtain ⟨_, h2⟩ := ownOf_mem.mp hi
    rcases h2 with h2 | h2
    · exact .inl (ok.uniq _ h2)
    · exact absurd rfl (hcell _ h2)
  glo0 := C.glo0
  def0 := C.def0
  N0 := C.N0
end
/-- the tests of a clause -/
theorem snd_tests0 {X : Cx} {Y : Yc} {G : Nat → Option D} {f : CE} : PTs X [] (tT X.K Y (tstO G f none)) := ⟨fun pins s σ H Q I w => pts_nil.run pins s σ H Q I (by
  obtain ⟨r, g, w⟩ := w
  simp only [tstO] at w
  exact w H (.refl g))⟩
theorem snd_tests1 {X : Cx} {Y : Yc} {G : Nat → Option D} {f : CE} {t : Expr} {ie : E} (h : PT X t (tT X.K Y (tsM (ev G f ie)))) : PTs X [t] (tT X.K Y (tstO G f (some ie))) := ⟨fun pins s σ H Q I w => (pts_one h).run pins s σ H Q I (by
  obtain ⟨r, g, w⟩ := w
  simp only [tstO] at w
  exact ⟨r, g, w⟩)⟩
/-! ### the induction -/
structure Snd (X : Cx) (Y : Yc) (G : Nat → Option D) (f : CE) (e : Expr) (ir : E) : Prop where
  pe : PE X e (tE X.K Y (ev G f ir))
  pt : PT X e (tT X.K Y (tsM (ev G f ir)))
  plain : plainE e = true
structure SndL (X : Cx) (Y : Yc) (G : Nat → Option D) (f : CE) (es : List Expr) (irs : List E) : Prop where
  len : es.length = irs.length
  plain : es.all plainE = true
  pa : PA X es (tA X.K Y (evs G f irs))
  and : ∀ ir, foldBool .and irs = some ir → ∀ pos, PE X (.BoolOp .And es pos) (tE X.K Y (ev G f ir)) ∧ PW X (.BoolOp .And es pos) (tT X.K Y (tsM (ev G f ir)))
  or : ∀ ir, foldBool .or irs = some ir → ∀ pos, PE X (.BoolOp .Or es pos) (tE X.K Y (ev G f ir)) ∧ PW X (.BoolOp .Or es pos) (tT X.K Y (tsM (ev G f ir)))
section
variable {X : Cx} {Y : Yc} {G : Nat → Option D} {f : CE}
theorem Snd.mk1 {e : Expr} {ir : E} (h : PE X e (tE X.K Y (ev G f ir))) (ht : testE e = true) (hp : plainE e = true) : Snd X Y G f e ir := ⟨h, sndt_plain h ht, hp⟩
theorem SndL.nil : SndL X Y G f [] [] := ⟨rfl, rfl, snd_nil, fun ir h => (by cases h), fun ir h => (by cases h)⟩
theorem SndL.cons {e : Expr} {es : List Expr} {ir : E} {irs : List E} (h : Snd X Y G f e ir) (hs : SndL X Y G f es irs) : SndL X Y G f (e :: es) (ir :: irs) := by
  refine ⟨by simp [hs.len], by rw [List.all_cons, h.plain, hs.plain]; rfl, snd_cons h.pe h.plain hs.pa, fun z hz pos => ?_, fun z hz pos => ?_⟩
  · cases irs with
    | nil =>
      have : es = [] := List.eq_nil_of_length_eq_zero (by rw [hs.len]; rfl)
      subst this
      cases hz
      exact ⟨pe_one h.pe, pw_and1 h.pt⟩
    | cons b r =>
      simp only [foldBool] at hz
      obtain ⟨w, hw, rfl⟩ := Option.map_eq_some_iff.mp hz
      obtain ⟨h1, h2⟩ := hs.and w hw pos
      cases es with
      | nil => have := hs.len; simp at this
      | cons e2 es => exact ⟨snd_and h.pe h1, (pw_and h.pt h2).to fun σ H Q q => tT_and q⟩
  · cases irs with
    | nil =>
      have : es = [] := List.eq_nil_of_length_eq_zero (by rw [hs.len]; rfl)
      subst this
      cases hz
      exact ⟨pe_one h.pe, pw_or1 h.pt⟩
    | cons b r =>
      simp only [foldBool] at hz
      obtain ⟨w, hw, rfl⟩ := Option.map_eq_some_iff.mp hz
      obtain ⟨h1, h2⟩ := hs.or w hw pos
      cases es with
      | nil => have := hs.len; simp at this
      | cons e2 es => exact ⟨snd_or h.pe h1, (pw_or h.pt h2).to fun σ H Q q => tT_or q⟩
end
theorem opr_bopOf {o : Operator} {b : Bop} (h : bopOf o = some b) : opr b = o := by
  cases o <;> cases h <;> rfl
/-- what is to be shown of each fuel -/
structure All (m : Nat) : Prop where
  e : ∀ (CX : CXT) (X : Cx) (c : Cc) (Y : Yc) (G : Nat → Option D) (f : CE) (n : Nat), Ck CX X c Y G f n → ∀ (e : Expr) (ir : E), cE c m e = some ir → Snd X Y G f e ir
  es : ∀ (CX : CXT) (X : Cx) (c : Cc) (Y : Yc) (G : Nat → Option D) (f : CE) (n : Nat), Ck CX X c Y G f n → ∀ (es : List Expr) (irs : List E), cEs c m es = some irs → SndL X Y G f es irs
  it : ∀ (CX : CXT) (X : Cx) (c : Cc) (Y : Yc) (G : Nat → Option D) (f : CE) (n : Nat), Ck CX X c Y G f n → ∀ (tg e : Expr) (ir : E), cIt c m tg e = some ir → plainE e = true ∧ ∀ (own : List Nat), PI X tg e (tI X.K Y (bd (ev G f ir) (srcOf own)))
  o : ∀ (CX : CXT) (X : Cx) (c : Cc) (Y : Yc) (G : Nat → Option D) (f : CE) (n : Nat), Ck CX X c Y G f n → ∀ (e : Option Expr) (ir : Option E), cO c m e = some ir → PO X e (tO X.K Y (evO G f ir))
theorem all_zero : All 0 :=
  ⟨fun CX X c Y G f n C e ir h => by simp [cE] at h, fun CX X c Y G f n C e ir h => by simp [cEs] at h, fun CX X c Y G f n C tg e ir h => by simp [cIt] at h, fun CX X c Y G f n C e ir h => by simp [cO] at h⟩
theorem cmp_copOf (o : CmpOp) : ∃ q, copOf o = q ∧ cpr q = o := ⟨_, rfl, copOf_cpr o⟩
theorem noCell_ok {sc : Scope} (h : noCell sc = true) : ∀ y ∈ sc.names, y.2 ≠ .cell := fun y hy e => by
  unfold noCell at h
  have := List.all_eq_true.mp h y hy
  simp only [e] at this
  cases this
theorem genFold_ok {it : Expr} (h : isList it = false) (hp : plainE it = true) (env : PySem.Env) : ∀ x, genFold it env x = pure x := by
  intro x
  cases it <;> first | rfl | (cases hp; done) | (cases h; done)
theorem gc_ok {x : Str} {g : Gc} (h : gcTab.lookup x = some g) : (x = "all" ∧ g = .all) ∨ (x = "any" ∧ g = .any) ∨ (x = "sum" ∧ g = .sum) := by
  have e := PySem.mem_of_lookup h
  simpa [gcTab] using e
theorem cE_plain {c : Cc} {m : Nat} {e : Expr} {ir : E} (h : cE c m e = some ir) : plainE e = true := by
  cases m with
  | zero => simp [cE] at h
  | succ m =>
    cases e with
    | Starred _ _ => simp [cE] at h
    | Set _ _ => simp [cE] at h
    | Slice _ _ _ _ => simp [cE] at h
    | _ => rfl
theorem isTupE_ex {e : Expr} (h : isTupE e = true) : ∃ elts kk tpos, e = .Tuple elts kk tpos := by
  cases e <;> first | exact ⟨_, _, _, rfl⟩ | cases h
theorem cIt_plain {c : Cc} {m : Nat} {tg e : Expr} {ir : E} (h : cIt c m tg e = some ir) : plainE e = true := by
  cases m with
  | zero => simp [cIt] at h
  | succ m =>
    cases e with
    | Starred _ _ => unfold cIt at h; exact cE_plain h
    | Set _ _ => unfold cIt at h; exact cE_plain h
    | Slice _ _ _ _ => unfold cIt at h; exact cE_plain h
    | _ => rfl
theorem ifs_cases {f : Expr → Option E} {ifs : List Expr} {ic : Option E} (h : ifsOf f ifs = some ic) : (ifs = [] ∧ ic = none) ∨ ∃ t i1, ifs = [t] ∧ ic = some i1 ∧ f t = some i1 := by
  match ifs, h with
  | [], h => cases h; exact .inl ⟨rfl, rfl⟩
  | [t], h =>
    obtain ⟨i1, q, rfl⟩ := Option.map_eq_some_iff.mp h
    exact .inr ⟨t, i1, rfl, rfl, q⟩
  | _ :: _ :: _, h => cases h
/-- what is walked within a suite: a list -/
theorem hotL_to {K : PySem.W.Frag} {Y : Yc} {G : Nat → Option D} {f : CE} {it : E} {own : List Nat} {σ : St} {H : Hp} {R : It → Hp → Prop} (w : tI K Y (bd (ev G f (.hotL it)) (srcOf own)) σ H R) : iLst K (tE K Y (ev G f it)) σ H R := by
  obtain ⟨r, g, w⟩ := w
  simp only [ev] at w
  refine ⟨r, g, w.bd.bd.mono (fun _ _ z => z) fun o r1 e q x H1 p1 o1 => ?_⟩
  obtain ⟨d, hd, e2, q⟩ := q.bd.rd1 p1.gd o1
  obtain ⟨z, hz, q⟩ := q.bd.opt
  have q : Wd (srcOf own o r1) (exK K Y r σ H) fun s r' => ∀ J H', Post K Y.T r σ H r' H' → SrcV K σ H r' H' J s → R J H' := q
  have hl : ∃ ds, d = .list ds := by cases d <;> first | exact ⟨_, rfl⟩ | cases hz
  obtain ⟨ds, rfl⟩ := hl
  have fin : ∃ a ys, x = .ref a ∧ SqL K H1 a ys ∧ (ys.length ≤ sizeLine → R (Itl K a) H1) := by
    cases o with
    | ref i =>
      have q : Wd ((if own.contains i = true then (opt none : M Src) else bd (isOwn i) fun _ => ret (Src.byref i)) r1) (exK K Y r σ H) fun s r' => ∀ J H', Post K Y.T r σ H r' H' → SrcV K σ H r' H' J s → R J H' := q
      split at q
      · exact q.elim
      · have o1 : σ[i]? = some (some x) := o1
        have q := q.bd
        unfold isOwn at q
        have q : ∀ J H', Post K Y.T r σ H r1 H' → SrcV K σ H r1 H' J (.byref i) → R J H' := by
          cases e : r1[i]? with
          | none => rw [e] at q; exact q.elim
          | some z =>
            rw [e] at q
            cases z with
            | no => exact q.elim
            | fz d => exact q.elim
            | ow d => exact q
        obtain ⟨a, ys, rfl, h3, _⟩ := hd.list
        exact ⟨a, ys, rfl, h3, fun _ => q _ H1 p1 ⟨a, o1, rfl⟩⟩
    | val d =>
      obtain ⟨s, hs, q⟩ := Wd.opt (show Wd (opt ((seqOf d).map Src.fixed) r1) (exK K Y r σ H) (fun s r' => ∀ J H', Post K Y.T r σ H r' H' → SrcV K σ H r' H' J s → R J H') from q)
      obtain rfl : d = .list ds := by cases e2; rfl
      cases hs
      exact src_list p1 (.inl o1) (fun a _ => .inl o1) fun J hJ => q J H1 p1 hJ
    | new d =>
      obtain ⟨s, hs, q⟩ := Wd.opt (show Wd (opt ((seqOf d).map Src.fixed) r1) (exK K Y r σ H) (fun s r' => ∀ J H', Post K Y.T r σ H r' H' → SrcV K σ H r' H' J s → R J H') from q)
      obtain rfl : d = .list ds := by cases e2; rfl
      cases hs
      exact src_list p1 (.inr o1.1) (fun a e => .inr ⟨fun z => absurd (o1.2 a e) (p1.own_some g a z), o1.2 a e⟩) fun J hJ => q J H1 p1 hJ
  obtain ⟨a, ys, e, h1, h2⟩ := fin
  exact ⟨a, ys, e, h1, h2⟩
theorem tLc_to {wi wi' : TI} {g : TG} {tt : TT} {te : TE} {vs : List Nat} (h : ∀ σ H R, wi' σ H R → wi σ H R) : ∀ σ H Q, tLc wi' g tt te vs σ H Q → tLc wi g tt te vs σ H Q := fun σ H Q w => h σ H _ w
theorem all_e {m : Nat} (A : All m) (CX : CXT) (X : Cx) (c : Cc) (Y : Yc) (G : Nat → Option D) (f : CE) (n : Nat) (C : Ck CX X c Y G f n) (e : Expr) (ir : E) (h : cE c (m + 1) e = some ir) : Snd X Y G f e ir := by
  unfold cE at h
  split at h
  case h_1 e x pos =>
    split at h
    · rename_i i hi
      cases h
      exact .mk1 (snd_var C hi) rfl rfl
    · split at h
      · rename_i hg
        obtain ⟨k, hk, rfl⟩ := Option.map_eq_some_iff.mp h
        exact .mk1 (snd_glob C hg hk) rfl rfl
      · cases h
  case h_2 => cases h; exact .mk1 snd_int rfl rfl
  case h_3 => cases h; exact .mk1 snd_bl rfl rfl
  case h_4 => cases h; exact .mk1 snd_non rfl rfl
  case h_5 => cases h; exact .mk1 snd_str rfl rfl
  case h_6 e es k pos =>
    split at h
    · rename_i hl
      split at h
      · rename_i a es' hst
        obtain ⟨ia, h1, h⟩ := Option.bind_eq_some_iff.mp h
        obtain ⟨irs, h2, rfl⟩ := Option.map_eq_some_iff.mp h
        have S := A.es CX X c Y G f n C es' irs h2
        unfold starOf at hst
        split at hst
        · cases hst
          exact .mk1 (snd_tupS (by rw [← S.len]; simp only [List.length_cons] at hl; omega) (A.e CX X c Y G f n C a ia h1).pe S.pa) rfl rfl
        · cases hst
      · obtain ⟨irs, h1, rfl⟩ := Option.map_eq_some_iff.mp h
        have S := A.es CX X c Y G f n C es irs h1
        exact .mk1 (snd_tup (by rw [← S.len]; exact hl) S.pa) rfl rfl
    · cases h
  case h_7 e es pos =>
    split at h
    · rename_i hl
      obtain ⟨irs, h1, rfl⟩ := Option.map_eq_some_iff.mp h
      have S := A.es CX X c Y G f n C es irs h1
      exact .mk1 (snd_lst (by rw [← S.len]; exact hl) S.pa) rfl rfl
    · cases h
  case h_8 e a o b pos =>
    obtain ⟨o', h1, h⟩ := Option.bind_eq_some_iff.mp h
    obtain ⟨ia, h2, h⟩ := Option.bind_eq_some_iff.mp h
    obtain ⟨ib, h3, rfl⟩ := Option.map_eq_some_iff.mp h
    have e1 := opr_bopOf h1
    subst e1
    exact .mk1 (snd_bin (A.e CX X c Y G f n C a ia h2).pe (A.e CX X c Y G f n C b ib h3).pe) rfl rfl
  case h_9 e a pos =>
    obtain ⟨ia, h2, rfl⟩ := Option.map_eq_some_iff.mp h
    exact .mk1 (snd_neg (A.e CX X c Y G f n C a ia h2).pe) rfl rfl
  case h_10 e a pos =>
    obtain ⟨ia, h2, rfl⟩ := Option.map_eq_some_iff.mp h
    have S := A.e CX X c Y G f n C a ia h2
    exact ⟨snd_not S.pe, sndt_not S.pt, rfl⟩
  case h_11 e es pos =>
    obtain ⟨irs, h1, h2⟩ := Option.bind_eq_some_iff.mp h
    obtain ⟨q1, q2⟩ := (A.es CX X c Y G f n C es irs h1).and ir h2 pos
    exact ⟨q1, q2.pt, rfl⟩
  case h_12 e es pos =>
    obtain ⟨irs, h1, h2⟩ := Option.bind_eq_some_iff.mp h
    obtain ⟨q1, q2⟩ := (A.es CX X c Y G f n C es irs h1).or ir h2 pos
    exact ⟨q1, q2.pt, rfl⟩
  case h_13 e a o b pos =>
    obtain ⟨ia, h2, h⟩ := Option.bind_eq_some_iff.mp h
    obtain ⟨ib, h3, rfl⟩ := Option.map_eq_some_iff.mp h
    have Sa := A.e CX X c Y G f n C a ia h2
    have Sb := A.e CX X c Y G f n C b ib h3
    obtain ⟨q, hq, hq2⟩ := cmp_copOf o
    rw [hq, ← hq2]
    exact ⟨snd_cmp C Sa.pe Sb.pe Sb.plain, sndt_cmp C Sa.pe Sb.pe Sb.plain, rfl⟩
  case h_14 e a o p b d pos =>
    obtain ⟨ia, h2, h⟩ := Option.bind_eq_some_iff.mp h
    obtain ⟨ib, h3, h⟩ := Option.bind_eq_some_iff.mp h
    obtain ⟨id, h4, rfl⟩ := Option.map_eq_some_iff.mp h
    have Sa := A.e CX X c Y G f n C a ia h2
    have Sb := A.e CX X c Y G f n C b ib h3
    have Sd := A.e CX X c Y G f n C d id h4
    obtain ⟨q, hq, hq2⟩ := cmp_copOf o
    obtain ⟨q', hq', hq2'⟩ := cmp_copOf p
    rw [hq, ← hq2, hq', ← hq2']
    exact ⟨snd_chain C Sa.pe Sb.pe Sd.pe Sd.plain, sndt_chain C Sa.pe Sb.pe Sd.pe Sd.plain, rfl⟩
  case h_15 e t a b pos =>
    obtain ⟨it, h2, h⟩ := Option.bind_eq_some_iff.mp h
    obtain ⟨ia, h3, h⟩ := Option.bind_eq_some_iff.mp h
    obtain ⟨ib, h4, rfl⟩ := Option.map_eq_some_iff.mp h
    have St := A.e CX X c Y G f n C t it h2
    have Sa := A.e CX X c Y G f n C a ia h3
    have Sb := A.e CX X c Y G f n C b ib h4
    exact ⟨snd_ite St.pt Sa.pe Sb.pe, sndt_ite St.pt Sa.pt Sb.pt, rfl⟩
  case h_16 e a k p1 p2 p3 pos =>
    obtain ⟨ia, h2, rfl⟩ := Option.map_eq_some_iff.mp h
    exact .mk1 (snd_rev (A.e CX X c Y G f n C a ia h2).pe) rfl rfl
  case h_17 e a lo hi p2 pos =>
    obtain ⟨ia, h2, h⟩ := Option.bind_eq_some_iff.mp h
    obtain ⟨ilo, h3, h⟩ := Option.bind_eq_some_iff.mp h
    obtain ⟨ihi, h4, rfl⟩ := Option.map_eq_some_iff.mp h
    exact .mk1 (snd_sl (A.e CX X c Y G f n C a ia h2).pe (A.o CX X c Y G f n C lo ilo h3) (A.o CX X c Y G f n C hi ihi h4)) rfl rfl
  case h_18 e a b pos _ _ =>
    obtain ⟨ia, h2, h⟩ := Option.bind_eq_some_iff.mp h
    obtain ⟨ib, h3, rfl⟩ := Option.map_eq_some_iff.mp h
    have Sb := A.e CX X c Y G f n C b ib h3
    exact .mk1 (snd_ix (A.e CX X c Y G f n C a ia h2).pe Sb.pe Sb.plain) rfl rfl
  case h_19 e x px mth apos args pos =>
    split at h
    · cases h
    · rename_i i hi
      split at h
      · split at h
        · rename_i hc
          cases h
          rw [Bool.and_eq_true] at hc
          have e1 : mth = "pop" := eq_of_beq hc.1
          subst e1
          exact .mk1 (snd_pop C hi hc.2) rfl rfl
        · cases h
      · rename_i b
        split at h
        · rename_i hc
          rw [Bool.and_eq_true] at hc
          have e1 : mth = "index" := eq_of_beq hc.1
          subst e1
          obtain ⟨ib, q1, rfl⟩ := Option.map_eq_some_iff.mp h
          have S := A.e CX X c Y G f n C b ib q1
          exact .mk1 (snd_idx C hi S.plain hc.2 S.pe) rfl rfl
        · cases h
      · cases h
  case h_20 e fn p elt tg it ifs scope gpos pos =>
    split at h
    · rename_i hg
      split at h
      · cases h
      · rename_i g hgc
        split at h
        · rename_i hc
          simp only [Bool.and_eq_true, Bool.not_eq_true'] at hc
          obtain ⟨⟨⟨⟨⟨⟨⟨h1, hca⟩, h2⟩, h3⟩, h4⟩, h5⟩, h6⟩, h7⟩ := hc
          obtain ⟨iit, q1, h⟩ := Option.bind_eq_some_iff.mp h
          obtain ⟨itg, q2, h⟩ := Option.bind_eq_some_iff.mp h
          obtain ⟨ie, q3, h⟩ := Option.bind_eq_some_iff.mp h
          have ok : BlkOk X.N X.env.scope scope (ownOf c.N scope) := by rw [C.N, C.sc]; exact blkOk_by h2
          have hcell := noCell_ok h3
          have hdot : scope.names.lookup (".0" : Str) = some NameKind.local := by
            unfold dotOk at h6
            split at h6
            · assumption
            · cases h6
          obtain ⟨hpl, hi⟩ := A.it CX X c Y G f n C tg it iit q1
          have htg := own_tg (c := c) (c2 := { c with sc := scope, st := (ownOf c.N scope).map Prod.fst, gd := false, hc := false }) rfl rfl q2
          have ck := fun s4 H4 Ca code fp pn A' hr => ck_gen C hca ok hcell s4 H4 Ca code fp pn A' hr
          have key : ∀ (ic : Option E), (∀ s4 H4 Ca code fp pn A', Room n A' → PTs (Xg X s4 H4 (genEnv scope (cloFrom X.env.cells scope.names []) Ca code builtinsNs X.env) fp pn A') ifs (tT X.K Y.no (tstO G f ic))) →
              Snd X Y G f (.Call (.Name fn p) [.GeneratorExp elt [⟨tg, it, ifs, 0⟩] scope gpos] [] pos) (.gen g ie itg iit ic ((ownOf c.N scope).map Prod.snd)) := fun ic ht => by
            have hb : ∀ (s4 : Shared) (H4 : Hp) (Ca : Addr) (code : Value) (fp : List Addr) (pn : List (Addr × Obj)) (A' : Around), Room n A' → 
                PG (Xg X s4 H4 (genEnv scope (cloFrom X.env.cells scope.names []) Ca code builtinsNs X.env) fp pn A') tg (tG X.K Y.T itg) ∧
                PTs (Xg X s4 H4 (genEnv scope (cloFrom X.env.cells scope.names []) Ca code builtinsNs X.env) fp pn A') ifs (tT X.K Y.no (tstO G f ic)) ∧
                PE (Xg X s4 H4 (genEnv scope (cloFrom X.env.cells scope.names []) Ca code builtinsNs X.env) fp pn A') elt (tFz (tE X.K Y.no (ev G f ie))) := fun s4 H4 Ca code fp pn A' hr =>
              ⟨(snd_tg (ck s4 H4 Ca code fp pn A' hr) m).1 tg itg q2, ht s4 H4 Ca code fp pn A' hr, pe_fz (A.e CX _ _ _ G f n (ck s4 H4 Ca code fp pn A' hr) elt ie q3).pe⟩
            rcases gc_ok hgc with ⟨e1, e2⟩ | ⟨e1, e2⟩ | ⟨e1, e2⟩
            · subst e1 e2
              exact .mk1 (snd_all C hca h1 hg (hi _) ok hcell h4 hdot (genFold_ok h5 hpl _) htg hb) rfl rfl
            · subst e1 e2
              exact .mk1 (snd_any C hca h1 hg (hi _) ok hcell h4 hdot (genFold_ok h5 hpl _) htg hb) rfl rfl
            · subst e1 e2
              exact .mk1 (snd_sum C hca h1 hg (hi _) ok hcell h4 hdot (genFold_ok h5 hpl _) htg hb) rfl rfl
          cases ifs with
          | nil =>
            cases h
            exact key none fun s4 H4 Ca code fp pn A' hr => snd_tests0 (X := Xg X s4 H4 (genEnv scope (cloFrom X.env.cells scope.names []) Ca code builtinsNs X.env) fp pn A') (Y := Y.no)
          | cons t rest =>
            cases rest with
            | nil =>
              obtain ⟨ic, q4, rfl⟩ := Option.map_eq_some_iff.mp h
              exact key (some ic) fun s4 H4 Ca code fp pn A' hr => snd_tests1 (A.e CX _ _ _ G f n (ck s4 H4 Ca code fp pn A' hr) t ic q4).pt
            | cons _ _ => cases h
        · cases h
    · cases h
  case h_21 e fn p args pos _ =>
    split at h
    · rename_i hg
      have hgl := gl_of C hg
      split at h
      · rename_i io hd
        split at h
        · cases h
        rename_i hch
        split at h
        · cases h
        · rename_i k hk
          have hdb : (fn == ("__debug__" : Str)) = false := beq_eq_false_iff_ne.mpr (C.def0 fn (ixOf_mem hk)).1
          cases hca : c.ca with
          | false =>
            have hch : (io || args.isEmpty || !(c.hc && c.hot.contains fn)) = false := by rw [hca] at hch; simpa using hch
            simp only [Bool.or_eq_false_iff, Bool.not_eq_false', Bool.and_eq_true] at hch
            obtain ⟨⟨hio, hne⟩, hhc, hht⟩ := hch
            subst hio
            rw [if_neg (by simp)] at h
            obtain ⟨irs, q1, rfl⟩ := Option.map_eq_some_iff.mp h
            have S := A.es CX X c Y G f n C args irs q1
            obtain ⟨fa, fd, ps, np, f1, f2, f3, f4, f5⟩ := C.fnH fn k hht hd hk
            cases args with
            | nil => cases hne
            | cons a0 as0 => exact .mk1 (snd_callH C (C.hot (C.hchb hhc)) (C.roomH hhc) f5 hgl f1 f2 f3 hdb S.pa S.plain f4) rfl rfl
          | true =>
          have hch : c.hot.contains fn = false := by rw [hca] at hch; simpa using hch
          obtain ⟨fa, fd, ps, np, f1, f2, f3, f4, f5⟩ := C.fn hca fn io k hch hd hk
          split at h
          · rename_i hio
            subst hio
            split at h
            · split at h
              · rename_i x px rest _ _ i hi
                obtain ⟨irs, q1, rfl⟩ := Option.map_eq_some_iff.mp h
                have S := A.es CX X c Y G f n C rest irs q1
                exact .mk1 (snd_callM C hca f5 hgl f1 f2 f3 hdb hi S.pa S.plain f4) rfl rfl
              · cases h
            · cases h
          · rename_i hio
            have hio : io = false := by simpa using hio
            subst hio
            obtain ⟨irs, q1, rfl⟩ := Option.map_eq_some_iff.mp h
            have S := A.es CX X c Y G f n C args irs q1
            exact .mk1 (snd_call C hca f5 hgl f1 f2 f3 hdb S.pa S.plain S.len f4) rfl rfl
      · split at h
        · rename_i hfn
          have e1 : fn = "isinstance" := eq_of_beq hfn
          subst e1
          split at h
          · split at h
            · rename_i hgt
              split at h
              · rename_i a t p2 _ _ ty hty
                obtain ⟨ia, q1, rfl⟩ := Option.map_eq_some_iff.mp h
                have S := A.e CX X c Y G f n C a ia q1
                exact .mk1 (snd_isi C hty hg hgt S.pe S.plain) rfl rfl
              · split at h
                · rename_i hx
                  obtain ⟨ia, q1, rfl⟩ := Option.map_eq_some_iff.mp h
                  have S := A.e CX X c Y G f n C _ ia q1
                  exact .mk1 (snd_isx C hx C.xnd hg hgt S.pe S.plain) rfl rfl
                · cases h
            · cases h
          · cases h
        · split at h
          · rename_i g a hrev
            have hl : ∃ p2 pos2, fn = "list" ∧ args = [.Call (.Name g p2) [a] [] pos2] := by
              unfold revArg at hrev
              split at hrev
              · rename_i hl
                split at hrev
                · have e2 := Option.some.inj hrev
                  injection e2 with e2 e3
                  subst e2
                  subst e3
                  exact ⟨_, _, eq_of_beq hl, rfl⟩
                · cases hrev
              · cases hrev
            obtain ⟨p2, pos2, rfl, rfl⟩ := hl
            split at h
            · cases h
            rename_i hca
            have hca : c.ca = true := by simpa using hca
            split at h
            · rename_i hg2
              rw [Bool.and_eq_true] at hg2
              obtain ⟨ia, q1, rfl⟩ := Option.map_eq_some_iff.mp h
              have S := A.e CX X c Y G f n C a ia q1
              have e4 := eq_of_beq hg2.1
              subst e4
              exact .mk1 (snd_lstRev C hca hg hg2.2 S.pe S.plain) rfl rfl
            · split at h
              · rename_i hg2
                rw [Bool.and_eq_true] at hg2
                obtain ⟨ia, q1, rfl⟩ := Option.map_eq_some_iff.mp h
                have S := A.e CX X c Y G f n C a ia q1
                have e4 := eq_of_beq hg2.1
                subst e4
                exact .mk1 (snd_lrng C hca hg hg2.2 S.pe S.plain) rfl rfl
              · split at h
                · rename_i hg2
                  rw [Bool.and_eq_true] at hg2
                  obtain ⟨ia, q1, rfl⟩ := Option.map_eq_some_iff.mp h
                  have S := A.e CX X c Y G f n C a ia q1
                  have e4 := eq_of_beq hg2.1
                  subst e4
                  exact .mk1 (snd_dkl C hca hg hg2.2 S.pe S.plain) rfl rfl
                · cases h
          · split at h
            · rename_i b hb
              split at h
              · cases h
              · rename_i hgcd
                obtain ⟨irs, q1, rfl⟩ := Option.map_eq_some_iff.mp h
                have S := A.es CX X c Y G f n C args irs q1
                have hgcd : (b == .gcd && !c.gcd || !c.ca && !hotBi b) = false := by simpa using hgcd
                rw [Bool.or_eq_false_iff] at hgcd
                refine .mk1 (snd_bi C hb (fun e => ?_) ?_ hg S.pa S.plain S.len) rfl rfl
                · subst e
                  simpa using hgcd.1
                · have := hgcd.2
                  cases hc : c.ca with
                  | true => exact .inl rfl
                  | false => exact .inr (by simpa [hc] using this)
            · cases h
    · cases h
  case h_22 e elt tg it ifs scope pos =>
    dsimp only at h
    split at h
    · cases h
    · rename_i hb
      have hb : ((c.ca || c.hb) && blkC c.N c.sc scope (ownOf c.N scope)) = true := by simpa using hb
      rw [Bool.and_eq_true] at hb
      obtain ⟨iit, q1, h⟩ := Option.bind_eq_some_iff.mp h
      obtain ⟨itg, q2, h⟩ := Option.bind_eq_some_iff.mp h
      obtain ⟨ie, q3, h⟩ := Option.bind_eq_some_iff.mp h
      have ok : BlkOk X.N X.env.scope scope (ownOf c.N scope) := by rw [C.N, C.sc]; exact blkOk_by hb.2
      have htg := own_tg (c := c) (c2 := { c with sc := relS scope c.sc, st := (ownOf c.N scope).map Prod.fst, hc := false }) rfl rfl q2
      have ck := fun s H Ca cl fp => ck_lc C ok s H Ca cl fp
      have key : ∀ (ic : Option E), (∀ s H Ca cl fp, (c.hb = true → HotT (X.blk s H scope (compEnvC scope cl Ca X.env) fp)) → PTs (X.blk s H scope (compEnvC scope cl Ca X.env) fp) ifs (tT X.K Y.no (tstO G f ic))) → Snd X Y G f (.ListComp elt [⟨tg, it, ifs, 0⟩] scope pos) (.lc ie itg iit ic ((ownOf c.N scope).map Prod.snd)) := fun ic ht => by
        cases hc : c.ca with
        | true =>
          have nh : c.hb = true → False := fun z => by rw [C.hbca z] at hc; cases hc
          rw [hc, if_pos rfl] at q1
          obtain ⟨hpl, hi⟩ := A.it CX X c Y G f n C tg it iit q1
          exact .mk1 ((pe_lc (C.calm hc) C.nd (hi _) ok (fun s H Ca cl fp => (snd_tg (ck s H Ca cl fp fun z => (nh z).elim) m).1 tg itg q2) (fun s H Ca cl fp => ht s H Ca cl fp fun z => (nh z).elim) (fun s H Ca cl fp => pe_fz (A.e CX _ _ _ G f n (ck s H Ca cl fp fun z => (nh z).elim) elt ie q3).pe) (plainE_fold hpl _)).to fun σ H Q w => lc_to htg w) rfl rfl
        | false =>
          have hhb : c.hb = true := by simpa [hc] using hb.1
          rw [hc, if_neg (by decide)] at q1
          obtain ⟨it0, q1', rfl⟩ := Option.map_eq_some_iff.mp q1
          have S := A.e CX X c Y G f n C it it0 q1'
          exact .mk1 ((pe_lcH (C.hot hhb) C.nd S.pe ok ⟨fun s H Ca cl fp z => (snd_tg (ck s H Ca cl fp fun _ => z) m).1 tg itg q2, fun s H Ca cl fp z => ht s H Ca cl fp fun _ => z, fun s H Ca cl fp z => pe_fz (A.e CX _ _ _ G f n (ck s H Ca cl fp fun _ => z) elt ie q3).pe⟩ (plainE_fold S.plain _)).to fun σ H Q w => tLc_to (fun σ H R => hotL_to) _ _ _ (lc_to htg w)) rfl rfl
      cases ifs with
      | nil =>
        cases h
        exact key none fun s H Ca cl fp _ => snd_tests0 (X := X.blk s H scope (compEnvC scope cl Ca X.env) fp) (Y := Y.no)
      | cons t rest =>
        cases rest with
        | nil =>
          obtain ⟨ic, q4, rfl⟩ := Option.map_eq_some_iff.mp h
          exact key (some ic) fun s H Ca cl fp z => snd_tests1 (A.e CX _ _ _ G f n (ck s H Ca cl fp z) t ic q4).pt
        | cons _ _ => cases h
  case h_23 elt tg it ifs tg2 it2 ifs2 scope pos =>
    dsimp only at h
    split at h
    · cases h
    · rename_i hb
      have hb : (c.ca && blkC c.N c.sc scope (ownOf c.N scope)) = true := by simpa using hb
      rw [Bool.and_eq_true] at hb
      obtain ⟨hca, hb⟩ := hb
      have nh : c.hb = true → False := fun z => by rw [C.hbca z] at hca; cases hca
      obtain ⟨iit, q1, h⟩ := Option.bind_eq_some_iff.mp h
      obtain ⟨itg, q2, h⟩ := Option.bind_eq_some_iff.mp h
      obtain ⟨ic, q3, h⟩ := Option.bind_eq_some_iff.mp h
      obtain ⟨iit2, q4, h⟩ := Option.bind_eq_some_iff.mp h
      obtain ⟨itg2, q5, h⟩ := Option.bind_eq_some_iff.mp h
      obtain ⟨ic2, q6, h⟩ := Option.bind_eq_some_iff.mp h
      obtain ⟨ie, q7, rfl⟩ := Option.map_eq_some_iff.mp h
      have ok : BlkOk X.N X.env.scope scope (ownOf c.N scope) := by rw [C.N, C.sc]; exact blkOk_by hb
      obtain ⟨hpl, hi⟩ := A.it CX X c Y G f n C tg it iit q1
      have htg := own_tg (c := c) (c2 := { c with sc := relS scope c.sc, st := (ownOf c.N scope).map Prod.fst, hc := false }) rfl rfl q2
      have htg2 := own_tg (c := c) (c2 := { c with sc := relS scope c.sc, st := (ownOf c.N scope).map Prod.fst, hc := false }) rfl rfl q5
      have ck := fun s H Ca cl fp => ck_lc C ok s H Ca cl fp fun z => (nh z).elim
      have ts : ∀ {ifs : List Expr} {ic : Option E}, ifsOf (cE { c with sc := relS scope c.sc, st := (ownOf c.N scope).map Prod.fst, hc := false } m) ifs = some ic → ∀ s H Ca cl fp, PTs (X.blk s H scope (compEnvC scope cl Ca X.env) fp) ifs (tT X.K Y.no (tstO G f ic)) := fun {ifs ic} q => by
        rcases ifs_cases q with ⟨rfl, rfl⟩ | ⟨t, i1, rfl, rfl, p5⟩
        · exact fun s H Ca cl fp => snd_tests0 (X := X.blk s H scope (compEnvC scope cl Ca X.env) fp) (Y := Y.no)
        · exact fun s H Ca cl fp => snd_tests1 (A.e CX _ _ _ G f n (ck s H Ca cl fp) t i1 p5).pt
      have hp2 : plainE it2 = true := cIt_plain q4
      exact .mk1 ((pe_lc2 (vs1 := tgSl itg2) (C.calm hca) C.nd (hi _) ok htg2 (fun s H Ca cl fp => (snd_tg (ck s H Ca cl fp) m).1 tg itg q2) (ts q3) (fun s H Ca cl fp => (A.it CX _ _ _ G f n (ck s H Ca cl fp) tg2 it2 iit2 q4).2 _) (fun s H Ca cl fp => (snd_tg (ck s H Ca cl fp) m).1 tg2 itg2 q5) (ts q6)
        (fun s H Ca cl fp => pe_fz (A.e CX _ _ _ G f n (ck s H Ca cl fp) elt ie q7).pe) (plainE_fold hpl _) (fun env => plainE_fold hp2 env)).to fun σ H Q w => lc2_to htg htg2 (fun _ h => h) w) rfl rfl
  case h_24 => cases h
theorem all_es {m : Nat} (A : All m) (CX : CXT) (X : Cx) (c : Cc) (Y : Yc) (G : Nat → Option D) (f : CE) (n : Nat) (C : Ck CX X c Y G f n) (es : List Expr) (irs : List E) (h : cEs c (m + 1) es = some irs) : SndL X Y G f es irs := by
  cases es with
  | nil => simp only [cEs] at h; cases h; exact .nil
  | cons e es =>
    simp only [cEs] at h
    obtain ⟨ie, q1, h⟩ := Option.bind_eq_some_iff.mp h
    obtain ⟨is, q2, rfl⟩ := Option.map_eq_some_iff.mp h
    exact .cons (A.e CX X c Y G f n C e ie q1) (A.es CX X c Y G f n C es is q2)
theorem all_o {m : Nat} (A : All m) (CX : CXT) (X : Cx) (c : Cc) (Y : Yc) (G : Nat → Option D) (f : CE) (n : Nat) (C : Ck CX X c Y G f n) (e : Option Expr) (ir : Option E) (h : cO c (m + 1) e = some ir) : PO X e (tO X.K Y (evO G f ir)) := by
  cases e with
  | none => simp only [cO] at h; cases h; exact snd_o0
  | some e =>
    simp only [cO] at h
    obtain ⟨ie, q1, rfl⟩ := Option.map_eq_some_iff.mp h
    exact snd_o1 (A.e CX X c Y G f n C e ie q1).pe
theorem all_it {m : Nat} (A : All m) (CX : CXT) (X : Cx) (c : Cc) (Y : Yc) (G : Nat → Option D) (f : CE) (n : Nat) (C : Ck CX X c Y G f n) (tg e : Expr) (ir : E) (h : cIt c (m + 1) tg e = some ir) : plainE e = true ∧ ∀ (own : List Nat), PI X tg e (tI X.K Y (bd (ev G f ir) (srcOf own))) := by
  have plain : cE c m e = some ir → plainE e = true ∧ ∀ (own : List Nat), PI X tg e (tI X.K Y (bd (ev G f ir) (srcOf own))) := fun h =>
    have S := A.e CX X c Y G f n C e ir h
    ⟨S.plain, fun own => snd_src S.pe⟩
  unfold cIt at h
  split at h
  · split at h
    · rename_i hc
      rw [Bool.and_eq_true] at hc
      split at h
      · rename_i hfn
        have e1 := eq_of_beq hfn
        subst e1
        split at h
        · rename_i hl
          obtain ⟨irs, q1, rfl⟩ := Option.map_eq_some_iff.mp h
          have S := A.es CX X c Y G f n C _ irs q1
          exact ⟨rfl, fun own => snd_rng C hc.1 S.pa S.plain S.len hl⟩
        · cases h
      · split at h
        · rename_i hfn
          have e1 := eq_of_beq hfn
          subst e1
          split at h
          · rename_i hb
            rw [Bool.and_eq_true] at hb
            obtain ⟨irs, q1, rfl⟩ := Option.map_eq_some_iff.mp h
            have S := A.es CX X c Y G f n C _ irs q1
            obtain ⟨elts, kk, tpos, rfl⟩ := isTupE_ex hb.1
            exact ⟨rfl, fun own => snd_enum C hc.1 S.pa S.plain S.len (eq_of_beq hb.2)⟩
          · cases h
        · split at h
          · rename_i hfn
            have e1 := eq_of_beq hfn
            subst e1
            split at h
            · rename_i hb
              rw [Bool.and_eq_true] at hb
              obtain ⟨irs, q1, rfl⟩ := Option.map_eq_some_iff.mp h
              have S := A.es CX X c Y G f n C _ irs q1
              obtain ⟨elts, kk, tpos, rfl⟩ := isTupE_ex hb.1
              exact ⟨rfl, fun own => snd_zip C hc.1 S.pa S.plain S.len (eq_of_beq hb.2)⟩
            · cases h
          · split at h
            · cases h
            · split at h
              · rename_i hfn
                have e1 := eq_of_beq hfn
                subst e1
                split at h
                · split at h
                  · rename_i hca
                    obtain ⟨ia, q1, rfl⟩ := Option.map_eq_some_iff.mp h
                    have S := A.e CX X c Y G f n C _ ia q1
                    exact ⟨rfl, fun own => snd_dki C hca hc.1 S.pe S.plain⟩
                  · cases h
                · cases h
              · exact plain h
    · exact plain h
  · exact plain h
theorem all_all : ∀ m, All m
  | 0 => all_zero
  | m + 1 => ⟨all_e (all_all m), all_es (all_all m), all_it (all_all m), all_o (all_all m)⟩
end Fw

/-! Fw: THE SOUNDNESS of statements -/
namespace Fw
open PySem PySem.Spec PyProof.Rows L2

/-! ### readings -/
def sexK (K : PySem.W.Frag) (Y : Yc) (A : List Nat) (r : Env) (σ : St) (H : Hp) (c : Nat) (r' : Env) : Prop := ∀ σ' H', SPost K Y.T A r σ H r' σ' H' → Y.W (Y.xc c) none σ' H'
/-- what is returned: own lists of the def, but the one that was handed in -/
def RvS (io : Bool) (K : PySem.W.Frag) (r : Env) (σ : St) (H H' : Hp) : Rv → V → Prop
  | .val d, z => Fz K H' d z
  | .new d, z => OwD K H' d z ∧ ∀ a, z = .ref a → H a = none ∨ (Own r σ a ∧ (io = true → σ[0]? ≠ some (some (.ref a))))
def EndS (io : Bool) (K : PySem.W.Frag) (r : Env) (σ : St) (H : Hp) (o : Out) (D : Ends) (σ' : St) (H' : Hp) : Prop := match o with
  | .nx => D.nx σ' H'
  | .bk => D.bk σ' H'
  | .ct => D.ct σ' H'
  | .rt v => ∀ z, RvS io K r σ H H' v z → D.rt z H'
def tS (io : Bool) (K : PySem.W.Frag) (Y : Yc) (A : List Nat) (m : M Out) : TS := fun D σ H => ∃ r, Gd K Y.T r σ H ∧ Wd (m r) (sexK K Y A r σ H) fun o r' => ∀ σ' H', SPost K Y.T A r σ H r' σ' H' → EndS io K r σ H o D σ' H'
section
variable {io : Bool} {K : PySem.W.Frag} {Y : Yc} {A B : List Nat} {r r1 r' : Env} {σ σ1 : St} {H H1 : Hp}
theorem sexK.ex (h : ∀ c r', sexK K Y A r σ H c r' → sexK K Y A r σ H c r') : True := trivial
/-- from a statement's wish to an expression's in it -/
theorem sex_ex {c : Nat} {r' : Env} (h : sexK K Y A r σ H c r') : exK K Y r σ H c r' := fun H' p => h σ H' (.of p)
theorem sex_ex2 (p : Post K Y.T r σ H r1 H1) {c : Nat} {r' : Env} (h : sexK K Y A r σ H c r') : exK K Y r1 σ H1 c r' := fun H' q => h σ H' (.of (p.trans q))
theorem sex_trans (p : SPost K Y.T A r σ H r1 σ1 H1) {c : Nat} {r' : Env} (h : sexK K Y A r σ H c r') (hB : ∀ i ∈ B, i ∈ A) : sexK K Y B r1 σ1 H1 c r' := fun σ' H' q => h σ' H' ((p.trans q).wide fun i hi => by
  rcases List.mem_append.mp hi with z | z
  · exact z
  · exact hB i z)
theorem rvs_trans (hio : io = true → 0 ∉ A) (g : Gd K Y.T r σ H) (p : SPost K Y.T A r σ H r1 σ1 H1) {H' : Hp} {v : Rv} {z : V} (h : RvS io K r1 σ1 H1 H' v z) : RvS io K r σ H H' v z := by
  cases v with
  | val d => exact h
  | new d =>
    refine ⟨h.1, fun a e => ?_⟩
    rcases h.2 a e with q | ⟨q1, q2⟩
    · left
      cases w : H a with
      | none => rfl
      | some o => exact absurd q (p.tr a (by rw [w]; simp))
    · rcases p.sub a q1 with q | q
      · exact .inr ⟨q, fun hi => by rw [← p.keep 0 (hio hi)]; exact q2 hi⟩
      · exact .inl q
/-- the rest of a block behind a statement -/
theorem end_trans (hio : io = true → 0 ∉ A) (g : Gd K Y.T r σ H) (p : SPost K Y.T A r σ H r1 σ1 H1) {o : Out} {D : Ends} {σ' : St} {H' : Hp} (h : EndS io K r σ H o D σ' H') : EndS io K r1 σ1 H1 o D σ' H' := by
  cases o with
  | rt v => exact fun z hz => h z (rvs_trans hio g p hz)
  | _ => exact h
theorem tS_cont {m : M Out} {D : Ends} (hio : io = true → 0 ∉ A) (g : Gd K Y.T r σ H) (p : SPost K Y.T A r σ H r1 σ1 H1) (hB : ∀ i ∈ B, i ∈ A) (w : Wd (m r1) (sexK K Y A r σ H) fun o r' => ∀ σ' H', SPost K Y.T A r σ H r' σ' H' → EndS io K r σ H o D σ' H') : tS io K Y B m D σ1 H1 := by
  refine ⟨r1, p.gd, w.mono (fun c r' h => sex_trans p h hB) fun o r' e q σ' H' p2 => ?_⟩
  refine end_trans hio g p (q σ' H' ((p.trans p2).wide fun i hi => ?_))
  rcases List.mem_append.mp hi with z | z
  · exact z
  · exact hB i z
theorem tS_wide {m : M Out} {D : Ends} (hB : ∀ i ∈ B, i ∈ A) (w : tS io K Y A m D σ H) : tS io K Y B m D σ H := by
  obtain ⟨r, g, w⟩ := w
  exact ⟨r, g, w.mono (fun c r' h σ' H' p => h σ' H' (p.wide hB)) fun o r' e q σ' H' p => q σ' H' (p.wide hB)⟩
/-- an expression at a statement's head -/
theorem tS_expr {m : M Op} {k : Op → M Out} {D : Ends} (w : tS io K Y A (bd m k) D σ H) :
    tE K Y m σ H fun v H1 => ∃ r r1 o, Gd K Y.T r σ H ∧ Post K Y.T r σ H r1 H1 ∧ OpV K σ H H1 o v ∧ Wd (k o r1) (sexK K Y A r σ H) fun o r' => ∀ σ' H', SPost K Y.T A r σ H r' σ' H' → EndS io K r σ H o D σ' H' := by
  obtain ⟨r, g, w⟩ := w
  exact ⟨r, g, w.bd.mono (fun _ _ h => sex_ex h) fun o r1 e q v H1 p ho => ⟨r, r1, o, g, p, ho, q⟩⟩
end
/-! ### contexts -/
structure Cks (CX : CXT) (X : Cx) (c : Cc) (Y : Yc) (G : Nat → Option D) (f : CE) (n : Nat) : Prop extends Ck CX X c Y G f n where
  own : PassesOwn (model X.prog X.w) X.A X.env X.xe
  cx : CX = L2N.CX X.prog X.w
  tk : L2N.Takes X Y.W
  stk : X.stack = X.env :: X.outer
  frm : X.env.frame = some X.env.locals
  ex0 : X.ex = []
  blk : X.env.blockKind = .function
section
variable {CX : CXT} {X : Cx} {c : Cc} {Y : Yc} {G : Nat → Option D} {f : CE} {n : Nat} {σ : St} {H : Hp}
/-! ### small statements -/
theorem st_pass {pos : Pos} : PS X (.Pass pos) (tS c.io X.K Y [] (ex G f .pass)) := ps_pass.to fun D σ H w => by
  obtain ⟨r, g, w⟩ := w
  simp only [ex] at w
  exact w σ H (.of (.refl g))
theorem st_brk {pos : Pos} : PS X (.Break pos) (tS c.io X.K Y [] (ex G f .brk)) := ps_break.to fun D σ H w => by
  obtain ⟨r, g, w⟩ := w
  simp only [ex] at w
  exact w σ H (.of (.refl g))
theorem st_cont {pos : Pos} : PS X (.Continue pos) (tS c.io X.K Y [] (ex G f .cont)) := ps_continue.to fun D σ H w => by
  obtain ⟨r, g, w⟩ := w
  simp only [ex] at w
  exact w σ H (.of (.refl g))
theorem st_retN {pos : Pos} : PS X (.Return none pos) (tS c.io X.K Y [] (ex G f .retN)) := ps_retN.to fun D σ H w => by
  obtain ⟨r, g, w⟩ := w
  simp only [ex] at w
  exact w σ H (.of (.refl g)) .non (by show Fz X.K H .none .non; simp [Fz])
theorem st_expr {e : Expr} {pos : Pos} {ie : E} (he : PE X e (tE X.K Y (ev G f ie))) (hc : isComp e = false) : PS X (.Expr e pos) (tS c.io X.K Y [] (ex G f (.expr ie))) := by
  refine (ps_expr he (by cases e <;> first | rfl | cases hc)).to fun D σ H w => ?_
  simp only [ex] at w
  obtain ⟨r, g, w⟩ := tS_expr w
  refine ⟨r, g, w.mono (fun _ _ z => z) fun o r1 e q v H1 p1 o1 => ?_⟩
  obtain ⟨r, r1, o, g, p, ho, q⟩ := q v H1 p1 o1
  exact q σ H1 (.of p)
theorem st_ret {e : Expr} {pos : Pos} {ie : E} (he : PE X e (tE X.K Y (ev G f ie))) : PS X (.Return (some e) pos) (tS c.io X.K Y [] (ex G f (.ret c.io ie))) := by
  refine (ps_ret he).to fun D σ H w => ?_
  simp only [ex] at w
  obtain ⟨r, g, w⟩ := tS_expr w
  refine ⟨r, g, w.mono (fun _ _ z => z) fun o r1 e q v H1 p1 o1 => ?_⟩
  obtain ⟨r, r1, o, g, p, ho, q⟩ := q v H1 p1 o1
  cases o with
  | val d => exact q σ H1 (.of p) v ho
  | new d => exact q σ H1 (.of p) v ⟨ho.1, fun a e => .inl (ho.2 a e)⟩
  | ref i =>
    have ho : σ[i]? = some (some v) := ho
    have q := q.bd
    unfold rvOf at q
    by_cases hz : (c.io && (i == 0 || !isOw r1 0)) = true
    · simp only [hz, if_true] at q; exact q.elim
    · simp only [hz, if_false] at q
      cases hi : r1[i]? with
      | none => simp only [hi] at q; exact q.elim
      | some z =>
        simp only [hi] at q
        cases z with
        | no => exact q.elim
        | fz d => exact q.elim
        | ow d =>
          have q : ∀ σ' H', SPost X.K Y.T [] r σ H r1 σ' H' → ∀ z, RvS c.io X.K r σ H H' (.new d) z → D.rt z H' := q
          obtain ⟨v', h1, h2⟩ := p.gd.ow i d hi
          rw [ho] at h1; cases h1
          refine q σ H1 (.of p) v ⟨h2, fun a e => ?_⟩
          subst e
          refine .inr ⟨p.sub a ⟨i, d, hi, ho⟩, fun hio e0 => ?_⟩
          -- slot 0 has the same list: it is slot i
          apply hz
          rw [hio, Bool.true_and]
          cases hw : isOw r1 0 with
          | false => simp
          | true =>
            unfold isOw at hw
            split at hw
            · rename_i d0 e1
              have := p.gd.inj i 0 d d0 _ hi e1 ho e0
              subst this
              rfl
            · cases hw
/-! ### blocks -/
theorem sts_nil {A : List Nat} : PSs X [] (tS c.io X.K Y A (exs G f [])) := pss_nil.to fun D σ H w => by
  obtain ⟨r, g, w⟩ := w
  simp only [exs] at w
  exact w σ H (.of (.refl g))
theorem sts_cons {A B : List Nat} {st : Stmt} {rest : List Stmt} {s : S} {ss : List S} (hio : c.io = true → 0 ∉ A ++ B) (h1 : PS X st (tS c.io X.K Y A (ex G f s))) (h2 : PSs X rest (tS c.io X.K Y B (exs G f ss))) : PSs X (st :: rest) (tS c.io X.K Y (A ++ B) (exs G f (s :: ss))) := by
  refine (pss_cons h1 h2).to fun D σ H w => ?_
  obtain ⟨r, g, w⟩ := w
  simp only [exs] at w
  refine ⟨r, g, w.bd.mono (fun c r' h σ' H' p => h σ' H' (p.wide fun i hi => List.mem_append_left _ hi)) fun o r1 e q σ1 H1 p1 => ?_⟩
  have pA := p1.wide (B := A ++ B) fun i hi => List.mem_append_left _ hi
  cases o with
  | nx => exact tS_cont hio g pA (fun i hi => List.mem_append_right _ hi) q
  | bk => exact q σ1 H1 pA
  | ct => exact q σ1 H1 pA
  | rt v => exact q σ1 H1 pA
theorem st_if {A B : List Nat} {t : Expr} {a b : List Stmt} {pos : Pos} {it : E} {ia ib : List S} (hio : c.io = true → 0 ∉ A ++ B) (ht : PT X t (tT X.K Y (tsM (ev G f it)))) (ha : PSs X a (tS c.io X.K Y A (exs G f ia))) (hb : PSs X b (tS c.io X.K Y B (exs G f ib))) :
    PS X (.If t a b pos) (tS c.io X.K Y (A ++ B) (ex G f (.iff it ia ib))) := by
  refine (ps_if ht ha hb).to fun D σ H w => ?_
  obtain ⟨r, g, w⟩ := w
  simp only [ex] at w
  refine ⟨r, g, w.bd.mono (fun _ _ h => sex_ex h) fun t r1 e q H1 p1 => ?_⟩
  cases t with
  | true => simp only [if_true] at q ⊢; exact tS_cont hio g (.of p1) (fun i hi => List.mem_append_left _ hi) q
  | false => simp only [Bool.false_eq_true, if_false] at q ⊢; exact tS_cont hio g (.of p1) (fun i hi => List.mem_append_right _ hi) q

/-! ### assignments -/
theorem swaps_tup {e : Expr} {ts : List Expr} {k : Nat} {p : Pos} {line : Nat} {env : PySem.Env} : swapsWithSole [.Tuple ts k p] e line env = pure false := by
  cases e <;> rfl
theorem swaps_no {e t : Expr} {line : Nat} {env : PySem.Env} (h : isComp e = false) : swapsWithSole [t] e line env = pure false := by
  cases e <;> first | rfl | cases h
theorem swapped_name {e : Expr} {x : Str} {p : Pos} {env : PySem.Env} : swappedStores [.Name x p] e env = pure none := by
  cases e <;> rfl
theorem swapped_sub {e a b : Expr} {p : Pos} {env : PySem.Env} : swappedStores [.Subscript a b p] e env = pure none := by
  cases e <;> rfl
def isTup : Expr → Bool
  | .Tuple .. => true
  | _ => false
theorem swapped_tup {e : Expr} {ts : List Expr} {k : Nat} {p : Pos} {env : PySem.Env} (h : isTup e = false) : swappedStores [.Tuple ts k p] e env = pure none := by
  cases e <;> first | rfl | cases h
/-- an operand into a name -/
theorem put_to {m : M Op} {i : Nat} {D : Ends} (w : tS c.io X.K Y [i] (bd m fun o => bd (put i o) fun _ => ret .nx) D σ H) : tAsg (tFz (tE X.K Y m)) (gName i) D σ H := by
  obtain ⟨r, g, w⟩ := tS_expr w
  refine ⟨r, g, w.mono (fun _ _ z => z) fun o r1 e q v H1 p1 o1 => ?_⟩
  obtain ⟨r, r1, o, g, p, ho, q⟩ := q v H1 p1 o1
  have q := q.bd
  unfold put at q
  by_cases hi : i < r1.length
  · simp only [hi, if_true] at q
    cases o with
    | val d =>
      have q : ∀ σ' H', SPost X.K Y.T [i] r σ H (r1.set i (.fz d)) σ' H' → D.nx σ' H' := q
      exact .inl (q _ _ ((SPost.of (A := []) p).trans (spost_fz p.gd hi ho)))
    | new d =>
      have q : ∀ σ' H', SPost X.K Y.T [i] r σ H (r1.set i (.ow d)) σ' H' → D.nx σ' H' := q
      obtain ⟨a, rfl⟩ : ∃ a, v = .ref a := by
        cases d with
        | list xs => obtain ⟨a, _, e, _⟩ := ho.1; exact ⟨a, e⟩
        | _ => exact ho.1.elim
      exact .inl (q _ _ (spost_ow p.gd hi ho.1 (fun z => absurd (ho.2 a rfl) (p.own_some g a z)) (ho.2 a rfl) p))
    | ref j =>
      cases hd : dataAt r1 j with
      | none => simp only [hd] at q; exact q.elim
      | some d =>
        simp only [hd] at q
        have q : ∀ σ' H', SPost X.K Y.T [i] r σ H ((freeze j r1).set i (.fz d)) σ' H' → D.nx σ' H' := q
        have he : esc (.ref j) r1 = .ok d (freeze j r1) := by
          show opt (dataAt r1 j) (freeze j r1) = _
          rw [hd]; rfl
        have mk : ∀ {H'}, EsC X.K Y.T r1 σ H1 (.ref j) v d (freeze j r1) H' → D.nx (σ.set i (some v)) H' := fun {H'} c => by
          have p2 : Post X.K Y.T r σ H (freeze j r1) H' := esc_post p c.gd c.sub fun b => by
            rcases c.bk b with z | ⟨z1, z2, z3⟩
            · exact .inl z
            · rcases z3 with z3 | ⟨d', z3⟩
              · exact .inr ⟨z2, .inl z3⟩
              · cases z3
          exact q _ _ ((SPost.of (A := []) p2).trans (spost_fz p2.gd (by rw [freeze_len]; exact hi) c.fz))
        rcases esc_gen p.gd (fun d' a z1 => by cases z1) ho he with c | ⟨a, xs, e3, ha, c⟩
        · exact .inl (mk c)
        · exact .inr ⟨a, xs, e3, ha, fun ob => mk (c ob)⟩
  · simp only [hi, if_false] at q; exact q.elim
/-- a tuple target, any list or tuple as its value -/
theorem pg_tupR {es : List Expr} {k : Nat} {pos : Pos} {m : Nat} {ts : List Tg} (C : Ck CX X c Y G f n) (hca : c.ca = true) (h1 : cTgs c m es = some ts) :
    PG X (.Tuple es k pos) (fun v σ H Q => ∃ r d ds r', Gd X.K Y.T r σ H ∧ Rdv X.K H d v ∧ seqOf d = some ds ∧ asgs ts ds r = some r' ∧ ∀ σ', SPost X.K Y.T (tgsSl ts) r σ H r' σ' H → Q σ' H) := by
  obtain ⟨hl, ha⟩ := cTgs_len h1
  obtain ⟨l1, l2⟩ := tgE_len (env := X.env) ha
  have pt := pg_tup (k := k) (pos := pos) (C.calm hca) ((snd_tg C m).2 es ts h1) l1 l2
  have pl := pg_lst (k := k) (pos := pos) (C.calm hca) ((snd_tg C m).2 es ts h1) l1 l2
  refine ⟨fun pins s σ H v u Q I rv w => ?_⟩
  obtain ⟨r, d, ds, r', g, hv, hs, ha, q⟩ := w
  rcases seqOf_cases hs with rfl | rfl
  · obtain ⟨a, xs, e1, h3, h4⟩ := hv.list
    exact pl.run pins s σ H v u Q I rv ⟨a, xs, e1, h3, by rw [← h4.length, asgs_len ha, hl], r, ds, r', g, h4, ha, q⟩
  · obtain ⟨a, xs, e1, h3, h4⟩ := hv.tuple
    exact pt.run pins s σ H v u Q I rv ⟨a, xs, e1, h3, by rw [← h4.length, asgs_len ha, hl], r, ds, r', g, h4, ha, q⟩
theorem st_setT {es : List Expr} {k : Nat} {tp pos : Pos} {m : Nat} {ts : List Tg} {e : Expr} {ie : E} (C : Ck CX X c Y G f n) (hca : c.ca = true) (h1 : cTgs c m es = some ts) (he : PE X e (tE X.K Y (ev G f ie))) (hw : swappedStores [.Tuple es k tp] e X.env = pure none) :
    PS X (.Assign [.Tuple es k tp] e pos) (tS c.io X.K Y (tgsSl ts) (ex G f (.set (.tup ts) ie))) := by
  refine (ps_asg he (pg_tupR C hca h1) swaps_tup hw (by rfl)).to fun D σ H w => ?_
  simp only [ex] at w
  obtain ⟨r, g, w⟩ := tS_expr w
  refine ⟨r, g, w.mono (fun _ _ z => z) fun o r1 e q v H1 p1 o1 => ?_⟩
  obtain ⟨r, r1, o, g, p, ho, q⟩ := q v H1 p1 o1
  have q : Wd (bd (bd (rd o) fun d => asgM (.tup ts) d) (fun _ => ret .nx) r1) (sexK X.K Y (tgsSl ts) r σ H) fun o r' => ∀ σ' H', SPost X.K Y.T (tgsSl ts) r σ H r' σ' H' → EndS c.io X.K r σ H o D σ' H' := q
  obtain ⟨d, hd, _, q⟩ := q.bd.bd.rd1 p.gd ho
  unfold asgM at q
  cases ha : asg (.tup ts) d r1 with
  | none => simp only [ha] at q; exact q.elim
  | some r2 =>
    simp only [ha] at q
    have q : ∀ σ' H', SPost X.K Y.T (tgsSl ts) r σ H r2 σ' H' → D.nx σ' H' := q
    simp only [asg] at ha
    cases hs : seqOf d with
    | none => simp only [hs] at ha; cases ha
    | some ds =>
      simp only [hs] at ha
      exact ⟨r1, d, ds, r2, p.gd, hd, hs, ha, fun σ' p2 => q σ' H1 (((SPost.of (A := []) p).trans p2).wide fun i hi => by simpa using hi)⟩
/-- a name, no comprehension -/
theorem st_setN {x : Str} {px pos : Pos} {i : Nat} {e : Expr} {ie : E} (C : Ck CX X c Y G f n) (hx : slotOf c x = some i) (hst : c.st.contains x = true) (he : PE X e (tE X.K Y (ev G f ie))) (hc : isComp e = false) :
    PS X (.Assign [.Name x px] e pos) (tS c.io X.K Y [i] (ex G f (.set (.name i) ie))) := by
  obtain ⟨h1, h2, h3⟩ := slot_loc C hx hst
  refine (ps_asg (pe_fz he) (pg_name C.nd h1 h2 h3) (swaps_no hc) swapped_name (by rfl)).to fun D σ H w => ?_
  simp only [ex] at w
  exact put_to w
/-- several stores -/
def stsN : L2.St → List Nat → List V → L2.St
  | σ, i :: is, v :: vs => stsN (σ.set i (some v)) is vs
  | σ, _, _ => σ
theorem asgs_sts {K : PySem.W.Frag} {T : List Addr} {H : Hp} : ∀ {is : List Nat} {ds : List D} {vs : List V} {r r' : Env} {σ : L2.St}, Gd K T r σ H → Fzs K H ds vs → asgs (is.map .name) ds r = some r' → SPost K T is r σ H r' (stsN σ is vs) H
  | [], [], vs, r, r', σ, g, hf, h => by
    simp only [List.map_nil, asgs] at h
    cases h
    have hf : vs = [] := by simpa [Fzs] using hf
    subst hf
    exact .of (.refl g)
  | [], _ :: _, vs, r, r', σ, g, hf, h => by simp [asgs] at h
  | i :: is, [], vs, r, r', σ, g, hf, h => by simp [asgs] at h
  | i :: is, d :: ds, vs, r, r', σ, g, hf, h => by
    simp only [Fzs] at hf
    obtain ⟨v, ws, rfl, f1, f2⟩ := hf
    simp only [List.map_cons, asgs, asg] at h
    obtain ⟨r1, h1, h2⟩ := Option.bind_eq_some_iff.mp h
    split at h1
    · rename_i hl
      cases h1
      have p := spost_fz g hl f1
      exact (p.trans (asgs_sts p.gd f2 h2)).wide fun j hj => by simpa using hj
    · cases h1
theorem spost_ow2 {K : PySem.W.Frag} {T : List Addr} {A : List Nat} {r0 r : Env} {σ0 σ : L2.St} {H0 H : Hp} {i : Nat} {d : D} {a : Addr} (p : SPost K T A r0 σ0 H0 r σ H) (hi : i < r.length) (hv : OwD K H d (.ref a)) (hn : ¬ Own r σ a) (h0 : H0 a = none) : SPost K T (A ++ [i]) r0 σ0 H0 (r.set i (.ow d)) (σ.set i (some (.ref a))) H := by
  have p1 : Post K T r σ (fun _ => none) r H := ⟨p.gd, fun _ _ h => (by cases h), fun _ h => h, fun _ h => (h rfl).elim⟩
  have s := spost_ow p.gd hi hv hn (H0 := fun _ => none) rfl p1
  have is : i < σ.length := by rw [← p.gd.len]; exact hi
  refine ⟨s.gd, p.ext, fun b ⟨j, e, h1, h2⟩ => ?_, p.tr, fun j hj => ?_, by rw [List.length_set]; exact p.len⟩
  · by_cases hj : i = j
    · subst hj
      rw [List.getElem?_set_self is] at h2
      cases h2
      exact .inr h0
    · rw [List.getElem?_set_ne hj] at h1 h2
      exact p.sub b ⟨j, e, h1, h2⟩
  · rw [List.getElem?_set_ne (fun z => hj (by rw [z]; simp))]
    exact p.keep j fun z => hj (List.mem_append_left _ z)
theorem puts_sts {K : PySem.W.Frag} {T : List Addr} {H0 H : Hp} {r0 : Env} {σ0 σ1 : L2.St} : ∀ {is : List Nat} {os : List Op} {vs : List V} {A : List Nat} {r r' : Env} {σ : L2.St} {Hk : Hp}, SPost K T A r0 σ0 H0 r σ H → OpVs K σ1 Hk H os vs → os.all opNr = true → (∀ a, Own r σ a → Hk a ≠ none) → (∀ a, H0 a ≠ none → Hk a ≠ none) → puts is os r = .ok () r' → SPost K T (A ++ is) r0 σ0 H0 r' (stsN σ is vs) H
  | [], [], vs, A, r, r', σ, Hk, p, ho, hr, ow, h0, h => by
    cases ho
    have h : Res.ok () r = .ok () r' := h
    cases h
    rw [List.append_nil]
    exact p
  | [], _ :: _, vs, A, r, r', σ, Hk, p, ho, hr, ow, h0, h => by cases h
  | _ :: _, [], vs, A, r, r', σ, Hk, p, ho, hr, ow, h0, h => by cases h
  | i :: is, o :: os, vs, A, r, r', σ, Hk, p, ho, hr, ow, h0, h => by
    have h : (put i o r).bd (fun _ => puts is os) = .ok () r' := h
    rw [List.all_cons, Bool.and_eq_true] at hr
    cases ho with
    | cons o1 o2 o3 o4 =>
      rename_i H1 v vs
      have e : A ++ i :: is = (A ++ [i]) ++ is := by simp
      unfold put at h
      by_cases hi : i < r.length
      · simp only [hi, if_true] at h
        have is' : i < σ.length := by rw [← p.gd.len]; exact hi
        rw [e]
        cases o with
        | ref j => cases hr.1
        | val d =>
          have h : puts is os (r.set i (.fz d)) = .ok () r' := h
          refine puts_sts (p.trans (spost_fz p.gd hi o1)) o4 hr.2 (fun a ⟨j, x, h1, h2⟩ => o3 a ?_) (fun a z => o3 a (h0 a z)) h
          by_cases hj : i = j
          · subst hj; rw [List.getElem?_set_self hi] at h1; cases h1
          · rw [List.getElem?_set_ne hj] at h1 h2
            exact ow a ⟨j, x, h1, h2⟩
        | new d =>
          have h : puts is os (r.set i (.ow d)) = .ok () r' := h
          obtain ⟨a, rfl⟩ : ∃ a, v = .ref a := by
            cases d with
            | list xs => obtain ⟨a, _, e, _⟩ := o1.1; exact ⟨a, e⟩
            | _ => exact o1.1.elim
          have ka := o1.2 a rfl
          have na : ¬ Own r σ a := fun z => ow a z ka
          have n0 : H0 a = none := by
            cases q : H0 a with
            | none => rfl
            | some u => exact absurd ka (h0 a (by rw [q]; exact fun z => by cases z))
          refine puts_sts (spost_ow2 p hi o1.1 na n0) o4 hr.2 (fun b ⟨j, x, h1, h2⟩ => ?_) (fun b z => o3 b (h0 b z)) h
          by_cases hj : i = j
          · subst hj
            rw [List.getElem?_set_self is'] at h2
            cases h2
            exact o2 d a rfl rfl
          · rw [List.getElem?_set_ne hj] at h1 h2
            exact o3 b (ow b ⟨j, x, h1, h2⟩)
      · simp only [hi, if_false] at h
        cases h
theorem puts_noex : ∀ {is : List Nat} {os : List Op} {r r' : Env} {c : Nat}, puts is os r ≠ .ex c r'
  | [], [], r, r', c => fun h => by cases h
  | [], _ :: _, r, r', c => fun h => by cases h
  | _ :: _, [], r, r', c => fun h => by cases h
  | i :: is, o :: os, r, r', c => fun h => by
    have h : (put i o r).bd (fun _ => puts is os) = .ex c r' := h
    unfold put at h
    by_cases hi : i < r.length
    · simp only [hi, if_true] at h
      cases o with
      | ref j =>
        cases q : dataAt r j with
        | none => simp only [q] at h; cases h
        | some d => simp only [q] at h; exact puts_noex h
      | val d => exact puts_noex (is := is) h
      | new d => exact puts_noex (is := is) h
    · simp only [hi, if_false] at h
      cases h
/-- the items, then the stores -/
theorem par_esc {ies : List E} {is : List Nat} {D : Ends} (hl : ies.length ≤ 1000) (w : tS c.io X.K Y is (ex G f (.par is ies)) D σ H) :
    tGa X (tA X.K Y (evs G f ies)) σ H fun vs H2 => vs.length = ies.length ∧ D.nx (stsN σ is vs) H2 := by
  obtain ⟨r, g, w⟩ := w
  simp only [ex] at w
  refine ⟨r, g, w.bd.mono (fun _ _ h => sex_ex h) fun os r1 e q vs H1 p1 ho pins s I => ?_⟩
  have hlen : vs.length = ies.length := by rw [ho.len, evs_len e]
  by_cases hr : os.all opNr = true
  · rw [if_pos hr] at q
    have q := q.bd
    cases ep : puts is os r1 with
    | no => rw [ep] at q; exact q.elim
    | ex c r => exact (puts_noex ep).elim
    | ok u r2 =>
      rw [ep] at q
      have q : ∀ σ' H', SPost X.K Y.T is r σ H r2 σ' H' → D.nx σ' H' := q
      refine ⟨H1, I, hlen, q _ H1 ?_⟩
      have := puts_sts (SPost.of (A := []) p1) ho hr (fun a z => p1.own_some g a z) (fun a z => z) ep
      rw [List.nil_append] at this
      exact this
  · rw [if_neg hr] at q
    obtain ⟨ds, r2, e2, q⟩ := q.bd.escAll
    obtain ⟨H2, I2, f2, g2, s2, k2, b2⟩ := escAll_ok p1.gd I ho (fun a z => p1.own_some g a z) e2
    have q := q.bd
    unfold asgM at q
    cases ha : asg (.tup (is.map .name)) (.tuple ds) r2 with
    | none => simp only [ha] at q; exact q.elim
    | some r3 =>
      simp only [ha] at q
      have q : ∀ σ' H', SPost X.K Y.T is r σ H r3 σ' H' → D.nx σ' H' := q
      simp only [asg] at ha
      have p2 := esc_post p1 g2 s2 b2
      exact ⟨H2, I2, hlen, q _ H2 (((SPost.of (A := []) p2).trans (asgs_sts p2.gd f2 ha)).wide fun i hi => by simpa using hi)⟩
theorem asgs_name {is : List Nat} {i : Nat} {d : D} {ds : List D} {r r' : Env} (h : asgs (Tg.name i :: is.map .name) (d :: ds) r = some r') : i < r.length ∧ asgs (is.map .name) ds (r.set i (.fz d)) = some r' := by
  simp only [asgs, asg] at h
  obtain ⟨r1, h1, h2⟩ := Option.bind_eq_some_iff.mp h
  split at h1
  · rename_i hl
    cases h1
    exact ⟨hl, h2⟩
  · cases h1
end
end Fw

/-! Fw: statements: comprehensions into names, swaps, lists, loops -/
namespace Fw
open PySem PySem.Spec PyProof.Rows L2

section
variable {CX : CXT} {X : Cx} {c : Cc} {Y : Yc} {G : Nat → Option D} {f : CE} {n : Nat} {σ : St} {H : Hp}
theorem _root_.L2.tAsg_mono {te te' : TE} {g : TG} (h : ∀ σ H Q, te' σ H Q → te σ H Q) : ∀ D σ H, tAsg te' g D σ H → tAsg te g D σ H := fun D σ H w => h _ _ _ w
theorem lc_isN {ie iit : E} {itg : Tg} {ic : Option E} {own : List Nat} {r r1 : Env} {o : Op} (h : ev G f (.lc ie itg iit ic own) r = .ok o r1) : ∃ ds, o = .new (.list ds) := by
  simp only [ev] at h
  obtain ⟨_, _, _, h⟩ := ok_bd h
  obtain ⟨s, ra, _, h⟩ := ok_bd h
  unfold inOwn at h
  split at h
  · rename_i a rb e
    obtain ⟨ds, _, _, e⟩ := ok_bd e
    cases e
    cases h
    exact ⟨ds, rfl⟩
  · cases h
  · cases h
/-- a list comprehension into a name -/
theorem st_setC {x : Str} {px pos cpos : Pos} {i : Nat} {elt tg it : Expr} {ifs : List Expr} {scope : Scope} {own : List (Str × Nat)} {ie iit : E} {itg : Tg} {ic : Option E} (C : Cks CX X c Y G f n) (hca : c.ca = true) (hx : slotOf c x = some i) (hst : c.st.contains x = true)
    (hi : PI X tg it (tI X.K Y (bd (ev G f iit) (srcOf (own.map (·.2)))))) (ok : BlkOk X.N X.env.scope scope own)
    (hg : ∀ (s : Shared) (H : Hp) (C : Addr) (cl : List (Str × Addr)) (fp : List Addr), PG (X.blk s H scope (compEnvC scope cl C X.env) fp) tg (tG X.K Y.T itg)) (ht : ∀ (s : Shared) (H : Hp) (C : Addr) (cl : List (Str × Addr)) (fp : List Addr), PTs (X.blk s H scope (compEnvC scope cl C X.env) fp) ifs (tT X.K Y.no (tstO G f ic)))
    (he : ∀ (s : Shared) (H : Hp) (C : Addr) (cl : List (Str × Addr)) (fp : List Addr), PE (X.blk s H scope (compEnvC scope cl C X.env) fp) elt (tFz (tE X.K Y.no (ev G f ie)))) (hs : ∀ x, foldedSetIterable it X.env x = pure x) (htg : ∀ i ∈ tgSl itg, i ∈ own.map (·.2)) :
    PS X (.Assign [.Name x px] (.ListComp elt [⟨tg, it, ifs, 0⟩] scope cpos) pos) (tS c.io X.K Y [i] (ex G f (.set (.name i) (.lc ie itg iit ic (own.map (·.2)))))) := by
  obtain ⟨h1, h2, h3⟩ := slot_loc C.toCk hx hst
  have hsw : swapsWith (.ListComp elt [⟨tg, it, ifs, 0⟩] scope cpos) (some (.Name x px)) pos.line X.env =
      pure (X.env.blockKind == .function && X.env.kindOf x == some .local && px.line == cpos.line && !(scope.names.any fun (n, k) => n == x && (k == .local || k == .cell))) := rfl
  have to : ∀ D σ H, tS c.io X.K Y [i] (ex G f (.set (.name i) (.lc ie itg iit ic (own.map (·.2))))) D σ H → tAsg (tFz (tE X.K Y (ev G f (.lc ie itg iit ic (own.map (·.2)))))) (gName i) D σ H := fun D σ H w => by
    simp only [ex] at w
    exact put_to w
  cases hb : (X.env.blockKind == .function && X.env.kindOf x == some .local && px.line == cpos.line && !(scope.names.any fun (n, k) => n == x && (k == .local || k == .cell))) with
  | false =>
    rw [hb] at hsw
    have hlc := pe_lc (pos := cpos) (C.calm hca) C.nd hi ok hg ht he hs
    exact (ps_asg (pe_fz (hlc.to fun σ H Q w => lc_to htg w)) (pg_name C.nd h1 h2 h3) hsw swapped_name (by rfl)).to to
  | true =>
    rw [hb] at hsw
    simp only [Bool.and_eq_true] at hb
    have hl : X.env.scope.names.lookup x = some .local := by
      have := eq_of_beq hb.1.1.2
      unfold Env.kindOf at this
      exact this
    -- no list is known for good here: the value is new
    refine (ps_setLc (C.calm hca) C.nd h1 hl hsw hi ok hg ht he hs).to fun D σ H w => ?_
    obtain ⟨r, g, w⟩ := w
    simp only [ex] at w
    have w2 : tE X.K Y (ev G f (.lc ie itg iit ic (own.map (·.2)))) σ H fun v H1 => gName i v σ H1 D.nx := by
      refine ⟨r, g, w.bd.mono (fun _ _ h => sex_ex h) fun o r1 e q v H1 p ho => ?_⟩
      obtain ⟨ds, rfl⟩ := lc_isN e
      have q := Wd.bd (m := put i (.new (.list ds))) q
      unfold put at q
      by_cases hi : i < r1.length
      · simp only [hi, if_true] at q
        have q : ∀ σ' H', SPost X.K Y.T [i] r σ H (r1.set i (.ow (.list ds))) σ' H' → D.nx σ' H' := q
        obtain ⟨a, xs, rfl, h5, h6⟩ := ho.1
        exact q _ _ (spost_ow (d := .list ds) p.gd hi (show OwD X.K H1 (.list ds) (.ref a) from ⟨a, xs, rfl, h5, h6⟩) (fun z => absurd (ho.2 a rfl) (p.own_some g a z)) (ho.2 a rfl) p)
      · simp only [hi, if_false] at q; exact q.elim
    exact lc_to htg w2
theorem lc2_isN {ie iit iit2 : E} {itg itg2 : Tg} {ic ic2 : Option E} {own own2 : List Nat} {r r1 : Env} {o : Op} (h : ev G f (.lc2 ie itg iit ic itg2 iit2 ic2 own own2) r = .ok o r1) : ∃ ds, o = .new (.list ds) := by
  simp only [ev] at h
  obtain ⟨_, _, _, h⟩ := ok_bd h
  obtain ⟨s, ra, _, h⟩ := ok_bd h
  unfold inOwn at h
  split at h
  · rename_i a rb e
    obtain ⟨ds, _, _, e⟩ := ok_bd e
    cases e
    cases h
    exact ⟨ds, rfl⟩
  · cases h
  · cases h
/-- .. of two clauses -/
theorem st_setC2 {x : Str} {px pos cpos : Pos} {i : Nat} {elt tg it tg2 it2 : Expr} {ifs ifs2 : List Expr} {scope : Scope} {own : List (Str × Nat)} {ie iit iit2 : E} {itg itg2 : Tg} {ic ic2 : Option E} (C : Cks CX X c Y G f n) (hca : c.ca = true) (hx : slotOf c x = some i) (hst : c.st.contains x = true)
    (hi : PI X tg it (tI X.K Y (bd (ev G f iit) (srcOf (own.map (·.2)))))) (ok : BlkOk X.N X.env.scope scope own)
    (hg : ∀ (s : Shared) (H : Hp) (C : Addr) (cl : List (Str × Addr)) (fp : List Addr), PG (X.blk s H scope (compEnvC scope cl C X.env) fp) tg (tG X.K Y.T itg)) (ht : ∀ (s : Shared) (H : Hp) (C : Addr) (cl : List (Str × Addr)) (fp : List Addr), PTs (X.blk s H scope (compEnvC scope cl C X.env) fp) ifs (tT X.K Y.no (tstO G f ic)))
    (hi2 : ∀ (s : Shared) (H : Hp) (C : Addr) (cl : List (Str × Addr)) (fp : List Addr), PI (X.blk s H scope (compEnvC scope cl C X.env) fp) tg2 it2 (tI X.K Y.no (bd (ev G f iit2) (srcOf (own.map (·.2))))))
    (hg2 : ∀ (s : Shared) (H : Hp) (C : Addr) (cl : List (Str × Addr)) (fp : List Addr), PG (X.blk s H scope (compEnvC scope cl C X.env) fp) tg2 (tG X.K Y.T itg2)) (ht2 : ∀ (s : Shared) (H : Hp) (C : Addr) (cl : List (Str × Addr)) (fp : List Addr), PTs (X.blk s H scope (compEnvC scope cl C X.env) fp) ifs2 (tT X.K Y.no (tstO G f ic2)))
    (he : ∀ (s : Shared) (H : Hp) (C : Addr) (cl : List (Str × Addr)) (fp : List Addr), PE (X.blk s H scope (compEnvC scope cl C X.env) fp) elt (tFz (tE X.K Y.no (ev G f ie)))) (hs : ∀ x, foldedSetIterable it X.env x = pure x) (hs2 : ∀ env x, foldedSetIterable it2 env x = pure x) (htg : ∀ i ∈ tgSl itg, i ∈ own.map (·.2)) (htg2 : ∀ i ∈ tgSl itg2, i ∈ own.map (·.2)) :
    PS X (.Assign [.Name x px] (.ListComp elt [⟨tg, it, ifs, 0⟩, ⟨tg2, it2, ifs2, 0⟩] scope cpos) pos) (tS c.io X.K Y [i] (ex G f (.set (.name i) (.lc2 ie itg iit ic itg2 iit2 ic2 (own.map (·.2)) (tgSl itg2))))) := by
  obtain ⟨h1, h2, h3⟩ := slot_loc C.toCk hx hst
  have hsw : swapsWith (.ListComp elt [⟨tg, it, ifs, 0⟩, ⟨tg2, it2, ifs2, 0⟩] scope cpos) (some (.Name x px)) pos.line X.env =
      pure (X.env.blockKind == .function && X.env.kindOf x == some .local && px.line == cpos.line && !(scope.names.any fun (n, k) => n == x && (k == .local || k == .cell))) := rfl
  have to : ∀ D σ H, tS c.io X.K Y [i] (ex G f (.set (.name i) (.lc2 ie itg iit ic itg2 iit2 ic2 (own.map (·.2)) (tgSl itg2)))) D σ H → tAsg (tFz (tE X.K Y (ev G f (.lc2 ie itg iit ic itg2 iit2 ic2 (own.map (·.2)) (tgSl itg2))))) (gName i) D σ H := fun D σ H w => by
    simp only [ex] at w
    exact put_to w
  cases hb : (X.env.blockKind == .function && X.env.kindOf x == some .local && px.line == cpos.line && !(scope.names.any fun (n, k) => n == x && (k == .local || k == .cell))) with
  | false =>
    rw [hb] at hsw
    have hlc := pe_lc2 (pos := cpos) (vs1 := tgSl itg2) (C.calm hca) C.nd hi ok htg2 hg ht hi2 hg2 ht2 he hs hs2
    exact (ps_asg (pe_fz (hlc.to fun σ H Q w => lc2_to htg htg2 (fun _ h => h) w)) (pg_name C.nd h1 h2 h3) hsw swapped_name (by rfl)).to to
  | true =>
    rw [hb] at hsw
    simp only [Bool.and_eq_true] at hb
    have hl : X.env.scope.names.lookup x = some .local := by
      have := eq_of_beq hb.1.1.2
      unfold Env.kindOf at this
      exact this
    -- no list is known for good here: the value is new
    refine (ps_setLc2 (vs1 := tgSl itg2) (C.calm hca) C.nd h1 hl hsw hi ok htg2 hg ht hi2 hg2 ht2 he hs hs2).to fun D σ H w => ?_
    obtain ⟨r, g, w⟩ := w
    simp only [ex] at w
    have w2 : tE X.K Y (ev G f (.lc2 ie itg iit ic itg2 iit2 ic2 (own.map (·.2)) (tgSl itg2))) σ H fun v H1 => gName i v σ H1 D.nx := by
      refine ⟨r, g, w.bd.mono (fun _ _ h => sex_ex h) fun o r1 e q v H1 p ho => ?_⟩
      obtain ⟨ds, rfl⟩ := lc2_isN e
      have q := Wd.bd (m := put i (.new (.list ds))) q
      unfold put at q
      by_cases hi : i < r1.length
      · simp only [hi, if_true] at q
        have q : ∀ σ' H', SPost X.K Y.T [i] r σ H (r1.set i (.ow (.list ds))) σ' H' → D.nx σ' H' := q
        obtain ⟨a, xs, rfl, h5, h6⟩ := ho.1
        exact q _ _ (spost_ow (d := .list ds) p.gd hi (show OwD X.K H1 (.list ds) (.ref a) from ⟨a, xs, rfl, h5, h6⟩) (fun z => absurd (ho.2 a rfl) (p.own_some g a z)) (ho.2 a rfl) p)
      · simp only [hi, if_false] at q; exact q.elim
    exact lc2_to htg htg2 (fun _ h => h) w2
theorem puts_len : ∀ {is : List Nat} {os : List Op} {r r' : Env}, puts is os r = .ok () r' → os.length = is.length
  | [], [], _, _, _ => rfl
  | [], _ :: _, _, _, h => by cases h
  | _ :: _, [], _, _, h => by cases h
  | i :: is, o :: os, r, r', h => by
    have h : (put i o r).bd (fun _ => puts is os) = .ok () r' := h
    cases e : put i o r with
    | no => rw [e] at h; cases h
    | ex c r => rw [e] at h; cases h
    | ok u r1 =>
      rw [e] at h
      have h : puts is os r1 = .ok () r' := h
      simp [puts_len h]
/-- the items, then the stores, more there or not -/
theorem par_escG {ies : List E} {is : List Nat} {D : Ends} (hl : ies.length ≤ 1000) (w : tS c.io X.K Y is (ex G f (.par is ies)) D σ H) :
    tGa X (tA X.K Y (evs G f ies)) σ H fun vs H2 => vs.length = ies.length ∧ vs.length = is.length ∧ ∀ H3, Same H2 H3 → D.nx (stsN σ is vs) H3 := by
  obtain ⟨r, g, w⟩ := w
  simp only [ex] at w
  refine ⟨r, g, w.bd.mono (fun _ _ h => sex_ex h) fun os r1 e q vs H1 p1 ho pins s I => ?_⟩
  have hlen : vs.length = ies.length := by rw [ho.len, evs_len e]
  by_cases hr : os.all opNr = true
  · rw [if_pos hr] at q
    have q := q.bd
    cases ep : puts is os r1 with
    | no => rw [ep] at q; exact q.elim
    | ex c r => exact (puts_noex ep).elim
    | ok u r2 =>
      rw [ep] at q
      have q : ∀ σ' H', SPost X.K Y.T is r σ H r2 σ' H' → D.nx σ' H' := q
      refine ⟨H1, I, hlen, by rw [ho.len, puts_len ep], fun H3 s3 => q _ H3 ?_⟩
      have sp := puts_sts (SPost.of (A := []) p1) ho hr (fun a z => p1.own_some g a z) (fun a z => z) ep
      rw [List.nil_append] at sp
      exact (sp.trans (SPost.of (A := []) (.same sp.gd s3))).wide fun i hi => by simpa using hi
  · rw [if_neg hr] at q
    obtain ⟨ds, r2, e2, q⟩ := q.bd.escAll
    obtain ⟨H2, I2, f2, g2, s2, k2, b2⟩ := escAll_ok p1.gd I ho (fun a z => p1.own_some g a z) e2
    have q := q.bd
    unfold asgM at q
    cases ha : asg (.tup (is.map .name)) (.tuple ds) r2 with
    | none => simp only [ha] at q; exact q.elim
    | some r3 =>
      simp only [ha] at q
      have q : ∀ σ' H', SPost X.K Y.T is r σ H r3 σ' H' → D.nx σ' H' := q
      simp only [asg] at ha
      have ha : asgs (is.map .name) ds r2 = some r3 := ha
      have p2 := esc_post p1 g2 s2 b2
      have sp := (SPost.of (A := []) p2).trans (asgs_sts p2.gd f2 ha)
      have l2 := asgs_len ha
      rw [List.length_map] at l2
      exact ⟨H2, I2, hlen, by rw [← f2.length, l2], fun H3 s3 => q _ H3 ((sp.trans (SPost.of (A := []) (.same sp.gd s3))).wide fun i hi => by simpa using hi)⟩
def gNames : List Nat → TGs
  | [] => gNil
  | i :: is => gCons (gName i) (gNames is)
theorem gNames_of {H : Hp} {Q : L2.St → Hp → Prop} : ∀ {is : List Nat} {vs : List V} {σ : L2.St}, vs.length = is.length → Q (stsN σ is vs) H → gNames is vs σ H Q
  | [], [], σ, _, q => ⟨rfl, q⟩
  | [], _ :: _, σ, h, q => by simp at h
  | _ :: _, [], σ, h, q => by simp at h
  | i :: is, v :: vs, σ, h, q => ⟨v, vs, rfl, gNames_of (is := is) (by simpa using h) q⟩
theorem namesOf_map : ∀ {ts : List Tg} {is : List Nat}, namesOf ts = some is → ts = is.map .name
  | [], is, h => by cases h; rfl
  | t :: ts, is, h => by
    cases t with
    | name i =>
      obtain ⟨js, h1, rfl⟩ := Option.map_eq_some_iff.mp (show (namesOf ts).map (i :: ·) = some is from h)
      rw [namesOf_map h1]
      rfl
    | _ => cases h
theorem pgs_names (C : Ck CX X c Y G f n) : ∀ {es : List Expr} {m : Nat} {is : List Nat}, cTgs c m es = some (is.map .name) → PGs X es (gNames is)
  | [], m, is, h => by
    cases m with
    | zero => simp [cTgs] at h
    | succ m =>
      simp only [cTgs] at h
      have h := Option.some.inj h
      cases is with
      | nil => exact pgs_nil
      | cons _ _ => cases h
  | e :: es, m, is, h => by
    cases m with
    | zero => simp [cTgs] at h
    | succ m =>
      simp only [cTgs] at h
      obtain ⟨t, h1, h2⟩ := Option.bind_eq_some_iff.mp h
      obtain ⟨us, h3, h4⟩ := Option.map_eq_some_iff.mp h2
      cases is with
      | nil => cases h4
      | cons i is =>
        rw [List.map_cons] at h4
        injection h4 with h5 h6
        subst h5 h6
        cases m with
        | zero => simp [cTg] at h1
        | succ m =>
          cases e with
          | Name x pos =>
            simp only [cTg] at h1
            split at h1
            · rename_i hs
              split at h1
              · rename_i j hj
                split at h1
                · cases h1
                · cases h1
                  obtain ⟨q1, q2, q3⟩ := slot_loc C hj hs
                  exact pgs_cons (pg_name C.nd q1 q2 q3) (pgs_names C h3) rfl
              · cases h1
            · cases h1
          | Tuple es k pos =>
            simp only [cTg] at h1
            split at h1
            · obtain ⟨_, _, z⟩ := Option.map_eq_some_iff.mp h1; cases z
            · split at h1
              · obtain ⟨_, _, z⟩ := Option.map_eq_some_iff.mp h1; cases z
              · cases h1
          | _ => simp [cTg] at h1
theorem st_parT {ts vs : List Expr} {k k2 : Nat} {tp vp pos : Pos} {m : Nat} {is : List Nat} {ies : List E} (C : Cks CX X c Y G f n) (hca : c.ca = true) (h1 : cTgs c m ts = some (is.map .name)) (hl : ies.length ≤ 1000) (hs : PA X vs (tA X.K Y (evs G f ies)))
    (hw : swappedStores [.Tuple ts k tp] (.Tuple vs k2 vp) X.env = pure none) : PS X (.Assign [.Tuple ts k tp] (.Tuple vs k2 vp) pos) (tS c.io X.K Y is (ex G f (.par is ies))) := by
  obtain ⟨l0, ha⟩ := cTgs_len h1
  obtain ⟨l1, l2⟩ := tgE_len (env := X.env) ha
  refine (ps_asg (pe_tup (pa_ge hs)) (pg_tup (C.calm hca) (pgs_names C.toCk h1) l1 l2) swaps_tup hw (by rfl)).to fun D σ H w => ?_
  obtain ⟨r, g, w⟩ := par_escG hl w
  refine ⟨r, g, w.mono (fun _ _ z => z) fun os r1 e q vs H1 p1 ho pins s I => ?_⟩
  obtain ⟨H2, I2, hlen, hl2, q⟩ := q vs H1 p1 ho pins s I
  rw [List.length_map] at l0
  refine ⟨H2, I2, ?_, fun p hp => ⟨p, vs, rfl, .inl (.inl upd_same), by omega, gNames_of hl2 (q _ (same_upd hp))⟩⟩
  have := sizeLine_eq
  omega
theorem st_par2 {x y : Str} {px py pt pos vp : Pos} {k k2 : Nat} {i j : Nat} {a b : Expr} {ies : List E} (C : Cks CX X c Y G f n) (hca : c.ca = true) (hx : slotOf c x = some i) (hy : slotOf c y = some j) (hij : i ≠ j) (hl : ies.length ≤ 1000) (hn : ies.length = 2) (hs : PA X [a, b] (tA X.K Y (evs G f ies)))
    (hw : swappedStores [.Tuple [.Name x px, .Name y py] k pt] (.Tuple [a, b] k2 vp) X.env = pure (some [x, y])) (lx : X.env.scope.names.lookup x = some .local) (ly : X.env.scope.names.lookup y = some .local) :
    PS X (.Assign [.Tuple [.Name x px, .Name y py] k pt] (.Tuple [a, b] k2 vp) pos) (tS c.io X.K Y [i, j] (ex G f (.par [i, j] ies))) := by
  refine (ps_par (C.calm hca) C.nd (slot_vis C.toCk hx).1 (slot_vis C.toCk hy).1 hij lx ly (pa_ge hs) hw swaps_tup).to fun D σ H w => ?_
  obtain ⟨r, g, w⟩ := par_esc hl w
  refine ⟨r, g, w.mono (fun _ _ z => z) fun os r1 e q vs H1 p1 ho pins s I => ?_⟩
  obtain ⟨H2, I2, hlen, q⟩ := q vs H1 p1 ho pins s I
  refine ⟨H2, I2, ?_⟩
  rw [hn] at hlen
  match vs, hlen, q with
  | [v, w], _, q => exact ⟨v, w, rfl, q⟩
theorem st_par3 {x y z : Str} {px py pz pt pos vp : Pos} {k k2 : Nat} {i j l : Nat} {a b d : Expr} {ies : List E} (C : Cks CX X c Y G f n) (hca : c.ca = true) (hx : slotOf c x = some i) (hy : slotOf c y = some j) (hz : slotOf c z = some l) (hij : i ≠ j) (hil : i ≠ l) (hjl : j ≠ l) (hl : ies.length ≤ 1000) (hn : ies.length = 3) (hs : PA X [a, b, d] (tA X.K Y (evs G f ies)))
    (hw : swappedStores [.Tuple [.Name x px, .Name y py, .Name z pz] k pt] (.Tuple [a, b, d] k2 vp) X.env = pure (some [x, y, z])) (lx : X.env.scope.names.lookup x = some .local) (ly : X.env.scope.names.lookup y = some .local) (lz : X.env.scope.names.lookup z = some .local) :
    PS X (.Assign [.Tuple [.Name x px, .Name y py, .Name z pz] k pt] (.Tuple [a, b, d] k2 vp) pos) (tS c.io X.K Y [i, j, l] (ex G f (.par [i, j, l] ies))) := by
  refine (ps_par3 (C.calm hca) C.nd (slot_vis C.toCk hx).1 (slot_vis C.toCk hy).1 (slot_vis C.toCk hz).1 hij hil hjl lx ly lz (pa_ge hs) hw swaps_tup).to fun D σ H w => ?_
  obtain ⟨r, g, w⟩ := par_esc hl w
  refine ⟨r, g, w.mono (fun _ _ z => z) fun os r1 e q vs H1 p1 ho pins s I => ?_⟩
  obtain ⟨H2, I2, hlen, q⟩ := q vs H1 p1 ho pins s I
  refine ⟨H2, I2, ?_⟩
  rw [hn] at hlen
  match vs, hlen, q with
  | [u, v, w], _, q => exact ⟨u, v, w, rfl, q⟩
theorem st_aug {x : Str} {px pos : Pos} {i : Nat} {e : Expr} {ie : E} {o : Bop} (C : Ck CX X c Y G f n) (hx : slotOf c x = some i) (hst : c.st.contains x = true) (he : PE X e (tE X.K Y (ev G f ie))) (ho : o = .add ∨ o = .sub) :
    PS X (.AugAssign (.Name x px) (opr o) e pos) (tS c.io X.K Y [i] (ex G f (.aug i o ie))) := by
  obtain ⟨h1, h2, h3⟩ := slot_loc C hx hst
  have key : ∀ (op : Int → Int → Int), PIp X (opr o) (ipI op) → (∀ d e v, augD o d e = some v → ∃ i j : Int, d = .int i ∧ e = .int j ∧ v = .int (op i j)) → PS X (.AugAssign (.Name x px) (opr o) e pos) (tS c.io X.K Y [i] (ex G f (.aug i o ie))) := fun op hp hd => by
    refine (ps_aug C.nd h1 h2 he hp h3).to fun D σ H w => ?_
    obtain ⟨r, g, w⟩ := w
    simp only [ex] at w
    obtain ⟨d, e1, w⟩ := w.bd.rd
    have hv : ∃ v, σ[i]? = some (some v) ∧ Rdv X.K H d v := by
      obtain ⟨e2, _⟩ := opt_ok (show opt (dataAt r i) r = .ok d r from e1)
      unfold dataAt at e2
      cases q : r[i]? with
      | none => rw [q] at e2; cases e2
      | some z =>
        rw [q] at e2
        cases z with
        | no => cases e2
        | fz d' => cases e2; obtain ⟨v, q1, q2⟩ := g.fz i d q; exact ⟨v, q1, .inl q2⟩
        | ow d' => cases e2; obtain ⟨v, q1, q2⟩ := g.ow i d q; exact ⟨v, q1, .inr q2⟩
    obtain ⟨v, hv, rv⟩ := hv
    refine ⟨v, hv, r, g, w.bd.mono (fun _ _ h => sex_ex h) fun ox r1 e q y H1 p1 o1 => ?_⟩
    obtain ⟨d2, r2, _, q⟩ := q.bd.rd1 p1.gd o1
    obtain ⟨z, e3, q⟩ := q.bd.opt
    obtain ⟨a, b, rfl, rfl, rfl⟩ := hd _ _ _ e3
    have q := q.bd
    unfold put at q
    by_cases hi : i < r1.length
    · simp only [hi, if_true] at q
      have q : ∀ σ' H', SPost X.K Y.T [i] r σ H (r1.set i (.fz (.int (op a b)))) σ' H' → D.nx σ' H' := q
      refine ⟨a, b, rv.int, r2.int, q _ _ ((SPost.of (A := []) p1).trans (spost_fz p1.gd hi (by simp [Fz])))⟩
    · simp only [hi, if_false] at q; exact q.elim
  rcases ho with rfl | rfl
  · refine key (fun i j => i + j) ip_add fun d e v h => ?_
    cases d <;> cases e <;> first | cases h | skip
    exact ⟨_, _, rfl, rfl, rfl⟩
  · refine key (fun i j => i - j) ip_sub fun d e v h => ?_
    cases d <;> cases e <;> first | cases h | skip
    exact ⟨_, _, rfl, rfl, rfl⟩
end
end Fw

/-! Fw: statements: lists that are written, loops -/
namespace Fw
open PySem PySem.Spec PyProof.Rows L2

section
variable {CX : CXT} {X : Cx} {c : Cc} {Y : Yc} {G : Nat → Option D} {f : CE} {n : Nat} {σ : St} {H : Hp}
theorem isOwn_wd {i : Nat} {β : Type} {m : M β} {r : Env} {j : Nat → Env → Prop} {k : β → Env → Prop} (w : Wd (bd (isOwn i) (fun _ => m) r) j k) : (∃ d, r[i]? = some (Sl.ow d)) ∧ Wd (m r) j k := by
  have w := w.bd
  unfold isOwn at w
  cases e : r[i]? with
  | none => rw [e] at w; exact w.elim
  | some z =>
    rw [e] at w
    cases z with
    | no => exact w.elim
    | fz d => exact w.elim
    | ow d => exact ⟨⟨d, rfl⟩, w⟩
theorem st_app {y : Str} {py apos cpos pos : Pos} {i : Nat} {e : Expr} {ie : E} (C : Ck CX X c Y G f n) (hy : slotOf c y = some i) (he : PE X e (tE X.K Y (ev G f ie))) (hp : plainE e = true) (hline : (apos.endLine == cpos.line) = true) :
    PS X (.Expr (.Call (.Attribute (.Name y py) "append" apos) [e] [] cpos) pos) (tS c.io X.K Y [] (ex G f (.app i ie))) := by
  obtain ⟨h1, h2, hd, hcd⟩ := slot_vis C hy
  have hstar := plainE_star hp [] X.env
  refine (ps_expr (pe_bm (cpos := cpos) PySem.F.plainAttrs_list PySem.F.slot_list_append (by rfl) mt_append (pe_var (pos := py) h1 h2 hd hcd) (pa_cons (pe_fz he) pa_nil hstar) rfl (by rw [hstar]; rfl) hline hstar (by rfl)) (by rfl)).to fun D σ H w => ?_
  obtain ⟨r, g, w⟩ := w
  simp only [ex] at w
  obtain ⟨⟨d0, h0⟩, w⟩ := isOwn_wd w
  obtain ⟨v, hv, hd0⟩ := g.ow i d0 h0
  cases d0 with
  | list ds0 =>
    obtain ⟨l, ys, rfl, hl, _⟩ := hd0
    refine ⟨_, hv, .inl ⟨rfl, ys, .inl (.inl hl)⟩, ?_⟩
    have w2 : Wd (bd (ev G f ie) esc r) (exK X.K Y r σ H) fun d r' => Wd (bd (appM i d) (fun _ => ret .nx) r') (sexK X.K Y [] r σ H) fun o r' => ∀ σ' H', SPost X.K Y.T [] r σ H r' σ' H' → EndS c.io X.K r σ H o D σ' H' :=
      Wd.bd' (w.bd.mono (fun _ _ h => sex_ex h) fun o r' e q => q.bd.mono (fun _ _ h => sex_ex h) fun _ _ _ z => z)
    refine esc_to g w2 fun d r1 v H1 q p hf => ?_
    have q := q.bd
    unfold appM at q
    cases hi : r1[i]? with
    | none => simp only [hi] at q; exact q.elim
    | some z =>
      simp only [hi] at q
      cases z with
      | no => exact q.elim
      | fz d => exact q.elim
      | ow d1 =>
        cases d1 with
        | list xs =>
          obtain ⟨v', hv', a, zs, rfl, h3, h4⟩ := p.gd.ow i _ hi
          rw [hv] at hv'; cases hv'
          by_cases hz : xs.length < sizeLine
          · simp only [hz, if_true] at q
            have q : ∀ σ' H', SPost X.K Y.T [] r σ H (r1.set i (.ow (.list (xs ++ [d])))) σ' H' → D.nx σ' H' := q
            refine ⟨l, zs, v, rfl, rfl, h3, by rw [← h4.length]; exact hz, q σ _ (.of (p.trans (post_own p.gd hi hv ⟨l, _, rfl, upd_same, ?_⟩ (fun q hq => tabG_upd h3 (p.gd.tb q hq)) (fun b o e _ hb => by rw [upd_ne hb]; exact e) fun b hb => ?_)))⟩
            · have k := upd_kp (u := .lst (zs ++ [v])) h3
              exact Fzs.keep k _ _ (h4.app (.one hf))
            · by_cases hb2 : b = l
              · subst hb2; rw [upd_same]; simp
              · rw [upd_ne hb2]; exact hb
          · simp only [hz, if_false] at q; exact q.elim
        | _ => exact q.elim
  | _ => exact hd0.elim
theorem intsOf_eqm : ∀ {xs : List D} {ns : List Int}, intsOf xs = some ns → xs = ns.map .int
  | [], ns, h => by cases h; rfl
  | .int i :: r, ns, h => by
    have h : (intsOf r).map (i :: ·) = some ns := h
    obtain ⟨ms, h1, rfl⟩ := Option.map_eq_some_iff.mp h
    rw [intsOf_eqm h1]; rfl
  | .none :: _, ns, h => by cases h
  | .bool _ :: _, ns, h => by cases h
  | .str _ :: _, ns, h => by cases h
  | .list _ :: _, ns, h => by cases h
  | .tuple _ :: _, ns, h => by cases h
  | .dict _ :: _, ns, h => by cases h
theorem Fzs.ints_eq {K : PySem.W.Frag} {H : Hp} : ∀ {ns : List Int} {vs : List V}, Fzs K H (ns.map .int) vs → vs = ns.map V.int
  | [], vs, h => by simpa [Fzs] using h
  | n :: ns, vs, h => by
    simp only [List.map_cons, Fzs] at h
    obtain ⟨v, r, rfl, h1, h2⟩ := h
    have h1 : v = .int n := by simpa [Fz] using h1
    rw [h1, Fzs.ints_eq h2]; rfl
theorem idxOf_first {k : Int} : ∀ {ns : List Int} {m : Nat}, m < ns.idxOf k → ns[m]? ≠ some k
  | [], m, h => by simp
  | a :: ns, m, h => by
    rw [List.idxOf_cons] at h
    by_cases e : a = k
    · subst e
      simp at h
    · have e1 : (a == k) = false := beq_eq_false_iff_ne.mpr e
      rw [e1] at h
      cases m with
      | zero => simpa using e
      | succ m =>
        rw [List.getElem?_cons_succ]
        exact idxOf_first (by simpa using h)
theorem st_rem {y : Str} {py apos cpos pos : Pos} {i : Nat} {e : Expr} {ie : E} (C : Ck CX X c Y G f n) (hy : slotOf c y = some i) (he : PE X e (tE X.K Y (ev G f ie))) (hp : plainE e = true) (hline : (apos.endLine == cpos.line) = true) :
    PS X (.Expr (.Call (.Attribute (.Name y py) "remove" apos) [e] [] cpos) pos) (tS c.io X.K Y [] (ex G f (.rem i ie))) := by
  obtain ⟨h1, h2, hd, hcd⟩ := slot_vis C hy
  have hstar := plainE_star hp [] X.env
  refine (ps_expr (pe_bm (cpos := cpos) PySem.F.plainAttrs_list PySem.F.slot_list_remove (by rfl) mt_remove (pe_var (pos := py) h1 h2 hd hcd) (pa_cons (pe_fz he) pa_nil hstar) rfl (by rw [hstar]; rfl) hline hstar (by rfl)) (by rfl)).to fun D σ H w => ?_
  obtain ⟨r, g, w⟩ := w
  simp only [ex] at w
  obtain ⟨⟨d0, h0⟩, w⟩ := isOwn_wd w
  obtain ⟨v, hv, hd0⟩ := g.ow i d0 h0
  cases d0 with
  | list ds0 =>
    obtain ⟨l, ys, rfl, hl, _⟩ := hd0
    refine ⟨_, hv, .inl ⟨rfl, ys, .inl (.inl hl)⟩, ?_⟩
    have w2 : Wd (bd (ev G f ie) esc r) (exK X.K Y r σ H) fun d r' => Wd (bd (remM i d) (fun _ => ret .nx) r') (sexK X.K Y [] r σ H) fun o r' => ∀ σ' H', SPost X.K Y.T [] r σ H r' σ' H' → EndS c.io X.K r σ H o D σ' H' :=
      Wd.bd' (w.bd.mono (fun _ _ h => sex_ex h) fun o r' e q => q.bd.mono (fun _ _ h => sex_ex h) fun _ _ _ z => z)
    refine esc_to g w2 fun d r1 v H1 q p hf => ?_
    have q := q.bd
    unfold remM at q
    cases hi : r1[i]? with
    | none => simp only [hi] at q; exact q.elim
    | some z =>
      simp only [hi] at q
      cases z with
      | no => exact q.elim
      | fz d => exact q.elim
      | ow d1 =>
        cases d1 with
        | list xs =>
          obtain ⟨v', hv', a, zs, rfl, h3, h4⟩ := p.gd.ow i _ hi
          rw [hv] at hv'; cases hv'
          dsimp only at q
          cases hn : intsOf xs with
          | none => rw [hn] at q; exact q.elim
          | some ns =>
            rw [hn] at q
            cases d with
            | int k =>
              dsimp only at q
              by_cases hz : ns.contains k = true
              · rw [if_pos hz] at q
                have q : ∀ σ' H', SPost X.K Y.T [] r σ H (r1.set i (.ow (.list ((ns.erase k).map .int)))) σ' H' → D.nx σ' H' := q
                have ex := intsOf_eqm hn
                subst ex
                have ez := h4.ints_eq
                subst ez
                have hk : v = .int k := by simpa [Fz] using hf
                subst hk
                have hm : k ∈ ns := List.contains_iff_mem.mp hz
                have hj := List.idxOf_lt_length_iff.mpr hm
                have ee : ns.erase k = ns.eraseIdx (ns.idxOf k) := List.erase_eq_eraseIdx_of_idxOf rfl
                rw [ee] at q
                refine ⟨l, ns, k, ns.idxOf k, rfl, rfl, h3, ?_, fun m hm2 z => ?_, q σ _ (.of (p.trans (post_own p.gd hi hv ⟨l, _, rfl, upd_same, ?_⟩ (fun q hq => tabG_upd h3 (p.gd.tb q hq)) (fun b o e _ hb => by rw [upd_ne hb]; exact e) fun b hb => ?_)))⟩
                · rw [List.getElem?_eq_getElem hj, List.getElem_idxOf hj]
                · exact idxOf_first hm2 z
                · exact Fzs.ints
                · by_cases hb2 : b = l
                  · subst hb2; rw [upd_same]; simp
                  · rw [upd_ne hb2]; exact hb
              · rw [if_neg hz] at q; exact q.elim
            | _ => exact q.elim
        | _ => exact q.elim
  | _ => exact hd0.elim
theorem swaps_sub {e a b : Expr} {p : Pos} {line : Nat} {env : PySem.Env} : swapsWithSole [.Subscript a b p] e line env = pure false := by
  cases e <;> rfl
theorem st_setIx {y : Str} {py tp pos : Pos} {i : Nat} {k e : Expr} {ik ie : E} (C : Ck CX X c Y G f n) (hy : slotOf c y = some i) (he : PE X e (tE X.K Y (ev G f ie))) (hk : PE X k (tE X.K Y (ev G f ik))) (hp : plainE k = true) :
    PS X (.Assign [.Subscript (.Name y py) k tp] e pos) (tS c.io X.K Y [] (ex G f (.setIx i ik ie))) := by
  obtain ⟨h1, h2, hd, hcd⟩ := slot_vis C hy
  refine (ps_asg (pe_fz he) (pg_sub (pe_var (pos := py) h1 h2 hd hcd) hk set_list (fun v => by cases k <;> first | rfl | (cases hp; done))) swaps_sub swapped_sub (by rfl)).to fun D σ H w => ?_
  obtain ⟨r, g, w⟩ := w
  simp only [ex] at w
  have w2 : Wd (bd (ev G f ie) esc r) (exK X.K Y r σ H) fun d r' => Wd (bd (isOwn i) (fun _ => bd (ev G f ik) fun y => bd (rd y) fun kd => bd (setIxM i kd d) fun _ => ret .nx) r') (sexK X.K Y [] r σ H) fun o r' => ∀ σ' H', SPost X.K Y.T [] r σ H r' σ' H' → EndS c.io X.K r σ H o D σ' H' :=
    Wd.bd' (w.bd.mono (fun _ _ h => sex_ex h) fun o r' e q => q.bd.mono (fun _ _ h => sex_ex h) fun _ _ _ z => z)
  refine esc_to g w2 fun d r1 v H1 q p hf => ?_
  obtain ⟨⟨d0, h0⟩, q⟩ := isOwn_wd q
  obtain ⟨u, hu, hd0⟩ := p.gd.ow i d0 h0
  refine ⟨u, hu, r1, p.gd, q.bd.mono (fun _ _ h => sex_ex2 p h) fun oy r2 e q y H2 p2 oy' => ?_⟩
  obtain ⟨kd, hkd, _, q⟩ := q.bd.rd1 p2.gd oy'
  have q := q.bd
  unfold setIxM at q
  cases hi : r2[i]? with
  | none => simp only [hi] at q; exact q.elim
  | some z =>
    simp only [hi] at q
    cases z with
    | no => exact q.elim
    | fz d => exact q.elim
    | ow d1 =>
      cases d1 with
      | list xs =>
        cases kd with
        | int kk =>
          cases hj : place kk xs.length with
          | none => simp only [hj] at q; exact q.elim
          | some j =>
            simp only [hj] at q
            have q : ∀ σ' H', SPost X.K Y.T [] r σ H (r2.set i (.ow (.list (xs.set j d)))) σ' H' → D.nx σ' H' := q
            obtain ⟨v', hv', a, zs, rfl, h3, h4⟩ := p2.gd.ow i _ hi
            rw [hu] at hv'; cases hv'
            have hf2 := Fz.keep (p2.kp p.gd) d v hf
            refine ⟨a, zs, kk, j, rfl, hkd.int, h3, by rw [← h4.length]; exact hj, q σ _ (.of ((p.trans p2).trans (post_own p2.gd hi hu ⟨a, _, rfl, upd_same, ?_⟩ (fun q hq => tabG_upd h3 (p2.gd.tb q hq)) (fun b o e _ hb => by rw [upd_ne hb]; exact e) fun b hb => ?_)))⟩
            · have k := upd_kp (u := .lst (zs.set j v)) h3
              exact Fzs.keep k _ _ (Fzs.set j hf2 h4)
            · by_cases hb2 : b = a
              · subst hb2; rw [upd_same]; simp
              · rw [upd_ne hb2]; exact hb
        | _ => exact q.elim
      | _ => exact q.elim

/-! ### loops -/
/-- a turn of a loop: what the body is to reach -/
theorem loop_body {io : Bool} {K : PySem.W.Frag} {A B : List Nat} {r r2 : Env} {σ2 : St} {H2 : Hp} {m : M Out} {next : M Out} {D : Ends} {N : St → Hp → Prop} (hio : io = true → 0 ∉ A) (g : Gd K Y.T r σ H) (hB : ∀ i ∈ B, i ∈ A)
    (p : SPost K Y.T A r σ H r2 σ2 H2)
    (w : Wd (bd m (afterL next) r2) (sexK K Y A r σ H) fun o r' => ∀ σ' H', SPost K Y.T A r σ H r' σ' H' → EndS io K r σ H o D σ' H')
    (hN : ∀ r3 σ3 H3, SPost K Y.T A r σ H r3 σ3 H3 → Wd (next r3) (sexK K Y A r σ H) (fun o r' => ∀ σ' H', SPost K Y.T A r σ H r' σ' H' → EndS io K r σ H o D σ' H') → N σ3 H3) :
    tS io K Y B m { D with nx := N, ct := N, bk := D.nx } σ2 H2 := by
  refine ⟨r2, p.gd, w.bd.mono (fun c r' h => sex_trans p h hB) fun o r3 e q σ3 H3 p3 => ?_⟩
  have p4 := (p.trans p3).wide (B := A) fun i hi => by
    rcases List.mem_append.mp hi with z | z
    · exact z
    · exact hB i z
  cases o with
  | nx => exact hN r3 σ3 H3 p4 q
  | ct => exact hN r3 σ3 H3 p4 q
  | bk => exact q σ3 H3 p4
  | rt v => exact fun z hz => q σ3 H3 p4 z (rvs_trans hio g p hz)
theorem st_while {A : List Nat} {t : Expr} {body : List Stmt} {pos : Pos} {it : E} {ib : List S} (C : Cks CX X c Y G f n) (hio : c.io = true → 0 ∉ A) (ht : PT X t (tT X.K Y (tsM (ev G f it)))) (hb : PSs X body (tS c.io X.K Y A (exs G f ib))) :
    PS X (.While t body [] pos) (tS c.io X.K Y A (ex G f (.while it ib))) := by
  refine (ps_while C.own ht hb).to fun D σ H w => ?_
  obtain ⟨r, g, w⟩ := w
  simp only [ex] at w
  refine ⟨fun m σ' H' => ∃ r', SPost X.K Y.T A r σ H r' σ' H' ∧ Wd (whileL (tsM (ev G f it)) (exs G f ib) m r') (sexK X.K Y A r σ H) fun o r' => ∀ σ' H', SPost X.K Y.T A r σ H r' σ' H' → EndS c.io X.K r σ H o D σ' H', ⟨FUEL, r, .of (.refl g), w⟩, ?_⟩
  rintro m σ1 H1 ⟨r1, p1, w⟩
  cases m with
  | zero => exact w.elim
  | succ m =>
    have w : Wd (bd (tsM (ev G f it)) (fun t => if t then bd (exs G f ib) (afterL (whileL (tsM (ev G f it)) (exs G f ib) m)) else ret .nx) r1) (sexK X.K Y A r σ H) fun o r' => ∀ σ' H', SPost X.K Y.T A r σ H r' σ' H' → EndS c.io X.K r σ H o D σ' H' := w
    refine ⟨r1, p1.gd, w.bd.mono (fun cc r' h H' p => h σ1 H' ((p1.trans (.of (A := []) p)).wide fun i hi => by simpa using hi)) fun b r2 e q H2 p2 => ?_⟩
    have p12 : SPost X.K Y.T A r σ H r2 σ1 H2 := (p1.trans (.of (A := []) p2)).wide fun i hi => by simpa using hi
    cases b with
    | false =>
      simp only [Bool.false_eq_true, if_false] at q ⊢
      exact q σ1 H2 p12
    | true =>
      simp only [if_true] at q ⊢
      exact ⟨fun σ' H' => ∃ r', SPost X.K Y.T A r σ H r' σ' H' ∧ Wd (whileL (tsM (ev G f it)) (exs G f ib) m r') (sexK X.K Y A r σ H) fun o r' => ∀ σ' H', SPost X.K Y.T A r σ H r' σ' H' → EndS c.io X.K r σ H o D σ' H',
        fun σ' H' h => ⟨m, Nat.lt_succ_self m, h⟩, loop_body hio g (fun i hi => hi) p12 q fun r3 σ3 H3 p3 w3 => ⟨r3, p3, w3⟩⟩
/-- the turns over a fixed list -/
theorem for_fixed {io : Bool} {A : List Nat} {r r1 : Env} {H1 : Hp} {t : Tg} {ib : List S} {xs : List Fw.D} {J : It} {D : Ends} (hio : io = true → 0 ∉ A) (hA : ∀ i, i ∈ tgSl t ++ asgSs ib → i ∈ A) (g : Gd X.K Y.T r σ H) (p1 : Post X.K Y.T r σ H r1 H1) (hJ : SrcV X.K σ H0 r1 H1 J (.fixed xs))
    (w : Wd (forL (fun y => bd (asgM t y) fun _ => exs G f ib) xs r1) (sexK X.K Y A r σ H) fun o r' => ∀ σ' H', SPost X.K Y.T A r σ H r' σ' H' → EndS io X.K r σ H o D σ' H') :
    ∃ W : Nat → Nat → St → Hp → Prop, (∃ m, W 0 m σ H1) ∧ ∀ i m σ' H', W i m σ' H' →
      (J.stop i H' ∧ D.nx σ' H') ∨ (J.go i H' ∧ ∃ N : St → Hp → Prop, (∀ σ' H', N σ' H' → ∃ m', m' < m ∧ W (i + 1) m' σ' H') ∧ ∀ x H'', J.yld i H' x H'' → tG X.K Y.T t x σ' H'' fun σ2 H2 => tS io X.K Y (asgSs ib) (exs G f ib) { D with nx := N, ct := N, bk := D.nx } σ2 H2) := by
  obtain ⟨L, hL, hn, hlen, hJ⟩ := hJ
  refine ⟨fun i m σ' H' => m = xs.length - i ∧ i ≤ xs.length ∧ ∃ r', SPost X.K Y.T A r1 σ H1 r' σ' H' ∧ Wd (forL (fun y => bd (asgM t y) fun _ => exs G f ib) (xs.drop i) r') (sexK X.K Y A r σ H) fun o r' => ∀ σ' H', SPost X.K Y.T A r σ H r' σ' H' → EndS io X.K r σ H o D σ' H',
    ⟨xs.length, by simp, Nat.zero_le _, r1, .of (.refl p1.gd), w⟩, ?_⟩
  rintro i m σ' H' ⟨rfl, hi, r', p2, w⟩
  have hP : Kp H1 H' ∧ PinL L H' := ⟨p2.kp p1.gd, fun q hq => p2.ext q.1 _ (hL q hq) (fun _ z => by cases z) fun z => (hn q hq).1 z⟩
  obtain ⟨hgo, hstop⟩ := hJ i H' hP
  have pr : SPost X.K Y.T A r σ H r' σ' H' := ((SPost.of (A := []) p1).trans p2).wide fun i hi => by simpa using hi
  by_cases hlt : i < xs.length
  · right
    have ex : xs[i]? = some xs[i] := List.getElem?_eq_getElem hlt
    obtain ⟨go, yl⟩ := hgo _ ex
    rw [List.drop_eq_getElem_cons hlt] at w
    have w : Wd (bd (bd (asgM t xs[i]) fun _ => exs G f ib) (afterL (forL (fun y => bd (asgM t y) fun _ => exs G f ib) (xs.drop (i + 1)))) r') (sexK X.K Y A r σ H) fun o r' => ∀ σ' H', SPost X.K Y.T A r σ H r' σ' H' → EndS io X.K r σ H o D σ' H' := w
    refine ⟨go, fun σ3 H3 => ∃ r3, SPost X.K Y.T A r1 σ H1 r3 σ3 H3 ∧ Wd (forL (fun y => bd (asgM t y) fun _ => exs G f ib) (xs.drop (i + 1)) r3) (sexK X.K Y A r σ H) fun o r' => ∀ σ' H', SPost X.K Y.T A r σ H r' σ' H' → EndS io X.K r σ H o D σ' H',
      fun σ3 H3 ⟨r3, q1, q2⟩ => ⟨xs.length - (i + 1), by omega, rfl, hlt, r3, q1, q2⟩, fun x H'' y => ?_⟩
    obtain ⟨hs, hf⟩ := yl x H'' y
    have ps := Post.same p2.gd hs
    have w := w.bd
    have w := Wd.bd w
    unfold asgM at w
    cases ha : asg t xs[i] r' with
    | none => simp only [ha] at w; exact w.elim
    | some r2 =>
      simp only [ha] at w
      refine ⟨r', xs[i], r2, ps.gd, hf, ha, fun σ2 p3 => ?_⟩
      have pB : SPost X.K Y.T A r1 σ H1 r2 σ2 H'' := ((p2.trans (.of (A := []) ps)).trans p3).wide fun i hi => by
        simp only [List.append_nil, List.mem_append] at hi
        rcases hi with hi | hi
        · exact hi
        · exact hA i (List.mem_append_left _ hi)
      have pC : SPost X.K Y.T A r σ H r2 σ2 H'' := ((SPost.of (A := []) p1).trans pB).wide fun i hi => by simpa using hi
      have w : Wd (bd (exs G f ib) (afterL (forL (fun y => bd (asgM t y) fun _ => exs G f ib) (xs.drop (i + 1)))) r2) (sexK X.K Y A r σ H) fun o r' => ∀ σ' H', SPost X.K Y.T A r σ H r' σ' H' → EndS io X.K r σ H o D σ' H' := Wd.bd' w
      -- the state relative to the source as well
      refine ⟨r2, pB.gd, w.bd.mono (fun c r' h => sex_trans pC h fun i hi => hA i (List.mem_append_right _ hi)) fun o r3 e q σ3 H3 p4 => ?_⟩
      have p5 := (pC.trans p4).wide (B := A) fun i hi => by
        rcases List.mem_append.mp hi with z | z
        · exact z
        · exact hA i (List.mem_append_right _ z)
      have p6 := (pB.trans p4).wide (B := A) fun i hi => by
        rcases List.mem_append.mp hi with z | z
        · exact z
        · exact hA i (List.mem_append_right _ z)
      cases o with
      | nx => exact ⟨r3, p6, q⟩
      | ct => exact ⟨r3, p6, q⟩
      | bk => exact q σ3 H3 p5
      | rt v => exact fun z hz => q σ3 H3 p5 z (rvs_trans hio g pC hz)
  · left
    have e : i = xs.length := by omega
    refine ⟨hstop (by omega), ?_⟩
    rw [List.drop_eq_nil_of_le (by omega)] at w
    exact w σ' H' pr
end
end Fw

/-! Fw: for over a slot's own list; all statements -/
namespace Fw
open PySem PySem.Spec PyProof.Rows L2

section
variable {CX : CXT} {X : Cx} {c : Cc} {Y : Yc} {G : Nat → Option D} {f : CE} {n : Nat} {σ : St} {H : Hp}
theorem for_turn {io : Bool} {A : List Nat} {r r1 r' : Env} {σ' : St} {H1 H' H'' : Hp} {t : Tg} {ib : List S} {D : Ends} {d : Fw.D} {x : V} {next : M Out} {N : St → Hp → Prop} (hio : io = true → 0 ∉ A) (hA : ∀ i, i ∈ tgSl t ++ asgSs ib → i ∈ A) (p1 : Post X.K Y.T r σ H r1 H1)
    (p2 : SPost X.K Y.T A r1 σ H1 r' σ' H') (g : Gd X.K Y.T r σ H) (hs : Same H' H'') (hf : Fz X.K H'' d x) (w : Wd (bd (bd (asgM t d) fun _ => exs G f ib) (afterL next) r') (sexK X.K Y A r σ H) fun o r' => ∀ σ' H', SPost X.K Y.T A r σ H r' σ' H' → EndS io X.K r σ H o D σ' H')
    (hN : ∀ r3 σ3 H3, SPost X.K Y.T A r1 σ H1 r3 σ3 H3 → Wd (next r3) (sexK X.K Y A r σ H) (fun o r' => ∀ σ' H', SPost X.K Y.T A r σ H r' σ' H' → EndS io X.K r σ H o D σ' H') → N σ3 H3) :
    tG X.K Y.T t x σ' H'' fun σ2 H2 => tS io X.K Y (asgSs ib) (exs G f ib) { D with nx := N, ct := N, bk := D.nx } σ2 H2 := by
  have ps := Post.same p2.gd hs
  have w := w.bd
  have w := Wd.bd w
  unfold asgM at w
  cases ha : asg t d r' with
  | none => simp only [ha] at w; exact w.elim
  | some r2 =>
    simp only [ha] at w
    refine ⟨r', d, r2, ps.gd, hf, ha, fun σ2 p3 => ?_⟩
    have pB : SPost X.K Y.T A r1 σ H1 r2 σ2 H'' := ((p2.trans (.of (A := []) ps)).trans p3).wide fun i hi => by
      simp only [List.append_nil, List.mem_append] at hi
      rcases hi with hi | hi
      · exact hi
      · exact hA i (List.mem_append_left _ hi)
    have pC : SPost X.K Y.T A r σ H r2 σ2 H'' := ((SPost.of (A := []) p1).trans pB).wide fun i hi => by simpa using hi
    have w : Wd (bd (exs G f ib) (afterL next) r2) (sexK X.K Y A r σ H) fun o r' => ∀ σ' H', SPost X.K Y.T A r σ H r' σ' H' → EndS io X.K r σ H o D σ' H' := Wd.bd' w
    refine ⟨r2, pB.gd, w.bd.mono (fun c r' h => sex_trans pC h fun i hi => hA i (List.mem_append_right _ hi)) fun o r3 e q σ3 H3 p4 => ?_⟩
    have p5 := (pC.trans p4).wide (B := A) fun i hi => by
      rcases List.mem_append.mp hi with z | z
      · exact z
      · exact hA i (List.mem_append_right _ z)
    have p6 := (pB.trans p4).wide (B := A) fun i hi => by
      rcases List.mem_append.mp hi with z | z
      · exact z
      · exact hA i (List.mem_append_right _ z)
    cases o with
    | nx => exact hN r3 σ3 H3 p6 q
    | ct => exact hN r3 σ3 H3 p6 q
    | bk => exact q σ3 H3 p5
    | rt v => exact fun z hz => q σ3 H3 p5 z (rvs_trans hio g pC hz)
theorem for_byref {io : Bool} {A : List Nat} {r r1 : Env} {H1 : Hp} {t : Tg} {ib : List S} {i0 : Nat} {J : It} {D : Ends} (hio : io = true → 0 ∉ A) (hA : ∀ i, i ∈ tgSl t ++ asgSs ib → i ∈ A) (h0 : i0 ∉ A) (g : Gd X.K Y.T r σ H) (p1 : Post X.K Y.T r σ H r1 H1) (hJ : SrcV X.K σ H0 r1 H1 J (.byref i0)) (fuel : Nat)
    (w : Wd (forRL (fun y => bd (asgM t y) fun _ => exs G f ib) i0 fuel 0 r1) (sexK X.K Y A r σ H) fun o r' => ∀ σ' H', SPost X.K Y.T A r σ H r' σ' H' → EndS io X.K r σ H o D σ' H') :
    ∃ W : Nat → Nat → St → Hp → Prop, (∃ m, W 0 m σ H1) ∧ ∀ i m σ' H', W i m σ' H' →
      (J.stop i H' ∧ D.nx σ' H') ∨ (J.go i H' ∧ ∃ N : St → Hp → Prop, (∀ σ' H', N σ' H' → ∃ m', m' < m ∧ W (i + 1) m' σ' H') ∧ ∀ x H'', J.yld i H' x H'' → tG X.K Y.T t x σ' H'' fun σ2 H2 => tS io X.K Y (asgSs ib) (exs G f ib) { D with nx := N, ct := N, bk := D.nx } σ2 H2) := by
  obtain ⟨a, ha, rfl⟩ := hJ
  refine ⟨fun i m σ' H' => ∃ r', SPost X.K Y.T A r1 σ H1 r' σ' H' ∧ Wd (forRL (fun y => bd (asgM t y) fun _ => exs G f ib) i0 m i r') (sexK X.K Y A r σ H) fun o r' => ∀ σ' H', SPost X.K Y.T A r σ H r' σ' H' → EndS io X.K r σ H o D σ' H',
    ⟨fuel, r1, .of (.refl p1.gd), w⟩, ?_⟩
  rintro i m σ' H' ⟨r', p2, w⟩
  have pr : SPost X.K Y.T A r σ H r' σ' H' := ((SPost.of (A := []) p1).trans p2).wide fun i hi => by simpa using hi
  cases m with
  | zero => exact w.elim
  | succ m =>
    unfold forRL at w
    cases hd : dataAt r' i0 with
    | none => simp only [hd] at w; exact w.elim
    | some d =>
      cases d with
      | list ys =>
        simp only [hd] at w
        have hv : σ'[i0]? = some (some (.ref a)) := by rw [p2.keep i0 h0]; exact ha
        have rv : Rdv X.K H' (.list ys) (.ref a) := by
          refine (p2.gd.rd (o := .ref i0) (H0 := H') (v := .ref a) hv (r1 := r') ?_).2
          show opt (dataAt r' i0) _ = _
          rw [hd]; rfl
        obtain ⟨a', zs, e, sq, fz⟩ := rv.list
        cases e
        cases hy : ys[i]? with
        | none =>
          simp only [hy] at w
          refine .inl ⟨⟨zs, sq, ?_⟩, w σ' H' pr⟩
          have := List.getElem?_eq_none_iff.mp hy
          rw [fz.length] at this; exact this
        | some d =>
          simp only [hy] at w
          obtain ⟨v, e1, e2⟩ := fz.get hy
          refine .inr ⟨⟨zs, v, sq, e1⟩, fun σ3 H3 => ∃ r3, SPost X.K Y.T A r1 σ H1 r3 σ3 H3 ∧ Wd (forRL (fun y => bd (asgM t y) fun _ => exs G f ib) i0 m (i + 1) r3) (sexK X.K Y A r σ H) fun o r' => ∀ σ' H', SPost X.K Y.T A r σ H r' σ' H' → EndS io X.K r σ H o D σ' H',
            fun σ3 H3 h => ⟨m, Nat.lt_succ_self m, h⟩, fun x H'' ⟨y1, y2⟩ => ?_⟩
          subst y1
          have := y2 zs sq
          rw [e1] at this; cases this
          exact for_turn hio hA p1 p2 g (Same.refl _) e2 w fun r3 σ3 H3 p3 w3 => ⟨r3, p3, w3⟩
      | _ => simp only [hd] at w; exact w.elim
theorem st_forS {tg it : Expr} {body : List Stmt} {pos : Pos} {t : Tg} {iit : E} {ib : List S} (C : Cks CX X c Y G f n) (hca : c.ca = true) (hio : c.io = true → 0 ∉ tgSl t ++ asgSs ib) (hi : PI X tg it (tI X.K Y (bd (ev G f iit) (srcOf [])))) (hg : PG X tg (tG X.K Y.T t)) (hb : PSs X body (tS c.io X.K Y (asgSs ib) (exs G f ib))) (hs : ∀ x, foldedSetIterable it X.env x = pure x) :
    PS X (.For tg it body [] pos) (tS c.io X.K Y (tgSl t ++ asgSs ib) (ex G f (.forS t iit ib))) := by
  refine (ps_for C.own (C.calm hca) hi hg hb hs).to fun D σ H w => ?_
  obtain ⟨r, g, w⟩ := w
  simp only [ex] at w
  refine ⟨r, g, Wd.bd' (w.bd.mono (fun _ _ h => sex_ex h) fun o ra ea q => q.bd.mono (fun _ _ h => sex_ex h) fun s rb eb q J H1 p1 hJ => ?_)⟩
  cases s with
  | fixed xs => exact for_fixed hio (fun i hi => hi) g p1 hJ q
  | byref i => exact q.elim
theorem st_forR {tg : Expr} {x : Str} {px : Pos} {body : List Stmt} {pos : Pos} {t : Tg} {i0 : Nat} {ib : List S} (C : Cks CX X c Y G f n) (hca : c.ca = true) (hio : c.io = true → 0 ∉ tgSl t ++ asgSs ib) (h0 : i0 ∉ tgSl t ++ asgSs ib) (hi : PI X tg (.Name x px) (tI X.K Y (bd (ev G f (.var i0)) (srcOf [])))) (hg : PG X tg (tG X.K Y.T t)) (hb : PSs X body (tS c.io X.K Y (asgSs ib) (exs G f ib))) :
    PS X (.For tg (.Name x px) body [] pos) (tS c.io X.K Y (tgSl t ++ asgSs ib) (ex G f (.forR t i0 ib))) := by
  refine (ps_for C.own (C.calm hca) hi hg hb (by intro _; rfl)).to fun D σ H w => ?_
  obtain ⟨r, g, w⟩ := w
  simp only [ex] at w
  refine ⟨r, g, Wd.bd' (w.bd.mono (fun _ _ h => sex_ex h) fun o ra ea q => q.bd.mono (fun _ _ h => sex_ex h) fun s rb eb q J H1 p1 hJ => ?_)⟩
  cases s with
  | fixed xs => exact for_fixed hio (fun i hi => hi) g p1 hJ q
  | byref i =>
    have ei : i = i0 := by
      have ea : ev G f (.var i0) r = .ok o ra := ea
      simp only [ev] at ea
      cases o with
      | val d => obtain ⟨z, _⟩ := opt_ok (show opt ((seqOf d).map Src.fixed) ra = .ok (.byref i) rb from eb); cases q2 : seqOf d <;> rw [q2] at z <;> cases z
      | new d => obtain ⟨z, _⟩ := opt_ok (show opt ((seqOf d).map Src.fixed) ra = .ok (.byref i) rb from eb); cases q2 : seqOf d <;> rw [q2] at z <;> cases z
      | ref j =>
        have e1 : j = i0 := by
          cases q2 : r[i0]? with
          | none => simp only [q2] at ea; cases ea
          | some z =>
            simp only [q2] at ea
            cases z <;> cases ea
            rfl
        have eb : (if [].contains j = true then (opt none : M Src) else bd (isOwn j) fun _ => ret (Src.byref j)) ra = .ok (.byref i) rb := eb
        split at eb
        · cases eb
        · obtain ⟨_, _, _, eb⟩ := ok_bd eb
          cases eb
          exact e1
    subst ei
    exact for_byref hio (fun i hi => hi) h0 g p1 hJ FUEL q
/-- what stands ahead of the stores of a tuple -/
theorem swN_eq {ts : List Expr} (C : Cks CX X c Y G f n) : swN c ts = ts.filterMap fun
    | .Name id pos => if X.env.kindOf id == some .local && pos.line == ((ts.head?.map (·.pos.line)).getD 0) then some id else none
    | _ => none := by
  unfold swN
  have : X.env.kindOf = fun id => c.sc.names.lookup id := by
    funext id
    unfold Env.kindOf
    rw [C.sc]
  rw [this]
  all_goals rfl
theorem sw_form {ts vs : List Expr} {k k2 : Nat} {tp vp : Pos} {env : PySem.Env} : swappedStores [.Tuple ts k tp] (.Tuple vs k2 vp) env =
    (if (!(ts.length == 2 || ts.length == 3) || vs.length != ts.length || env.blockKind != .function) = true then pure none else
      if (vs.any fun | .Starred .. => true | _ => false) = true then pure none else
      if ((ts.filterMap fun
    | .Name id pos => if env.kindOf id == some .local && pos.line == ((ts.head?.map (·.pos.line)).getD 0) then some id else none
    | _ => none).length != ts.length || (ts.filterMap fun
    | .Name id pos => if env.kindOf id == some .local && pos.line == ((ts.head?.map (·.pos.line)).getD 0) then some id else none
    | _ => none).eraseDups.length != (ts.filterMap fun
    | .Name id pos => if env.kindOf id == some .local && pos.line == ((ts.head?.map (·.pos.line)).getD 0) then some id else none
    | _ => none).length) = true then pure none else
      if vs.all (foldedForSure 8) = true then pure none else
      if vs.all (constantsAlone 8) = true then (do unsupported "assign.tuple-of-constant-expressions:order-of-the-stores"; pure (some (ts.filterMap fun
    | .Name id pos => if env.kindOf id == some .local && pos.line == ((ts.head?.map (·.pos.line)).getD 0) then some id else none
    | _ => none))) else pure (some (ts.filterMap fun
    | .Name id pos => if env.kindOf id == some .local && pos.line == ((ts.head?.map (·.pos.line)).getD 0) then some id else none
    | _ => none))) := by
  unfold swappedStores
  rfl
theorem sw_reg {ts vs : List Expr} {k k2 : Nat} {tp vp : Pos} (C : Cks CX X c Y G f n) (h : regSw c ts vs = true) (hv : vs.all plainE = true) : swappedStores [.Tuple ts k tp] (.Tuple vs k2 vp) X.env = pure none := by
  have hst : (vs.any fun | .Starred .. => true | _ => false) = false := by
    rw [List.any_eq_false]
    intro e he
    have := List.all_eq_true.mp hv e he
    cases e <;> first | (cases this; done) | simp
  unfold regSw at h
  rw [swN_eq C] at h
  rw [sw_form, hst]
  simp only [Bool.or_eq_true] at h
  rcases h with (h | h) | h
  · rw [if_pos (by rcases h with h | h <;> simp only [h, Bool.true_or, Bool.or_true])]
  · split
    · rfl
    · rw [if_neg (by decide), if_pos (by rcases h with h | h <;> simp only [h, Bool.true_or, Bool.or_true])]
  · split
    · rfl
    · rw [if_neg (by decide)]
      split
      · rfl
      · first | rfl | rw [if_pos h]
theorem sw_par {ts vs : List Expr} {k k2 : Nat} {tp vp : Pos} (C : Cks CX X c Y G f n) (h : regSw c ts vs = false) (hp : parOk c ts vs = true) (hv : vs.all plainE = true) : swappedStores [.Tuple ts k tp] (.Tuple vs k2 vp) X.env = pure (some (swN c ts)) := by
  have hst : (vs.any fun | .Starred .. => true | _ => false) = false := by
    rw [List.any_eq_false]
    intro e he
    have := List.all_eq_true.mp hv e he
    cases e <;> first | (cases this; done) | simp
  unfold regSw at h
  unfold parOk at hp
  rw [swN_eq C] at h ⊢
  rw [sw_form, hst]
  simp only [Bool.or_eq_false_iff] at h
  obtain ⟨⟨⟨h1, h2⟩, h3, h4⟩, h5⟩ := h
  have hp : vs.all (constantsAlone 8) = false := by simpa using hp
  have hb : (X.env.blockKind != .function) = false := by rw [C.blk]; rfl
  rw [if_neg (by simp only [h1, h2, hb]; decide), if_neg (by decide), if_neg (by simp only [h3, h4]; decide), if_neg (by rw [h5]; decide), if_neg (by rw [hp]; decide)]
/-! ### all statements -/
structure SndS (X : Cx) (c : Cc) (Y : Yc) (G : Nat → Option D) (f : CE) (st : Stmt) (s : S) : Prop where
  ps : PS X st (tS c.io X.K Y (asgS s) (ex G f s))
  io : c.io = true → 0 ∉ asgS s
structure SndSs (X : Cx) (c : Cc) (Y : Yc) (G : Nat → Option D) (f : CE) (sts : List Stmt) (ss : List S) : Prop where
  pss : PSs X sts (tS c.io X.K Y (asgSs ss) (exs G f ss))
  io : c.io = true → 0 ∉ asgSs ss
theorem cTg_io {c : Cc} (hc : c.io = true) : ∀ m, (∀ (e : Expr) (t : Tg), cTg c m e = some t → 0 ∉ tgSl t) ∧ (∀ (es : List Expr) (ts : List Tg), cTgs c m es = some ts → 0 ∉ tgsSl ts) := by
  intro m
  induction m with
  | zero => exact ⟨fun e t h => by simp [cTg] at h, fun es ts h => by simp [cTgs] at h⟩
  | succ m ih =>
    obtain ⟨ih1, ih2⟩ := ih
    constructor
    · intro e t h
      cases e with
      | Name x pos =>
        simp only [cTg] at h
        split at h
        · split at h
          · rename_i j hj
            split at h
            · cases h
            · rename_i hz
              cases h
              rw [hc, Bool.true_and] at hz
              intro z
              have : 0 = j := by simpa [tgSl] using z
              subst this
              exact hz rfl
          · cases h
        · cases h
      | Tuple es k pos =>
        simp only [cTg] at h
        split at h
        · obtain ⟨ts, h1, rfl⟩ := Option.map_eq_some_iff.mp h
          exact ih2 es ts h1
        · split at h
          · obtain ⟨ts, h1, rfl⟩ := Option.map_eq_some_iff.mp h
            exact ih2 es ts h1
          · cases h
      | _ => simp [cTg] at h
    · intro es ts h
      cases es with
      | nil =>
        simp only [cTgs] at h
        cases h
        simp [tgsSl]
      | cons e es =>
        simp only [cTgs] at h
        obtain ⟨t, h1, h2⟩ := Option.bind_eq_some_iff.mp h
        obtain ⟨us, h3, rfl⟩ := Option.map_eq_some_iff.mp h2
        simp only [tgsSl, List.mem_append, not_or]
        exact ⟨ih1 e t h1, ih2 es us h3⟩
theorem regSet {ts vs : List Expr} {k k2 : Nat} {tp vp pos : Pos} {m : Nat} {ir : S} (C : Cks CX X c Y G f n) (hca : c.ca = true) (hr : regSw c ts vs = true) (h : ((cTg c m (.Tuple ts k tp)).bind fun t => (cE c m (.Tuple vs k2 vp)).bind fun e => if noS e then some (mkSet t e) else none) = some ir) :
    SndS X c Y G f (.Assign [.Tuple ts k tp] (.Tuple vs k2 vp) pos) ir := by
  obtain ⟨t, q1, h⟩ := Option.bind_eq_some_iff.mp h
  obtain ⟨ie, q2, h⟩ := Option.bind_eq_some_iff.mp h
  have hns : noS ie = true ∧ ir = mkSet t ie := by
    split at h
    · rename_i hn
      exact ⟨hn, (Option.some.inj h).symm⟩
    · cases h
  obtain ⟨hns, rfl⟩ := hns
  have hio : c.io = true → 0 ∉ tgSl t := fun hc => (cTg_io hc m).1 _ t q1
  have Se := (all_all m).e CX X c Y G f n C.toCk _ ie q2
  cases m with
  | zero => simp [cTg] at q1
  | succ m =>
    simp only [cTg, hca, if_true] at q1
    obtain ⟨us, q3, rfl⟩ := Option.map_eq_some_iff.mp q1
    have hv : vs.all plainE = true := by
      simp only [cE] at q2
      split at q2
      · split at q2
        · obtain ⟨ia, _, q2⟩ := Option.bind_eq_some_iff.mp q2
          obtain ⟨irs, _, rfl⟩ := Option.map_eq_some_iff.mp q2
          cases hns
        · obtain ⟨irs, q4, _⟩ := Option.map_eq_some_iff.mp q2
          exact ((all_all m).es CX X c Y G f n C.toCk vs irs q4).plain
      · cases q2
    have plain : SndS X c Y G f (.Assign [.Tuple ts k tp] (.Tuple vs k2 vp) pos) (.set (.tup us) ie) := ⟨st_setT C.toCk hca q3 Se.pe (sw_reg C hr hv), hio⟩
    cases ie with
    | tup irs =>
      show SndS X c Y G f _ (match namesOf us with | some is => .par is irs | none => .set (.tup us) (.tup irs))
      cases hn : namesOf us with
      | none => exact plain
      | some is =>
        have e := namesOf_map hn
        subst e
        have S : irs.length ≤ 1000 ∧ PA X vs (tA X.K Y (evs G f irs)) := by
          simp only [cE] at q2
          split at q2
          · rename_i hz
            split at q2
            · obtain ⟨ia, _, q2⟩ := Option.bind_eq_some_iff.mp q2
              obtain ⟨ir2, _, z⟩ := Option.map_eq_some_iff.mp q2
              cases z
            · obtain ⟨ir2, q4, z⟩ := Option.map_eq_some_iff.mp q2
              cases z
              have S := (all_all m).es CX X c Y G f n C.toCk vs irs q4
              exact ⟨by rw [← S.len]; exact hz, S.pa⟩
          · cases q2
        refine ⟨st_parT C hca q3 S.1 S.2 (sw_reg C hr hv), fun hc => ?_⟩
        have hz := hio hc
        have e2 : ∀ js : List Nat, tgSl (.tup (js.map .name)) = js := fun js => by
          show tgsSl (js.map .name) = js
          induction js with
          | nil => rfl
          | cons j js ih => show j :: tgsSl (js.map .name) = _; rw [ih]
        rw [e2] at hz
        exact hz
    | _ => exact plain
theorem swN2 {x y : Str} {px py : Pos} {vs : List Expr} (h : regSw c [.Name x px, .Name y py] vs = false) : swN c [.Name x px, .Name y py] = [x, y] ∧ c.sc.names.lookup x = some .local ∧ c.sc.names.lookup y = some .local := by
  unfold regSw at h
  simp only [Bool.or_eq_false_iff] at h
  obtain ⟨⟨_, h3, _⟩, _⟩ := h
  have h3 : (swN c [.Name x px, .Name y py]).length = 2 := by simpa using h3
  unfold swN at h3 ⊢
  simp only [List.filterMap_cons, List.filterMap_nil] at h3 ⊢
  generalize hl : ((List.head? [Expr.Name x px, Expr.Name y py]).map (·.pos.line)).getD 0 = l at h3 ⊢
  cases h1 : (c.sc.names.lookup x == some NameKind.local && px.line == l) <;> cases h2 : (c.sc.names.lookup y == some NameKind.local && py.line == l) <;>
    simp only [h1, h2, if_true, if_false, Bool.false_eq_true] at h3 ⊢ <;> first | (simp at h3; done) | skip
  rw [Bool.and_eq_true] at h1 h2
  exact ⟨trivial, eq_of_beq h1.1, eq_of_beq h2.1⟩
theorem swN3 {x y z : Str} {px py pz : Pos} {vs : List Expr} (h : regSw c [.Name x px, .Name y py, .Name z pz] vs = false) : swN c [.Name x px, .Name y py, .Name z pz] = [x, y, z] ∧ c.sc.names.lookup x = some .local ∧ c.sc.names.lookup y = some .local ∧ c.sc.names.lookup z = some .local := by
  unfold regSw at h
  simp only [Bool.or_eq_false_iff] at h
  obtain ⟨⟨_, h3, _⟩, _⟩ := h
  have h3 : (swN c [.Name x px, .Name y py, .Name z pz]).length = 3 := by simpa using h3
  unfold swN at h3 ⊢
  simp only [List.filterMap_cons, List.filterMap_nil] at h3 ⊢
  generalize hl : ((List.head? [Expr.Name x px, Expr.Name y py, Expr.Name z pz]).map (·.pos.line)).getD 0 = l at h3 ⊢
  cases h1 : (c.sc.names.lookup x == some NameKind.local && px.line == l) <;> cases h2 : (c.sc.names.lookup y == some NameKind.local && py.line == l) <;> cases h4 : (c.sc.names.lookup z == some NameKind.local && pz.line == l) <;>
    simp only [h1, h2, h4, if_true, if_false, Bool.false_eq_true] at h3 ⊢ <;> first | (simp at h3; done) | skip
  rw [Bool.and_eq_true] at h1 h2 h4
  exact ⟨trivial, eq_of_beq h1.1, eq_of_beq h2.1, eq_of_beq h4.1⟩
end
end Fw

/-! Fw: raise; try: .., except .. as n: return e -/
namespace Fw
open PySem PySem.Spec PyProof.Rows L2

/-- what the clause wishes of an exception: the suite runs, the exception known to the object -/
def wTry (K : PySem.W.Frag) (c : Value) (i : Nat) (ts : Addr → TS) (D : Ends) : WX := fun cls d σ H => PySem.W.exmOne K cls c = some true ∧ ∀ (a : Addr) (oe : Obj) (vs : Array Value), H a = none → oe.cls = cls → oe.dict = d → oe.data = .fields vs → vs[2]? = some .none →
  ts a { nx := fun σ' H' => D.nx (σ'.set i none) H', rt := D.rt, bk := fun σ' H' => D.bk (σ'.set i none) H', ct := fun σ' H' => D.ct (σ'.set i none) H' } (σ.set i (some (.ref a))) (upd H a (.frz oe (.ext fun _ => True)))
/-- an object that is new since the entry becomes known -/
theorem inv_known {X : Cx} {pins : List (Addr × Obj)} {σ : L2.St} {H : Hp} {s : Shared} {a : Addr} {oe : Obj} (I : Inv X pins σ H s) (ha : s.heap.get? a = some oe) (na : H a = none) (h0 : X.s_0.heap.get? a = none) (hb : X.base.get? a = none) (nL : a ≠ X.env.locals) (nC : ∀ x c, X.env.cells.lookup x = some c → c ≠ a) (np : ∀ p ∈ X.pn ++ pins, p.1 ≠ a) :
    Inv (X.suite a (X.pn ++ pins)) [] σ (upd H a (.frz oe (.ext fun _ => True))) s := by
  have kp : ∀ b u, H b = some u → upd H a (.frz oe (.ext fun _ => True)) b = some u := fun b u e => by rw [upd_ne (fun z => by rw [z, na] at e; cases e)]; exact e
  have ne : ∀ b, b ≠ a → upd H a (.frz oe (.ext fun _ => True)) b = H b := fun b hb => upd_ne hb
  have b := I.base
  refine ⟨I.ok.suite _ _, I.os, I.bare, ⟨b.keep, b.slot, fun c o e n hx => ?_, b.there, fun c xs e => kp _ _ (b.tups c xs e), fun c o u e => kp _ _ (b.frzs c o u e), fun c ps e => ?_⟩, I.loc, I.cell, ?_, fun x c e => ?_, fun p hp => ?_, fun c u e => ?_, I.len⟩
  · rw [ne c (fun z => by rw [z, h0] at e; cases e)]; exact b.free c o e n hx
  · obtain ⟨more, q⟩ := b.tbls c ps e; exact ⟨more, kp _ _ q⟩
  · rw [ne _ (Ne.symm nL)]; exact I.free
  · rw [ne _ (nC x c e)]; exact I.freeC x c e
  · have hp : p ∈ X.pn ++ pins := by rw [List.append_nil] at hp; exact hp
    obtain ⟨p1, p2, p3⟩ := I.pin p hp
    exact ⟨p1, by rw [ne _ (np p hp)]; exact p2, p3⟩
  · by_cases hc : c = a
    · subst hc
      rw [upd_same] at e
      cases e
      exact ⟨ha, trivial, ⟨_, ha⟩, fun _ _ _ _ => trivial⟩
    · rw [ne c hc] at e
      exact (I.hok c u e).stay (fun _ _ _ z => z) (fun b z => kp _ _ z) fun b xs z => kp _ _ z
/-- an except suite's context, the exception known to the object -/
abbrev suiteH (X : Cx) (a : Addr) (oe : Obj) (pn : List (Addr × Obj)) : Cx := { X.suite a pn with H_0 := upd X.H_0 a (.frz oe (.ext fun _ => True)) }
theorem inv_suiteH {X : Cx} {pn pins : List (Addr × Obj)} {σ : L2.St} {H : Hp} {s : Shared} {a : Addr} {oe : Obj} (I : Inv (X.suite a pn) pins σ H s) (hH : H a = some (.frz oe (.ext fun _ => True))) (h0 : X.s_0.heap.get? a = none) (hb : X.base.get? a = none) (nF : a ∉ X.fs) : Inv (suiteH X a oe pn) pins σ H s := by
  have ne : ∀ b, b ≠ a → upd X.H_0 a (.frz oe (.ext fun _ => True)) b = X.H_0 b := fun b hb => upd_ne hb
  have no : ∀ {b}, upd X.H_0 a (.frz oe (.ext fun _ => True)) b = none → X.H_0 b = none := fun {b} h => by
    by_cases hb : b = a
    · subst hb; rw [upd_same] at h; cases h
    · rw [ne b hb] at h; exact h
  have o := I.ok
  have b := I.base
  refine ⟨⟨o.mod, o.kind, o.glob, o.blt, o.above, o.inj, o.has, o.cab, o.hd, o.frames, o.stk, o.exf, fun c u e => ⟨(o.bs c u e).1, ?_⟩, o.bsz, o.noex, o.exfs, o.funs, fun c hc => ?_⟩, I.os, I.bare, ⟨fun c u e n hx => b.keep c u e (no n) hx, fun c u e n hx => b.slot c u e (no n) hx, fun c u e n hx => b.free c u e (no n) hx, b.there, fun c xs e => ?_, fun c u y e => ?_, fun c ps e => ?_⟩, I.loc, I.cell, I.free, I.freeC, I.pin, I.hok, I.len⟩
  · show upd X.H_0 a _ c = none
    rw [ne c fun z => by rw [z, hb] at e; cases e]
    exact (o.bs c u e).2
  · show upd X.H_0 a _ c = none
    rw [ne c fun z => nF (z ▸ hc)]
    exact o.frf c hc
  · by_cases hc : c = a
    · subst hc
      have e : upd X.H_0 c _ c = _ := e
      rw [upd_same] at e; cases e
    · exact b.tups c xs ((ne c hc).symm.trans e)
  · by_cases hc : c = a
    · subst hc
      have e : upd X.H_0 c _ c = _ := e
      rw [upd_same] at e; cases e
      exact hH
    · exact b.frzs c u y ((ne c hc).symm.trans e)
  · by_cases hc : c = a
    · subst hc
      have e : upd X.H_0 c _ c = _ := e
      rw [upd_same] at e; cases e
    · exact b.tbls c ps ((ne c hc).symm.trans e)
theorem inv_unsuiteH {X : Cx} {pn pins : List (Addr × Obj)} {σ : L2.St} {H : Hp} {s : Shared} {a : Addr} {oe : Obj} (I : Inv (suiteH X a oe pn) pins σ H s) (ok : X.Ok) (nt : ∀ xs, X.H_0 a ≠ some (.tup xs)) (nf : ∀ o y, X.H_0 a ≠ some (.frz o y)) (nb : ∀ ps, X.H_0 a ≠ some (.tbl ps)) (h0 : X.s_0.heap.get? a = none) : Inv (X.suite a pn) pins σ H s := by
  have ne : ∀ b, b ≠ a → upd X.H_0 a (.frz oe (.ext fun _ => True)) b = X.H_0 b := fun b hb => upd_ne hb
  have b := I.base
  have up : ∀ {c u}, c ≠ a → X.H_0 c = some u → upd X.H_0 a (.frz oe (.ext fun _ => True)) c = some u := fun {c u} hc e => by
    rw [ne c hc]; exact e
  have nn : ∀ {c o}, X.s_0.heap.get? c = some o → X.H_0 c = none → upd X.H_0 a (.frz oe (.ext fun _ => True)) c = none := fun {c o} e n => by
    rw [ne c fun z => by rw [z, h0] at e; cases e]; exact n
  exact ⟨ok.suite _ _, I.os, I.bare, ⟨fun c u e n hx => b.keep c u e (nn e n) hx, fun c u e n hx => b.slot c u e (nn e n) hx, fun c u e n hx => b.free c u e (nn e n) hx, b.there, fun c xs e => b.tups c xs (up (fun z => nt xs (z ▸ e)) e), fun c u y e => b.frzs c u y (up (fun z => nf u y (z ▸ e)) e), fun c ps e => b.tbls c ps (up (fun z => nb ps (z ▸ e)) e)⟩, I.loc, I.cell, I.free, I.freeC, I.pin, I.hok, I.len⟩
section
variable {X : Cx} {x n : Str} {c : Value} {i : Nat} {body : List Stmt} {e : Expr} {np rp pos pos' : Pos} {tb : WX → TS} {ts : Addr → TS}
theorem ps_tryX (hs : X.stack = X.env :: X.outer) (hf : X.env.frame = some X.env.locals) (hex : X.ex = []) (hN : X.N.Nodup) (hi : X.N[i]? = some n) (hln : X.env.kindOf n = some .local) (hc : Names X x c)
    (hb : ∀ (W : WX) (pn : List (Addr × Obj)) (xe : Value → Shared → Prop), L2N.Takes (X.tr pn xe) W → PassesOwn (model X.prog X.w) X.A X.env xe → PSs (X.tr pn xe) body (tb W)) (hsu : ∀ (a : Addr) (oe : Obj) (pn : List (Addr × Obj)), HotT (suiteH X a oe pn) → PS (suiteH X a oe pn) (.Return (some e) rp) (ts a)) :
    PS X (.Try body [.ExceptHandler (some (.Name x np)) (some n) [.Return (some e) rp] pos'] [] [] pos) (fun D σ H => tb (wTry X.K c i ts D) D σ H) := by
  refine ⟨fun pins s σ H D I h => wpAny_Try_except ?_⟩
  have ok := I.ok
  have fr : X.A.frames = some (X.env :: X.outer) := by rw [ok.frames, hs]
  refine wpAny_mono ((hb (wTry X.K c i ts D) (X.pn ++ pins) (fun e1 s₁ => wpAny (model X.prog X.w) X.A (noteFrame e1 X.env) (fun _ s₂ => wpAny (model X.prog X.w) X.A (setFlight e1 none) (fun _ s₃ =>
    wpAny (model X.prog X.w) X.A (handleBy e1 X.env [.ExceptHandler (some (.Name x np)) (some n) [.Return (some e) rp] pos']) (SP X pins D) X.xe s₃) X.xe s₂) X.xe s₁) (fun u s' ⟨a, B, sI, pins1, σ1, H1, cls, d, eu, J, nb, up, sky, na, os, ag, hcls, hyes⟩ => ?_) PassesOwn.looking).run [] s σ H D (I.toTry _) h) (fun f s1 hsp => ?_) fun _ _ z => z
  · subst eu
    have J : Inv X pins σ1 H1 sI := J.ofTry ok
    have sky : Sky B (X.env :: X.outer) a (L2N.Zn cls d) X.env.locals s'.heap := by rw [← hs]; exact sky
    refine L2N.Sky.land L2N.Zn.steady fr hf sky fun h3 fl3 up3 => ?_
    have J3 : Inv X pins σ1 H1 { s' with heap := h3 } := J.landed nb fl3.1 (up.trans up3) os ag
    obtain ⟨o3, v3, g3, z3, d3⟩ := fl3.there
    -- the exception is no frame, no cell, new since the entry
    have nfr : a ∉ frs (X.env :: X.outer) := fun hm => by
      obtain ⟨_, o', q, hnf⟩ := fl3.2.2.1.mem hm
      rw [g3] at q; cases q
      exact hnf _ d3
    have nB : B.get? a = none := fl3.2.1
    have nI : sI.heap.get? a = none := by
      cases q : sI.heap.get? a with
      | none => rfl
      | some o => rw [nb a o q (by rw [hs]; exact nfr)] at nB; cases nB
    have n0 : X.s_0.heap.get? a = none := by
      cases q : X.s_0.heap.get? a with
      | none => rfl
      | some o =>
        obtain ⟨o', q'⟩ := J.base.there a o q (by rw [hex]; exact List.not_mem_nil)
        rw [nI] at q'; cases q'
    have nb0 : X.base.get? a = none := by
      cases q : X.base.get? a with
      | none => rfl
      | some o => rw [(ok.bs a o q).1] at n0; cases n0
    have nL : a ≠ X.env.locals := fun z => nfr (List.mem_filterMap.mpr ⟨X.env, List.mem_cons_self, by rw [hf, z]⟩)
    have nC : ∀ y c1, X.env.cells.lookup y = some c1 → c1 ≠ a := fun y c1 q z => by
      obtain ⟨v, o, q2, _⟩ := J.cell y c1 q
      rw [z, nI] at q2; cases q2
    have nP : ∀ p ∈ X.pn ++ pins, p.1 ≠ a := fun p hp z => by
      have q := (J.pin p hp).1
      rw [z, nI] at q; cases q
    have S3 := inv_known J3 g3 na n0 nb0 nL nC nP
    refine wpAny_handleBy_cons (codeAny_handlers_test ?_) (by intro q; cases q)
    have LM := PySem.W.exm_one (M := model X.prog X.w) J3.kIn (fun A Q E s k q => wpAny_typeOf_ref (k _ _ g3) (by rw [z3.1]; exact q)) hcls
    have test : ∀ {Q : Value → Shared → Prop} {E : Value → Shared → Prop}, Q c { s' with heap := h3 } → wpAny (model X.prog X.w) (X.A.mark (some (.ref a))) (eval (.Name x np) X.env) Q E { s' with heap := h3 } := fun {Q E} q => by
      obtain ⟨hg, hdbg, hm | ⟨hm, hv, hnn⟩⟩ := hc
      · exact ld_glob (X := X.suite a (X.pn ++ pins)) S3 hg hm q hdbg
      · exact ld_blt (X := X.suite a (X.pn ++ pins)) S3 hg hm hv q hnn hdbg
    refine test (LM.here (codeAny_handlers_suite_as (HandSPX.lands_againZ fl3 fun h4 fl4 up4 => ?_)))
    have J4 : Inv X pins σ1 H1 { s' with heap := h4 } := J.landed nb fl4.1 ((up.trans up3).trans up4) os ag
    obtain ⟨o4, v4, g4, z4, d4⟩ := fl4.there
    have S4 := inv_known J4 g4 na n0 nb0 nL nC nP
    refine store_ok (X := X.suite a (X.pn ++ pins)) (v := .ref a) S4 hN hi (.inl hln) rfl (fun s5 S5 => ?_) (.inr hln)
    have nt : ∀ xs, X.H_0 a ≠ some (.tup xs) := fun xs e => by
      have := J.base.tups a xs e
      rw [na] at this; cases this
    have nf : ∀ o y, X.H_0 a ≠ some (.frz o y) := fun o y e => by
      have := J.base.frzs a o y e
      rw [na] at this; cases this
    have nbl : ∀ ps, X.H_0 a ≠ some (.tbl ps) := fun ps e => by
      obtain ⟨more, q⟩ := J.base.tbls a ps e
      rw [na] at q; cases q
    have S6 := inv_suiteH (oe := o4) S5 upd_same n0 nb0 (fun z => by
      obtain ⟨e', he, h2⟩ := List.mem_filterMap.mp z
      exact nfr (List.mem_filterMap.mpr ⟨e', List.mem_cons_of_mem _ he, h2⟩))
    have hotT : HotT (suiteH X a o4 (X.pn ++ pins)) := ⟨a, o4, _, v4, rfl, upd_same, d4, z4.2.2 v4 d4⟩
    have run := (pss_one (hsu a o4 (X.pn ++ pins) hotT)).run [] s5 _ _ _ S6 (hyes a o4 v4 na z4.1 z4.2.1 d4 (z4.2.2 v4 d4))
    refine wpAny_mono run (fun f s6 hsp => ?_) fun _ _ z => False.elim z
    have back : ∀ {σ6 : L2.St} {H6 : Hp}, Inv (suiteH X a o4 (X.pn ++ pins)) [] σ6 H6 s6 → Inv X pins σ6 H6 s6 := fun {σ6 H6} S' =>
      have S := inv_unsuiteH S' ok nt nf nbl n0
      ⟨ok, S.os, S.bare, S.base, S.loc, S.cell, S.free, S.freeC, fun p hp => S.pin p (by rw [List.append_nil]; exact hp), S.hok, S.len⟩
    cases f with
    | next =>
      obtain ⟨σ6, H6, S6, q6⟩ := hsp
      exact gone_ok (back S6) hN hi hln fun s7 J7 => ⟨_, _, J7, q6⟩
    | brk =>
      obtain ⟨σ6, H6, S6, q6⟩ := hsp
      exact gone_ok (back S6) hN hi hln fun s7 J7 => ⟨_, _, J7, q6⟩
    | cont =>
      obtain ⟨σ6, H6, S6, q6⟩ := hsp
      exact gone_ok (back S6) hN hi hln fun s7 J7 => ⟨_, _, J7, q6⟩
    | ret u =>
      obtain ⟨v6, σ6, H6, S6, r6, q6⟩ := hsp
      exact gone_ok (back S6) hN hi hln fun s7 J7 => ⟨_, _, _, J7, r6, q6⟩
  · cases f with
    | next => exact wpAny_execs_nil ⟨_, _, hsp.choose_spec.choose_spec.1.ofTry ok, hsp.choose_spec.choose_spec.2⟩
    | brk => exact ⟨_, _, hsp.choose_spec.choose_spec.1.ofTry ok, hsp.choose_spec.choose_spec.2⟩
    | cont => exact ⟨_, _, hsp.choose_spec.choose_spec.1.ofTry ok, hsp.choose_spec.choose_spec.2⟩
    | ret u =>
      obtain ⟨v, σ', H', J, r, q⟩ := hsp
      exact ⟨v, σ', H', J.ofTry ok, r, q⟩
end

/-! ### the soundness -/
section
variable {CX : CXT} {X : Cx} {c : Cc} {Y : Yc} {G : Nat → Option D} {f : CE} {n : Nat}
theorem Ck.cls {x : Str} {k : Nat} (C : Ck CX X c Y G f n) (hk : ixOf x (c.xT.map Prod.fst) = some k) : ∃ D, Y.xc k = .ref D ∧ X.mg x = some (.ref D) ∧ ExcOk X.K x D := by
  obtain ⟨⟨D, h1, h2, h3, _⟩, _⟩ := C.xcl x k hk
  exact ⟨D, h1, h2, h3⟩
/-- raise X('..') -/
theorem st_raise {x m : Str} {k j : Nat} {p p2 pos pos2 : Pos} (C : Cks CX X c Y G f n) (hca : c.ca = true) (hg : isGl c x = true) (hk : ixOf x (c.xT.map Prod.fst) = some k) :
    PS X (.Raise (some (.Call (.Name x p) [.Constant (.str m) j p2] [] pos)) none pos2) (tS c.io X.K Y [] (ex G f (.raise k))) := by
  obtain ⟨⟨D, hD, hm, hok, he, hkp, hsb, hty⟩, hdb, _⟩ := C.xcl x k hk
  refine (L2N.ps_raise (C.calm hca) C.tk (L2N.pmk_own PySem.F.excBase_ValueError he hm hkp (raises_own hsb hty) (gl_of C.toCk hg) (beq_eq_false_iff_ne.mpr hdb))).to fun D σ H w => ?_
  obtain ⟨r, g, w⟩ := w
  simp only [ex] at w
  have w : sexK X.K Y [] r σ H k r := w
  rw [← hD]
  exact w σ H (.of (.refl g))
/-- the context of a try's body -/
theorem Cks.tr (C : Cks CX X c Y G f n) {pn : List (Addr × Obj)} {xe : Value → Shared → Prop} {W : WX} (tk : L2N.Takes (X.tr pn xe) W) (own : PassesOwn (model X.prog X.w) X.A X.env xe) : Cks CX (X.tr pn xe) c { Y with W := W } G f n :=
  { N := C.N, nd := C.nd, sc := C.sc, calm := C.calm, hot := C.hot, hbca := C.hbca, hchb := C.hchb, roomH := C.roomH, un := C.un, room := C.room, bi := C.bi, gcd := C.gcd, glo := C.glo, fn := C.fn, fnH := C.fnH, cxf := C.cxf, code := C.code, st := C.st, glo0 := C.glo0, def0 := C.def0, N0 := C.N0, xnd := C.xnd, xcl := C.xcl, xsub := C.xsub,
    pass := fun pins σ H s e s' I z => by
      rw [C.cx] at z
      exact tk e s' (L2N.XE.of_call I (fun _ _ _ h => h) z),
    own := own, cx := C.cx, tk := tk, stk := C.stk, frm := C.frm, ex0 := C.ex0, blk := C.blk }
/-- .. of a handler's expression -/
theorem Ck.hd (C : Ck CX X c Y G f n) (hca : c.ca = true) (a : Addr) (oe : Obj) (pn : List (Addr × Obj)) (hot : HotT (suiteH X a oe pn)) : Ck CX (suiteH X a oe pn) { c with ca := false, gd := false, hb := true, hc := true } Y.no G f n :=
  { N := C.N, nd := C.nd, sc := C.sc, calm := fun h => (by cases h), hot := fun _ => hot, hbca := fun _ => rfl, hchb := fun _ => rfl, roomH := fun _ => (by have z := L2H.roomH_of (C.room0 hca); exact ⟨z.dp, z.un⟩), un := C.un, room := fun h => (by cases h), bi := C.bi, gcd := C.gcd, glo := C.glo, fn := fun h => (by cases h), fnH := C.fnH,
    cxf := C.cxf, code := fun h => (by cases h), st := C.st, glo0 := C.glo0, def0 := C.def0, N0 := C.N0, xnd := C.xnd, xcl := C.xcl, xsub := C.xsub, pass := fun pins σ H s e s' I z => absurd z (C.cxf _ _ _ _ _) }
/-- what a handler's end is to reach -/
def tHd (K : PySem.W.Frag) (T : List Addr) (io : Bool) (i : Nat) (m : M Out) (a : Addr) : TS := fun D σ H => ∃ r nm, Gd K T r σ H ∧ r[i]? = some (.fz (excD nm)) ∧ σ[i]? = some (some (.ref a)) ∧ Wd (m r) (fun _ _ => False) fun o r' => ∀ σ' H', SPost K T [] r σ H r' σ' H' → EndS io K r σ H o D σ' H'
theorem st_hdE {e : Expr} {ie : E} {i : Nat} {a : Addr} {oe : Obj} {pn : List (Addr × Obj)} {rp : Pos} (hio : c.io = false) (he : PE (suiteH X a oe pn) e (tE X.K Y.no (ev G f ie))) : PS (suiteH X a oe pn) (.Return (some e) rp) (tHd X.K Y.T false i (ex G f (.ret false ie)) a) := by
  have h := st_ret (X := suiteH X a oe pn) (c := { c with io := false }) (Y := Y.no) (G := G) (f := f) (pos := rp) he
  refine h.to fun D σ H w => ?_
  obtain ⟨r, nm, g, _, _, w⟩ := w
  exact ⟨r, g, w.mono (fun _ _ z => z.elim) fun o r' _ q => q⟩
/-- a slot is emptied -/
theorem spost_no {K : PySem.W.Frag} {T : List Addr} {r : Env} {σ : St} {H : Hp} (g : Gd K T r σ H) (i : Nat) : SPost K T [i] r σ H (r.set i .no) (σ.set i none) H := by
  have go : ∀ {j : Nat} {z : Sl}, (r.set i .no)[j]? = some z → z ≠ .no → j ≠ i ∧ r[j]? = some z := fun {j z} h hn => by
    by_cases hj : i = j
    · subst hj
      by_cases hl : i < r.length
      · rw [List.getElem?_set_self hl] at h; cases h; exact absurd rfl hn
      · rw [List.getElem?_eq_none (by simpa using hl)] at h; cases h
    · rw [List.getElem?_set_ne hj] at h; exact ⟨fun z => hj z.symm, h⟩
  refine ⟨⟨by rw [List.length_set, List.length_set]; exact g.len, fun j d h => ?_, fun j d h => ?_, fun j j' d e v h1 h2 h3 h4 => ?_, g.tb⟩, fun _ _ h _ _ => h, fun a ⟨j, d, h1, h2⟩ => ?_, fun _ h => h, fun j hj => ?_, by rw [List.length_set]⟩
  · obtain ⟨n1, h⟩ := go h (by intro z; cases z)
    rw [List.getElem?_set_ne (Ne.symm n1)]
    exact g.fz j d h
  · obtain ⟨n1, h⟩ := go h (by intro z; cases z)
    rw [List.getElem?_set_ne (Ne.symm n1)]
    exact g.ow j d h
  · obtain ⟨n1, h1⟩ := go h1 (by intro z; cases z)
    obtain ⟨n2, h2⟩ := go h2 (by intro z; cases z)
    rw [List.getElem?_set_ne (Ne.symm n1)] at h3
    rw [List.getElem?_set_ne (Ne.symm n2)] at h4
    exact g.inj j j' d e v h1 h2 h3 h4
  · obtain ⟨n1, h1⟩ := go h1 (by intro z; cases z)
    rw [List.getElem?_set_ne (Ne.symm n1)] at h2
    exact .inl ⟨j, d, h1, h2⟩
  · rw [List.getElem?_set_ne (fun z => hj (by rw [z]; exact List.mem_cons_self))]
/-- try: body, except all of them as y: return .. -/
theorem st_try {x y : Str} {i : Nat} {body : List Stmt} {e : Expr} {np rp pos pos' : Pos} {ib : List S} {h : S} (C : Cks CX X c Y G f n) (hca : c.ca = true) (hg : isGl c x = true) (hx : (c.xT.lookup x).isSome = true) (hall : c.xT.all (fun z => z.2.contains x) = true) (hy : slotOf c y = some i) (hl : isLoc c y = true) (hio : c.io = false)
    (hb : ∀ (W : WX) (pn : List (Addr × Obj)) (xe : Value → Shared → Prop), Cks CX (X.tr pn xe) c { Y with W := W } G f n → PSs (X.tr pn xe) body (tS c.io X.K { Y with W := W } (asgSs ib) (exs G f ib)))
    (hh : ∀ (a : Addr) (oe : Obj) (pn : List (Addr × Obj)), HotT (suiteH X a oe pn) → PS (suiteH X a oe pn) (.Return (some e) rp) (tHd X.K Y.T false i (ex G f h) a)) :
    PS X (.Try body [.ExceptHandler (some (.Name x np)) (some y) [.Return (some e) rp] pos'] [] [] pos) (tS c.io X.K Y (i :: asgSs ib) (ex G f (.tryS ib i (c.xT.map Prod.fst) h))) := by
  have mem : x ∈ c.xT.map Prod.fst := by
    obtain ⟨anc, e⟩ := Option.isSome_iff_exists.mp hx
    exact List.mem_map.mpr ⟨_, PySem.mem_of_lookup e, rfl⟩
  obtain ⟨kx, hkx⟩ := ixOf_of_mem mem
  obtain ⟨⟨D0, _, hD0, _⟩, hdb, _⟩ := C.xcl x kx hkx
  have hln : X.env.kindOf y = some .local := by
    show X.env.scope.names.lookup y = _
    rw [C.sc]
    unfold isLoc at hl
    split at hl
    · assumption
    · cases hl
  obtain ⟨hN, _, _, _⟩ := slot_vis C.toCk hy
  refine (ps_tryX (ts := tHd X.K Y.T false i (ex G f h)) (tb := fun W => tS c.io X.K { Y with W := W } (asgSs ib) (exs G f ib)) C.stk C.frm C.ex0 C.nd hN hln (c := .ref D0) ⟨gl_of C.toCk hg, beq_eq_false_iff_ne.mpr hdb, .inl hD0⟩ (fun W pn xe tk own => hb W pn xe (C.tr tk own)) hh).to fun D σ H w => ?_
  obtain ⟨r, g, w⟩ := w
  simp only [ex] at w
  refine ⟨r, g, ?_⟩
  unfold catchM at w
  have hio0 : c.io = true → 0 ∉ i :: asgSs ib := fun z => by rw [hio] at z; cases z
  cases hx1 : exs G f ib r with
  | no => rw [hx1] at w; exact w.elim
  | ok o r1 =>
    rw [hx1] at w
    exact fun σ1 H1 p1 => w σ1 H1 (p1.wide fun j hj => List.mem_cons_of_mem _ hj)
  | ex k r1 =>
    rw [hx1] at w
    dsimp only at w
    cases hnm : (c.xT.map Prod.fst)[k]? with
    | none => rw [hnm] at w; exact w.elim
    | some nm =>
      rw [hnm] at w
      dsimp only at w
      split at w
      · rename_i hi
        intro σ1 H1 p1
        have hk : ixOf nm (c.xT.map Prod.fst) = some k := ixOf_nodup C.xnd hnm
        obtain ⟨D1, hxc, hD1, hok⟩ := C.cls hk
        have lk : ∃ anc, c.xT.lookup nm = some anc ∧ anc.contains x = true := by
          rw [List.getElem?_map] at hnm
          obtain ⟨z, hz, rfl⟩ := Option.map_eq_some_iff.mp hnm
          have hm := List.mem_of_getElem? hz
          exact ⟨z.2, lookup_nodup C.xnd hm, List.all_eq_true.mp hall z hm⟩
        obtain ⟨anc, l1, l2⟩ := lk
        refine ⟨?_, fun a oe vs na hcls hdict hdat hctx => ?_⟩
        · show PySem.W.exmOne X.K (Y.xc k) (.ref D0) = some true
          rw [hxc, (C.xsub nm x anc D1 D0 l1 mem hD1 hD0).2, l2]
        · have hcls : oe.cls = .ref D1 := by rw [hcls]; exact hxc
          have same : Same H1 (upd H1 a (.frz oe (.ext fun _ => True))) := same_upd na
          have pa := Post.same p1.gd same
          have hf : Fz X.K (upd H1 a (.frz oe (.ext fun _ => True))) (excD nm) (.ref a) := by
            unfold excD
            simp only [Fz, excNm]
            exact ⟨a, rfl, oe, _, D1, vs, upd_same, hcls, hdict, hdat, hok, hctx⟩
          have p2 := spost_fz pa.gd hi hf
          have il : i < σ1.length := by rw [← p1.gd.len]; exact hi
          refine ⟨r1.set i (.fz (excD nm)), nm, p2.gd, List.getElem?_set_self hi, List.getElem?_set_self il, ?_⟩
          cases hh1 : ex G f h (r1.set i (.fz (excD nm))) with
          | no => rw [hh1] at w; exact w.elim
          | ex _ _ => rw [hh1] at w; exact w.elim
          | ok o r3 =>
            rw [hh1] at w
            have w : ∀ σ' H', SPost X.K Y.T (i :: asgSs ib) r σ H (r3.set i .no) σ' H' → EndS c.io X.K r σ H o D σ' H' := w
            intro σ3 H3 p3
            have pq : SPost X.K Y.T (i :: asgSs ib) r σ H (r1.set i (.fz (excD nm))) (σ1.set i (some (.ref a))) (upd H1 a (.frz oe (.ext fun _ => True))) := ((p1.trans (SPost.of (A := []) pa)).trans p2).wide fun j hj => by
              simp only [List.append_nil, List.mem_append, List.mem_singleton] at hj
              rcases hj with hj | hj
              · exact List.mem_cons_of_mem _ hj
              · rw [hj]; exact List.mem_cons_self
            have pe := ((pq.trans p3).trans (spost_no p3.gd i)).wide (B := i :: asgSs ib) fun j hj => by
              simp only [List.append_nil, List.mem_append, List.mem_singleton] at hj
              rcases hj with hj | hj
              · exact hj
              · rw [hj]; exact List.mem_cons_self
            have q := w _ _ pe
            rw [hio] at q
            cases o with
            | nx => exact q
            | bk => exact q
            | ct => exact q
            | rt v => exact fun z hz => q z (rvs_trans (fun z => by cases z) g pq hz)
      · exact w.elim
end
end Fw

/-! Fw: THE SOUNDNESS of statements: the induction -/
namespace Fw
open PySem PySem.Spec PyProof.Rows L2

structure AllS (m : Nat) : Prop where
  s : ∀ (CX : CXT) (X : Cx) (c : Cc) (Y : Yc) (G : Nat → Option D) (f : CE) (n : Nat), Cks CX X c Y G f n → ∀ (s : Stmt) (ir : S), cS c m s = some ir → SndS X c Y G f s ir
  ss : ∀ (CX : CXT) (X : Cx) (c : Cc) (Y : Yc) (G : Nat → Option D) (f : CE) (n : Nat), Cks CX X c Y G f n → ∀ (s : List Stmt) (ir : List S), cSs c m s = some ir → SndSs X c Y G f s ir
theorem alls_zero : AllS 0 := ⟨fun CX X c Y G f n C s ir h => by simp [cS] at h, fun CX X c Y G f n C s ir h => by simp [cSs] at h⟩
theorem not_mem_app {l1 l2 : List Nat} {b : Bool} (h1 : b = true → 0 ∉ l1) (h2 : b = true → 0 ∉ l2) : b = true → 0 ∉ l1 ++ l2 := fun h => by
  rw [List.mem_append, not_or]
  exact ⟨h1 h, h2 h⟩
theorem alls_ss {m : Nat} (A : AllS m) (CX : CXT) (X : Cx) (c : Cc) (Y : Yc) (G : Nat → Option D) (f : CE) (n : Nat) (C : Cks CX X c Y G f n) (s : List Stmt) (ir : List S) (h : cSs c (m + 1) s = some ir) : SndSs X c Y G f s ir := by
  cases s with
  | nil =>
    simp only [cSs] at h
    cases h
    exact ⟨sts_nil, fun _ => by simp [asgSs]⟩
  | cons st rest =>
    simp only [cSs] at h
    obtain ⟨i1, q1, h⟩ := Option.bind_eq_some_iff.mp h
    obtain ⟨i2, q2, rfl⟩ := Option.map_eq_some_iff.mp h
    have S1 := A.s CX X c Y G f n C st i1 q1
    have S2 := A.ss CX X c Y G f n C rest i2 q2
    have hio := not_mem_app S1.io S2.io
    exact ⟨sts_cons hio S1.ps S2.pss, hio⟩
/-- a name as a target -/
theorem cTg_name {c : Cc} {m : Nat} {x : Str} {p : Pos} {t : Tg} (h : cTg c m (.Name x p) = some t) : ∃ i, t = .name i ∧ slotOf c x = some i ∧ c.st.contains x = true ∧ (c.io = true → i ≠ 0) := by
  cases m with
  | zero => simp [cTg] at h
  | succ m =>
    simp only [cTg] at h
    split at h
    · rename_i hs
      split at h
      · rename_i i hi
        split at h
        · cases h
        · rename_i hz
          cases h
          refine ⟨i, rfl, hi, hs, fun hc e => ?_⟩
          subst e
          rw [hc] at hz
          exact hz rfl
      · cases h
    · cases h
theorem cTg_tuple {c : Cc} {m : Nat} {es : List Expr} {k : Nat} {p : Pos} {t : Tg} (hca : c.ca = true) (h : cTg c m (.Tuple es k p) = some t) : ∃ m' ts, t = .tup ts ∧ cTgs c m' es = some ts := by
  cases m with
  | zero => simp [cTg] at h
  | succ m =>
    simp only [cTg, hca, if_true] at h
    obtain ⟨us, q3, rfl⟩ := Option.map_eq_some_iff.mp h
    exact ⟨m, us, rfl, q3⟩
theorem foldBool_lc {g : E → E → E} (hg : ∀ a b e1 t i c o, g a b ≠ .lc e1 t i c o) : True := trivial
theorem cE_lc {c : Cc} {m : Nat} {e : Expr} {ir : E} (hca : c.ca = true) (h : cE c (m + 1) e = some ir) (hc : isComp e = true) :
    (∃ elt tg it ifs scope cpos iit itg ie ic, e = .ListComp elt [⟨tg, it, ifs, 0⟩] scope cpos ∧ ir = .lc ie itg iit ic ((ownOf c.N scope).map Prod.snd) ∧ blkC c.N c.sc scope (ownOf c.N scope) = true ∧ cIt c m tg it = some iit ∧
      cTg { c with sc := relS scope c.sc, st := (ownOf c.N scope).map Prod.fst, hc := false } m tg = some itg ∧ cE { c with sc := relS scope c.sc, st := (ownOf c.N scope).map Prod.fst, hc := false } m elt = some ie ∧
      ((ifs = [] ∧ ic = none) ∨ ∃ t i1, ifs = [t] ∧ ic = some i1 ∧ cE { c with sc := relS scope c.sc, st := (ownOf c.N scope).map Prod.fst, hc := false } m t = some i1)) ∨
    (∃ elt tg it ifs tg2 it2 ifs2 scope cpos iit itg ic iit2 itg2 ic2 ie, e = .ListComp elt [⟨tg, it, ifs, 0⟩, ⟨tg2, it2, ifs2, 0⟩] scope cpos ∧ ir = .lc2 ie itg iit ic itg2 iit2 ic2 ((ownOf c.N scope).map Prod.snd) (tgSl itg2) ∧ blkC c.N c.sc scope (ownOf c.N scope) = true ∧ cIt c m tg it = some iit ∧
      cTg { c with sc := relS scope c.sc, st := (ownOf c.N scope).map Prod.fst, hc := false } m tg = some itg ∧ ifsOf (cE { c with sc := relS scope c.sc, st := (ownOf c.N scope).map Prod.fst, hc := false } m) ifs = some ic ∧ cIt { c with sc := relS scope c.sc, st := (ownOf c.N scope).map Prod.fst, hc := false } m tg2 it2 = some iit2 ∧
      cTg { c with sc := relS scope c.sc, st := (ownOf c.N scope).map Prod.fst, hc := false } m tg2 = some itg2 ∧ ifsOf (cE { c with sc := relS scope c.sc, st := (ownOf c.N scope).map Prod.fst, hc := false } m) ifs2 = some ic2 ∧ cE { c with sc := relS scope c.sc, st := (ownOf c.N scope).map Prod.fst, hc := false } m elt = some ie) := by
  unfold cE at h
  split at h
  case h_22 x elt tg it ifs scope pos =>
    dsimp only at h
    split at h
    · cases h
    · rename_i hb
      have hb : blkC c.N c.sc scope (ownOf c.N scope) = true := by simpa [hca] using hb
      try rw [if_pos hca] at h
      obtain ⟨iit, q1, h⟩ := Option.bind_eq_some_iff.mp h
      obtain ⟨itg, q2, h⟩ := Option.bind_eq_some_iff.mp h
      obtain ⟨ie, q3, h⟩ := Option.bind_eq_some_iff.mp h
      cases ifs with
      | nil =>
        cases h
        exact .inl ⟨_, _, _, _, _, _, iit, itg, ie, none, rfl, rfl, hb, q1, q2, q3, .inl ⟨rfl, rfl⟩⟩
      | cons t rest =>
        cases rest with
        | nil =>
          obtain ⟨i1, q4, rfl⟩ := Option.map_eq_some_iff.mp h
          exact .inl ⟨_, _, _, _, _, _, iit, itg, ie, some i1, rfl, rfl, hb, q1, q2, q3, .inr ⟨t, i1, rfl, rfl, q4⟩⟩
        | cons _ _ => cases h
  case h_23 x elt tg it ifs tg2 it2 ifs2 scope pos =>
    dsimp only at h
    split at h
    · cases h
    · rename_i hb
      have hb : blkC c.N c.sc scope (ownOf c.N scope) = true := by simpa [hca] using hb
      obtain ⟨iit, q1, h⟩ := Option.bind_eq_some_iff.mp h
      obtain ⟨itg, q2, h⟩ := Option.bind_eq_some_iff.mp h
      obtain ⟨ic, q3, h⟩ := Option.bind_eq_some_iff.mp h
      obtain ⟨iit2, q4, h⟩ := Option.bind_eq_some_iff.mp h
      obtain ⟨itg2, q5, h⟩ := Option.bind_eq_some_iff.mp h
      obtain ⟨ic2, q6, h⟩ := Option.bind_eq_some_iff.mp h
      obtain ⟨ie, q7, rfl⟩ := Option.map_eq_some_iff.mp h
      exact .inr ⟨_, _, _, _, _, _, _, _, _, iit, itg, ic, iit2, itg2, ic2, ie, rfl, rfl, hb, q1, q2, q3, q4, q5, q6, q7⟩
  all_goals first | (cases hc; done) | cases h
theorem cE_lcH {c : Cc} {m : Nat} {e : Expr} {ir : E} (hca : c.ca = false) (h : cE c (m + 1) e = some ir) (hc : isComp e = true) :
    ∃ elt tg it ifs scope cpos iit itg ie ic, e = .ListComp elt [⟨tg, it, ifs, 0⟩] scope cpos ∧ ir = .lc ie itg (.hotL iit) ic ((ownOf c.N scope).map Prod.snd) ∧ c.hb = true ∧ blkC c.N c.sc scope (ownOf c.N scope) = true ∧ cE c m it = some iit ∧
      cTg { c with sc := relS scope c.sc, st := (ownOf c.N scope).map Prod.fst, hc := false } m tg = some itg ∧ cE { c with sc := relS scope c.sc, st := (ownOf c.N scope).map Prod.fst, hc := false } m elt = some ie ∧
      ((ifs = [] ∧ ic = none) ∨ ∃ t i1, ifs = [t] ∧ ic = some i1 ∧ cE { c with sc := relS scope c.sc, st := (ownOf c.N scope).map Prod.fst, hc := false } m t = some i1) := by
  unfold cE at h
  split at h
  case h_22 x elt tg it ifs scope pos =>
    dsimp only at h
    split at h
    · cases h
    · rename_i hb
      have hb : c.hb = true ∧ blkC c.N c.sc scope (ownOf c.N scope) = true := by simpa [hca] using hb
      rw [if_neg (by simp [hca])] at h
      obtain ⟨iit0, q1, h⟩ := Option.bind_eq_some_iff.mp h
      obtain ⟨iit, q1', rfl⟩ := Option.map_eq_some_iff.mp q1
      obtain ⟨itg, q2, h⟩ := Option.bind_eq_some_iff.mp h
      obtain ⟨ie, q3, h⟩ := Option.bind_eq_some_iff.mp h
      cases ifs with
      | nil =>
        cases h
        exact ⟨_, _, _, _, _, _, iit, itg, ie, none, rfl, rfl, hb.1, hb.2, q1', q2, q3, .inl ⟨rfl, rfl⟩⟩
      | cons t rest =>
        cases rest with
        | nil =>
          obtain ⟨i1, q4, rfl⟩ := Option.map_eq_some_iff.mp h
          exact ⟨_, _, _, _, _, _, iit, itg, ie, some i1, rfl, rfl, hb.1, hb.2, q1', q2, q3, .inr ⟨t, i1, rfl, rfl, q4⟩⟩
        | cons _ _ => cases h
  case h_23 x elt tg it ifs tg2 it2 ifs2 scope pos =>
    dsimp only at h
    split at h
    · cases h
    · rename_i hb
      simp [hca] at hb
  all_goals first | (cases hc; done) | cases h
/-- a list comprehension into a name, within a suite -/
theorem st_setCH {CX : CXT} {X : Cx} {c : Cc} {Y : Yc} {G : Nat → Option D} {f : CE} {n : Nat} {x : Str} {px pos cpos : Pos} {i : Nat} {elt tg it : Expr} {ifs : List Expr} {scope : Scope} {own : List (Str × Nat)} {ie iit : E} {itg : Tg} {ic : Option E} (C : Cks CX X c Y G f n) (hhb : c.hb = true) (hx : slotOf c x = some i) (hst : c.st.contains x = true)
    (hi : PE X it (tE X.K Y (ev G f iit))) (ok : BlkOk X.N X.env.scope scope own) (B : BlkP X tg elt ifs scope (tG X.K Y.T itg) (tT X.K Y.no (tstO G f ic)) (tFz (tE X.K Y.no (ev G f ie)))) (hs : ∀ x, foldedSetIterable it X.env x = pure x) (htg : ∀ i ∈ tgSl itg, i ∈ own.map (·.2)) :
    PS X (.Assign [.Name x px] (.ListComp elt [⟨tg, it, ifs, 0⟩] scope cpos) pos) (tS c.io X.K Y [i] (ex G f (.set (.name i) (.lc ie itg (.hotL iit) ic (own.map (·.2)))))) := by
  obtain ⟨h1, h2, h3⟩ := slot_loc C.toCk hx hst
  have hot := C.hot hhb
  have hsw : swapsWith (.ListComp elt [⟨tg, it, ifs, 0⟩] scope cpos) (some (.Name x px)) pos.line X.env =
      pure (X.env.blockKind == .function && X.env.kindOf x == some .local && px.line == cpos.line && !(scope.names.any fun (n, k) => n == x && (k == .local || k == .cell))) := rfl
  cases hb : (X.env.blockKind == .function && X.env.kindOf x == some .local && px.line == cpos.line && !(scope.names.any fun (n, k) => n == x && (k == .local || k == .cell))) with
  | false =>
    rw [hb] at hsw
    refine (ps_asg (pe_fz ((pe_lcH (pos := cpos) hot C.nd hi ok B hs).to fun σ H Q w => tLc_to (fun σ H R => hotL_to) _ _ _ (lc_to htg w))) (pg_name C.nd h1 h2 h3) hsw swapped_name (by rfl)).to fun D σ H w => ?_
    simp only [ex] at w
    exact put_to w
  | true =>
    rw [hb] at hsw
    simp only [Bool.and_eq_true] at hb
    have hl : X.env.scope.names.lookup x = some .local := eq_of_beq (show (X.env.kindOf x == some .local) = true from hb.1.1.2)
    refine (ps_setLcH hot C.nd h1 hl hsw hi ok B hs).to fun D σ H w => ?_
    obtain ⟨r, g, w⟩ := w
    simp only [ex] at w
    have w2 : tE X.K Y (ev G f (.lc ie itg (.hotL iit) ic (own.map (·.2)))) σ H fun v H1 => gName i v σ H1 D.nx := by
      refine ⟨r, g, w.bd.mono (fun _ _ h => sex_ex h) fun o r1 e q v H1 p ho => ?_⟩
      obtain ⟨ds, rfl⟩ := lc_isN e
      have q := Wd.bd (m := put i (.new (.list ds))) q
      unfold put at q
      by_cases hi : i < r1.length
      · simp only [hi, if_true] at q
        have q : ∀ σ' H', SPost X.K Y.T [i] r σ H (r1.set i (.ow (.list ds))) σ' H' → D.nx σ' H' := q
        obtain ⟨a, xs, rfl, h5, h6⟩ := ho.1
        exact q _ _ (spost_ow (d := .list ds) p.gd hi (show OwD X.K H1 (.list ds) (.ref a) from ⟨a, xs, rfl, h5, h6⟩) (fun z => absurd (ho.2 a rfl) (p.own_some g a z)) (ho.2 a rfl) p)
      · simp only [hi, if_false] at q; exact q.elim
    exact tLc_to (fun σ H R => hotL_to) _ _ _ (lc_to htg w2)
theorem alls_calm {m : Nat} (A : AllS m) (CX : CXT) (X : Cx) (c : Cc) (Y : Yc) (G : Nat → Option D) (f : CE) (n : Nat) (C : Cks CX X c Y G f n) (hca : c.ca = true) (s : Stmt) (ir : S) (h : cS c (m + 1) s = some ir) : SndS X c Y G f s ir := by
  have AE := all_all m
  have nh : c.hb = true → False := fun z => by rw [C.hbca z] at hca; cases hca
  unfold cS at h
  rw [if_neg (by simp [hca])] at h
  split at h
  case h_1 s x px y py k tp a b k2 vp pos =>
    split at h
    · rename_i hr
      exact regSet C hca hr h
    · rename_i hr
      have hr : regSw c [.Name x px, .Name y py] [a, b] = false := by simpa using hr
      split at h
      · rename_i hp
        split at h
        · rename_i i j hi hj
          split at h
          · cases h
          · rename_i hc
            have hc : (i == j || c.io && (i == 0 || j == 0)) = false := by simpa using hc
            obtain ⟨ies, q1, rfl⟩ := Option.map_eq_some_iff.mp h
            have S := AE.es CX X c Y G f n C.toCk _ ies q1
            obtain ⟨w1, w2, w3⟩ := swN2 hr
            have hw := sw_par (k := k) (k2 := k2) (tp := tp) (vp := vp) C hr hp S.plain
            rw [w1] at hw
            rw [Bool.or_eq_false_iff] at hc
            have hl : ies.length ≤ 1000 := by rw [← S.len]; simp
            refine ⟨st_par2 C hca hi hj (by simpa using hc.1) hl (by rw [← S.len]; rfl) S.pa hw (by rw [C.sc]; exact w2) (by rw [C.sc]; exact w3), fun hio => ?_⟩
            have := hc.2
            rw [hio] at this
            simp only [asgS, List.mem_cons, List.not_mem_nil, or_false, not_or]
            simp only [Bool.true_and, Bool.or_eq_false_iff, beq_eq_false_iff_ne] at this
            exact ⟨fun z => this.1 z.symm, fun z => this.2 z.symm⟩
        · cases h
      · cases h
  case h_2 s x px y py z pz k tp a b d k2 vp pos =>
    split at h
    · rename_i hr
      exact regSet C hca hr h
    · rename_i hr
      have hr : regSw c [.Name x px, .Name y py, .Name z pz] [a, b, d] = false := by simpa using hr
      split at h
      · rename_i hp
        split at h
        · rename_i i j l hi hj hk
          split at h
          · cases h
          · rename_i hc
            have hc : (i == j || i == l || j == l || c.io && (i == 0 || j == 0 || l == 0)) = false := by simpa using hc
            obtain ⟨ies, q1, rfl⟩ := Option.map_eq_some_iff.mp h
            have S := AE.es CX X c Y G f n C.toCk _ ies q1
            obtain ⟨w1, w2, w3, w4⟩ := swN3 hr
            have hw := sw_par (k := k) (k2 := k2) (tp := tp) (vp := vp) C hr hp S.plain
            rw [w1] at hw
            simp only [Bool.or_eq_false_iff] at hc
            obtain ⟨⟨⟨c1, c2⟩, c3⟩, c4⟩ := hc
            have hl : ies.length ≤ 1000 := by rw [← S.len]; simp
            refine ⟨st_par3 C hca hi hj hk (by simpa using c1) (by simpa using c2) (by simpa using c3) hl (by rw [← S.len]; rfl) S.pa hw (by rw [C.sc]; exact w2) (by rw [C.sc]; exact w3) (by rw [C.sc]; exact w4), fun hio => ?_⟩
            rw [hio] at c4
            simp only [asgS, List.mem_cons, List.not_mem_nil, or_false, not_or]
            simp only [Bool.true_and, Bool.or_eq_false_iff, beq_eq_false_iff_ne] at c4
            exact ⟨fun z => c4.1.1 z.symm, fun z => c4.1.2 z.symm, fun z => c4.2 z.symm⟩
        · cases h
      · cases h
  case h_3 s ts k tp vs k2 vp pos _ _ =>
    split at h
    · rename_i hr
      exact regSet C hca hr h
    · cases h
  case h_4 s x px k tp e pos =>
    split at h
    · rename_i i hi
      obtain ⟨ie, q1, h⟩ := Option.bind_eq_some_iff.mp h
      obtain ⟨ik, q2, rfl⟩ := Option.map_eq_some_iff.mp h
      have Sk := AE.e CX X c Y G f n C.toCk k ik q2
      exact ⟨st_setIx C.toCk hi (AE.e CX X c Y G f n C.toCk e ie q1).pe Sk.pe Sk.plain, fun _ => by simp [asgS]⟩
    · cases h
  case h_5 s t e pos _ _ hT _ =>
    obtain ⟨it, q1, h⟩ := Option.bind_eq_some_iff.mp h
    obtain ⟨ie, q2, rfl⟩ := Option.map_eq_some_iff.mp h
    have Se := AE.e CX X c Y G f n C.toCk e ie q2
    have hio : c.io = true → 0 ∉ asgS (.set it ie) := fun hc => (cTg_io hc m).1 _ it q1
    cases t with
    | Name x px =>
      obtain ⟨i, rfl, hi, hst, _⟩ := cTg_name q1
      cases hc : isComp e with
      | false => exact ⟨st_setN C.toCk hi hst Se.pe hc, hio⟩
      | true =>
        cases m with
        | zero => simp [cE] at q2
        | succ m =>
          rcases cE_lc hca q2 hc with ⟨elt, tg, itx, ifs, scope, cpos, iit, itg, ie2, ic, rfl, rfl, hb, p1, p2, p3, p4⟩ | ⟨elt, tg, itx, ifs, tg2, it2, ifs2, scope, cpos, iit, itg, ic, iit2, itg2, ic2, ie2, rfl, rfl, hb, p1, p2, p3, p4, p5, p6, p7⟩
          · skip
            have AE' := all_all m
            have ok : BlkOk X.N X.env.scope scope (ownOf c.N scope) := by rw [C.N, C.sc]; exact blkOk_by hb
            obtain ⟨hpl, hiI⟩ := AE'.it CX X c Y G f n C.toCk tg itx iit p1
            have htg := own_tg (c := c) (c2 := { c with sc := relS scope c.sc, st := (ownOf c.N scope).map Prod.fst, hc := false }) rfl rfl p2
            have ck := fun s H Ca cl fp => ck_lc C.toCk ok s H Ca cl fp fun z => (nh z).elim
            refine ⟨st_setC C hca hi hst (hiI _) ok (fun s H Ca cl fp => (snd_tg (ck s H Ca cl fp) m).1 tg itg p2) ?_ (fun s H Ca cl fp => pe_fz (AE'.e CX _ _ _ G f n (ck s H Ca cl fp) elt ie2 p3).pe) (plainE_fold hpl _) htg, hio⟩
            rcases p4 with ⟨rfl, rfl⟩ | ⟨t, i1, rfl, rfl, p5⟩
            · exact fun s H Ca cl fp => snd_tests0 (X := X.blk s H scope (compEnvC scope cl Ca X.env) fp) (Y := Y.no)
            · exact fun s H Ca cl fp => snd_tests1 (AE'.e CX _ _ _ G f n (ck s H Ca cl fp) t i1 p5).pt
          · have AE' := all_all m
            have ok : BlkOk X.N X.env.scope scope (ownOf c.N scope) := by rw [C.N, C.sc]; exact blkOk_by hb
            obtain ⟨hpl, hiI⟩ := AE'.it CX X c Y G f n C.toCk tg itx iit p1
            have htg := own_tg (c := c) (c2 := { c with sc := relS scope c.sc, st := (ownOf c.N scope).map Prod.fst, hc := false }) rfl rfl p2
            have htg2 := own_tg (c := c) (c2 := { c with sc := relS scope c.sc, st := (ownOf c.N scope).map Prod.fst, hc := false }) rfl rfl p5
            have ck := fun s H Ca cl fp => ck_lc C.toCk ok s H Ca cl fp fun z => (nh z).elim
            have ts : ∀ {ifs : List Expr} {ic : Option E}, ifsOf (cE { c with sc := relS scope c.sc, st := (ownOf c.N scope).map Prod.fst, hc := false } m) ifs = some ic → ∀ s H Ca cl fp, PTs (X.blk s H scope (compEnvC scope cl Ca X.env) fp) ifs (tT X.K Y.no (tstO G f ic)) := fun {ifs ic} q => by
              rcases ifs_cases q with ⟨rfl, rfl⟩ | ⟨t, i1, rfl, rfl, p5⟩
              · exact fun s H Ca cl fp => snd_tests0 (X := X.blk s H scope (compEnvC scope cl Ca X.env) fp) (Y := Y.no)
              · exact fun s H Ca cl fp => snd_tests1 (AE'.e CX _ _ _ G f n (ck s H Ca cl fp) t i1 p5).pt
            have hp2 : plainE it2 = true := cIt_plain p4
            exact ⟨st_setC2 C hca hi hst (hiI _) ok (fun s H Ca cl fp => (snd_tg (ck s H Ca cl fp) m).1 tg itg p2) (ts p3) (fun s H Ca cl fp => (AE'.it CX _ _ _ G f n (ck s H Ca cl fp) tg2 it2 iit2 p4).2 _) (fun s H Ca cl fp => (snd_tg (ck s H Ca cl fp) m).1 tg2 itg2 p5) (ts p6)
              (fun s H Ca cl fp => pe_fz (AE'.e CX _ _ _ G f n (ck s H Ca cl fp) elt ie2 p7).pe) (plainE_fold hpl _) (fun env => plainE_fold hp2 env) htg htg2, hio⟩
    | Tuple es k tp =>
      obtain ⟨m', ts, rfl, q3⟩ := cTg_tuple hca q1
      have hnt : isTup e = false := by
        cases e <;> first | rfl | exact (hT _ _ _ _ _ _ rfl rfl).elim
      exact ⟨st_setT C.toCk hca q3 Se.pe (swapped_tup hnt), hio⟩
    | _ => cases m <;> simp [cTg] at q1
  case h_6 s x px o e pos =>
    split at h
    · rename_i i hi
      split at h
      · cases h
      · rename_i hc
        have hc : (!c.st.contains x || c.io && i == 0) = false := by simpa using hc
        rw [Bool.or_eq_false_iff] at hc
        have hst : c.st.contains x = true := by simpa using hc.1
        have hio : ∀ o ie, c.io = true → 0 ∉ asgS (.aug i o ie) := fun o ie h => by
          have := hc.2
          rw [h, Bool.true_and] at this
          simp only [asgS, List.mem_singleton]
          intro z
          subst z
          cases this
        split at h
        · obtain ⟨ie, q1, rfl⟩ := Option.map_eq_some_iff.mp h
          exact ⟨st_aug (o := .add) C.toCk hi hst (AE.e CX X c Y G f n C.toCk e ie q1).pe (.inl rfl), hio _ _⟩
        · obtain ⟨ie, q1, rfl⟩ := Option.map_eq_some_iff.mp h
          exact ⟨st_aug (o := .sub) C.toCk hi hst (AE.e CX X c Y G f n C.toCk e ie q1).pe (.inr rfl), hio _ _⟩
        · cases h
    · cases h
  case h_7 s x px mth apos a cpos pos =>
    split at h
    · rename_i i hi
      split at h
      · rename_i hc
        rw [Bool.and_eq_true] at hc
        have e1 := eq_of_beq hc.1
        subst e1
        obtain ⟨ia, q1, rfl⟩ := Option.map_eq_some_iff.mp h
        have Sa := AE.e CX X c Y G f n C.toCk a ia q1
        exact ⟨st_app C.toCk hi Sa.pe Sa.plain hc.2, fun _ => by simp [asgS]⟩
      · split at h
        · rename_i hc
          rw [Bool.and_eq_true] at hc
          have e1 := eq_of_beq hc.1
          subst e1
          obtain ⟨ia, q1, rfl⟩ := Option.map_eq_some_iff.mp h
          have Sa := AE.e CX X c Y G f n C.toCk a ia q1
          exact ⟨st_rem C.toCk hi Sa.pe Sa.plain hc.2, fun _ => by simp [asgS]⟩
        · cases h
    · cases h
  case h_8 s e pos _ =>
    split at h
    · cases h
    · rename_i hc
      obtain ⟨ie, q1, rfl⟩ := Option.map_eq_some_iff.mp h
      exact ⟨st_expr (AE.e CX X c Y G f n C.toCk e ie q1).pe (by simpa using hc), fun _ => by simp [asgS]⟩
  case h_9 s t a b pos =>
    obtain ⟨it, q1, h⟩ := Option.bind_eq_some_iff.mp h
    obtain ⟨ia, q2, h⟩ := Option.bind_eq_some_iff.mp h
    obtain ⟨ib, q3, rfl⟩ := Option.map_eq_some_iff.mp h
    have Sa := A.ss CX X c Y G f n C a ia q2
    have Sb := A.ss CX X c Y G f n C b ib q3
    have hio := not_mem_app Sa.io Sb.io
    exact ⟨st_if hio (AE.e CX X c Y G f n C.toCk t it q1).pt Sa.pss Sb.pss, hio⟩
  case h_10 s t it body pos =>
    obtain ⟨itg, q1, h⟩ := Option.bind_eq_some_iff.mp h
    obtain ⟨iit, q2, h⟩ := Option.bind_eq_some_iff.mp h
    obtain ⟨ib, q3, rfl⟩ := Option.map_eq_some_iff.mp h
    obtain ⟨hpl, hi⟩ := AE.it CX X c Y G f n C.toCk t it iit q2
    have Sb := A.ss CX X c Y G f n C body ib q3
    have hio : c.io = true → 0 ∉ tgSl itg ++ asgSs ib := not_mem_app (fun hc => (cTg_io hc m).1 _ itg q1) Sb.io
    have gen : SndS X c Y G f (.For t it body [] pos) (.forS itg iit ib) := ⟨st_forS C hca hio (hi []) ((snd_tg C.toCk m).1 t itg q1) Sb.pss (plainE_fold hpl _), hio⟩
    unfold mkFor
    split
    · rename_i x p i0
      split
      · exact gen
      · rename_i hn
        exact ⟨st_forR C hca hio (by simpa using hn) (hi []) ((snd_tg C.toCk m).1 t itg q1) Sb.pss, hio⟩
    · exact gen
  case h_11 s t body pos =>
    obtain ⟨it, q1, h⟩ := Option.bind_eq_some_iff.mp h
    obtain ⟨ib, q3, rfl⟩ := Option.map_eq_some_iff.mp h
    have Sb := A.ss CX X c Y G f n C body ib q3
    exact ⟨st_while C Sb.io (AE.e CX X c Y G f n C.toCk t it q1).pt Sb.pss, Sb.io⟩
  case h_12 s x p m j p2 pos pos2 =>
    split at h
    · rename_i hg
      obtain ⟨k, hk, rfl⟩ := Option.map_eq_some_iff.mp h
      exact ⟨st_raise C hca hg hk, fun _ => by simp [asgS]⟩
    · cases h
  case h_13 s body x np y e rp pos' pos =>
    split at h
    · rename_i i hi
      split at h
      · rename_i hc
        simp only [Bool.and_eq_true, Bool.not_eq_true'] at hc
        obtain ⟨⟨⟨⟨⟨_, hg⟩, hx⟩, hall⟩, hl⟩, hio⟩ := hc
        obtain ⟨ib, q1, h⟩ := Option.bind_eq_some_iff.mp h
        obtain ⟨ih, q2, rfl⟩ := Option.map_eq_some_iff.mp h
        refine ⟨st_try C hca hg hx hall hi hl hio (fun W pn xe C' => (A.ss CX _ c _ G f n C' body ib q1).pss) (fun a oe pn hot => ?_), fun z => by rw [hio] at z; cases z⟩
        cases m with
        | zero => simp [cHd] at q2
        | succ m =>
          simp only [cHd] at q2
          obtain ⟨ie, q3, rfl⟩ := Option.map_eq_some_iff.mp q2
          exact st_hdE hio ((all_all m).e CX _ _ _ G f n (C.toCk.hd hca a oe pn hot) e ie q3).pe
      · cases h
    · cases h
  case h_14 s e pos =>
    obtain ⟨ie, q1, rfl⟩ := Option.map_eq_some_iff.mp h
    exact ⟨st_ret (AE.e CX X c Y G f n C.toCk e ie q1).pe, fun _ => by simp [asgS]⟩
  case h_15 => cases h; exact ⟨st_retN, fun _ => by simp [asgS]⟩
  case h_16 => cases h; exact ⟨st_pass, fun _ => by simp [asgS]⟩
  case h_17 => cases h; exact ⟨st_brk, fun _ => by simp [asgS]⟩
  case h_18 => cases h; exact ⟨st_cont, fun _ => by simp [asgS]⟩
  case h_19 => cases h
/-- within a suite: names, tests, returns -/
theorem alls_hot {m : Nat} (A : AllS m) (CX : CXT) (X : Cx) (c : Cc) (Y : Yc) (G : Nat → Option D) (f : CE) (n : Nat) (C : Cks CX X c Y G f n) (hca : c.ca = false) (s : Stmt) (ir : S) (h : cS c (m + 1) s = some ir) : SndS X c Y G f s ir := by
  have AE := all_all m
  have hs : hotSt s = true := by
    unfold cS at h
    split at h
    · cases h
    · rename_i z
      simpa [hca] using z
  unfold cS at h
  rw [if_neg (by simp [hs])] at h
  split at h
  case h_5 s t e pos _ _ hT _ =>
    obtain ⟨it, q1, h⟩ := Option.bind_eq_some_iff.mp h
    obtain ⟨ie, q2, rfl⟩ := Option.map_eq_some_iff.mp h
    have Se := AE.e CX X c Y G f n C.toCk e ie q2
    have hio : c.io = true → 0 ∉ asgS (.set it ie) := fun hc => (cTg_io hc m).1 _ it q1
    cases t with
    | Name x px =>
      obtain ⟨i, rfl, hi, hst, _⟩ := cTg_name q1
      cases hc : isComp e with
      | false => exact ⟨st_setN C.toCk hi hst Se.pe hc, hio⟩
      | true =>
        cases m with
        | zero => simp [cE] at q2
        | succ m =>
          obtain ⟨elt, tg, itx, ifs, scope, cpos, iit, itg, ie2, ic, rfl, rfl, hhb, hb, p1, p2, p3, p4⟩ := cE_lcH hca q2 hc
          have AE' := all_all m
          have ok : BlkOk X.N X.env.scope scope (ownOf c.N scope) := by rw [C.N, C.sc]; exact blkOk_by hb
          have S := AE'.e CX X c Y G f n C.toCk itx iit p1
          have htg := own_tg (c := c) (c2 := { c with sc := relS scope c.sc, st := (ownOf c.N scope).map Prod.fst, hc := false }) rfl rfl p2
          have ck := fun s H Ca cl fp z => ck_lc C.toCk ok s H Ca cl fp z
          refine ⟨st_setCH C hhb hi hst S.pe ok ⟨fun s H Ca cl fp z => (snd_tg (ck s H Ca cl fp fun _ => z) m).1 tg itg p2, ?_, fun s H Ca cl fp z => pe_fz (AE'.e CX _ _ _ G f n (ck s H Ca cl fp fun _ => z) elt ie2 p3).pe⟩ (plainE_fold S.plain _) htg, hio⟩
          rcases p4 with ⟨rfl, rfl⟩ | ⟨t, i1, rfl, rfl, p5⟩
          · exact fun s H Ca cl fp _ => snd_tests0 (X := X.blk s H scope (compEnvC scope cl Ca X.env) fp) (Y := Y.no)
          · exact fun s H Ca cl fp z => snd_tests1 (AE'.e CX _ _ _ G f n (ck s H Ca cl fp fun _ => z) t i1 p5).pt
    | _ => cases hs
  case h_9 s t a b pos =>
    obtain ⟨it, q1, h⟩ := Option.bind_eq_some_iff.mp h
    obtain ⟨ia, q2, h⟩ := Option.bind_eq_some_iff.mp h
    obtain ⟨ib, q3, rfl⟩ := Option.map_eq_some_iff.mp h
    have Sa := A.ss CX X c Y G f n C a ia q2
    have Sb := A.ss CX X c Y G f n C b ib q3
    have hio := not_mem_app Sa.io Sb.io
    exact ⟨st_if hio (AE.e CX X c Y G f n C.toCk t it q1).pt Sa.pss Sb.pss, hio⟩
  case h_14 s e pos =>
    obtain ⟨ie, q1, rfl⟩ := Option.map_eq_some_iff.mp h
    exact ⟨st_ret (AE.e CX X c Y G f n C.toCk e ie q1).pe, fun _ => by simp [asgS]⟩
  case h_15 => cases h; exact ⟨st_retN, fun _ => by simp [asgS]⟩
  all_goals first | (cases hs; done) | cases h
theorem alls_s {m : Nat} (A : AllS m) (CX : CXT) (X : Cx) (c : Cc) (Y : Yc) (G : Nat → Option D) (f : CE) (n : Nat) (C : Cks CX X c Y G f n) (s : Stmt) (ir : S) (h : cS c (m + 1) s = some ir) : SndS X c Y G f s ir := by
  cases hca : c.ca with
  | true => exact alls_calm A CX X c Y G f n C hca s ir h
  | false => exact alls_hot A CX X c Y G f n C hca s ir h
theorem alls_all : ∀ m, AllS m
  | 0 => alls_zero
  | m + 1 => ⟨alls_s (alls_all m), alls_ss (alls_all m)⟩
end Fw

/-! Fw: the defs of a program, all at once (nothing is raised) -/
namespace Fw
open PySem PySem.Spec PyProof.Rows L2 HotX L2H

theorem lookup_zip {x : Str} : ∀ {ps : List Str} {us : List Value}, us.length = ps.length → x ∈ ps → ((ps.zip us).lookup x).isSome = true
  | [], _, _, h => by cases h
  | p :: ps, [], h, _ => by simp at h
  | p :: ps, u :: us, h, hx => by
    rw [List.zip_cons_cons, List.lookup_cons]
    by_cases e : x = p
    · subst e; rw [beq_self_eq_true]; rfl
    · rw [beq_eq_false_iff_ne.mpr e]
      exact lookup_zip (by simpa using h) ((List.mem_cons.mp hx).resolve_left e)
theorem fm_zip : ∀ {ps : List Str} {us : List Value}, us.length = ps.length → ps.Nodup → ps.filterMap (fun n => ((ps.zip us).lookup n).map fun v => (n, v)) = ps.zip us
  | [], _, _, _ => by simp
  | p :: ps, [], h, _ => by simp at h
  | p :: ps, u :: us, h, nd => by
    have nd := List.nodup_cons.mp nd
    rw [List.zip_cons_cons, List.filterMap_cons, List.lookup_cons, beq_self_eq_true]
    show (p, u) :: _ = _
    congr 1
    have ih := fm_zip (ps := ps) (us := us) (by simpa using h) nd.2
    have key : ∀ l : List Str, (∀ x ∈ l, x ∈ ps) → l.filterMap (fun n => (((p, u) :: ps.zip us).lookup n).map fun v => (n, v)) = l.filterMap (fun n => ((ps.zip us).lookup n).map fun v => (n, v)) := by
      intro l
      induction l with
      | nil => intro _; rfl
      | cons x r ih =>
        intro hx
        have e : (x == p) = false := beq_eq_false_iff_ne.mpr fun z => nd.1 (z ▸ hx x List.mem_cons_self)
        rw [List.filterMap_cons, List.filterMap_cons, ih fun y hy => hx y (List.mem_cons_of_mem _ hy), List.lookup_cons, e]
    rw [key ps fun x hx => hx, ih]
theorem binds_gen {fd : FuncData} {us : List Value} (h1 : fd.params.posonlyargs = []) (h2 : fd.params.kwonlyargs = []) (h3 : fd.params.vararg = none) (h4 : fd.params.kwarg = none) (h5 : fd.defaults = .none) (nd : (fd.params.args.map (·.arg)).Nodup)
    (hl : us.length = (fd.params.args.map (·.arg)).length) : bindArgs fd ⟨us, []⟩ = pure ((fd.params.args.map (·.arg)).zip us) := by
  have f1 : ((fd.params.args.map (·.arg)).take (fd.params.args.map (·.arg)).length).filter (fun n => (((fd.params.args.map (·.arg)).zip us).lookup n).isNone) = [] := by
    rw [List.take_length, List.filter_eq_nil_iff]
    intro x hx
    have := lookup_zip hl hx
    cases q : ((fd.params.args.map (·.arg)).zip us).lookup x with
    | none => rw [q] at this; cases this
    | some _ => simp
  have f2 := fm_zip hl nd
  have sq : seqItems? Value.none = (pure none : Sem (Option (Array Value))) := by rfl
  unfold bindArgs
  simp only [h1, h2, h3, h4, h5, List.map_nil, List.nil_append, List.append_nil]
  generalize fd.params.args.map (·.arg) = ps at *
  rw [sq]
  have g : ¬ us.length > ps.length := by omega
  show (if (decide (us.length > ps.length) && true) = true then _ else _ : Sem (List (Str × Value))) = _
  rw [if_neg (by simp; omega)]
  have e1 : (none.getD #[] : Array Value).toList = [] := rfl
  simp only [e1, List.drop_nil, List.length_nil, Nat.sub_zero, f1, List.drop_length, List.zip_nil_left, List.isEmpty_nil, Bool.not_true, if_neg Bool.false_ne_true, List.forIn_nil]
  show (pure (List.filterMap (fun n => Option.map (fun x => (n, x)) (List.lookup n (ps.zip us))) ps) : Sem _) = _
  rw [f2]
/-- a def's end: nothing raised, the list that was handed in is still its own -/
def outR (o : Out) (r : Env) : COut := match o with
  | .rt v => .ret v ((dataAt r 0).getD .none)
  | .nx => .ret (.val .none) ((dataAt r 0).getD .none)
  | _ => .no
def outP (io : Bool) : Res Out → COut
  | .ok o r => if io && !isOw r 0 then .no else outR o r
  | .ex c r => if io && !isOw r 0 then .no else .ex c ((dataAt r 0).getD .none)
  | .no => .no
theorem outP_ok (io : Bool) (o : Out) (r : Env) : outP io (.ok o r) = if io && !isOw r 0 then .no else outR o r := rfl
theorem outP_ex (io : Bool) (c : Nat) (r : Env) : outP io (.ex c r) = if io && !isOw r 0 then .no else .ex c ((dataAt r 0).getD .none) := rfl
def callP (G : Nat → Option D) (P : List Def) : Nat → CE
  | 0 => fun _ _ => .no
  | n + 1 => fun k ds => match P[k]? with
    | some d => if ds.length = d.np then outP d.io (exs G (callP G P n) d.body (startE d ds)) else .no
    | none => .no
def stAt (body : List Stmt) (d : Dn) : Stmt := body.getD d.at_ (.Pass ⟨0, 0, 0, 0⟩)
/-- what all defs share of a program's text: gcd, the calm tables, the globals, the own exceptions, the defs that handlers call -/
structure Pt where
  gc : Bool
  gd : Bool
  glo : List Str
  xs : List (Str × List Str)
  hots : List Str
def ccOf (t : Pt) (defs : List (Str × Bool)) (s : Stmt) (d : Dn) : Cc := { N := d.N, defs := defs, glo := t.glo, sc := L2.defScope s, st := stOf (L2.defScope s), io := d.io, gcd := t.gc, gd := t.gd && !t.hots.contains d.name, xT := t.xs, ca := !t.hots.contains d.name, hb := t.hots.contains d.name, hot := t.hots, hc := t.hots.contains d.name }
def defOf (t : Pt) (defs : List (Str × Bool)) (s : Stmt) (d : Dn) : Option Def :=
  (cSs (ccOf t defs s d) 1000 (L2.defBody s)).map fun b => { np := (psOf s).length, nn := d.N.length, io := d.io, body := b }
def defsOf (dns : List Dn) : List (Str × Bool) := dns.map fun d => (d.name, d.io)
def defsIR (t : Pt) (body : List Stmt) (dns : List Dn) : List Dn → Option (List Def)
  | [] => some []
  | d :: r => (defOf t (defsOf dns) (stAt body d) d).bind fun e => (defsIR t body dns r).map fun ts => e :: ts
theorem defsIR_get {t : Pt} {body : List Stmt} {dns : List Dn} : ∀ {l : List Dn} {P : List Def} {k : Nat} {d : Dn}, defsIR t body dns l = some P → l[k]? = some d → ∃ D, P[k]? = some D ∧ defOf t (defsOf dns) (stAt body d) d = some D
  | [], _, _, _, _, e => by simp at e
  | x :: r, P, k, d, h, e => by
    unfold defsIR at h
    obtain ⟨t, h1, h⟩ := Option.bind_eq_some_iff.mp h
    obtain ⟨ts, h2, rfl⟩ := Option.map_eq_some_iff.mp h
    cases k with
    | zero =>
      have e1 : x = d := Option.some.inj e
      subst e1
      exact ⟨t, rfl, h1⟩
    | succ k =>
      obtain ⟨D, h3, h4⟩ := defsIR_get (k := k) h2 e
      exact ⟨D, h3, h4⟩
/-- what a def's text must be -/
def dnC (s : Stmt) (d : Dn) : Bool :=
  C8.scC d.N (psOf s) (L2.defScope s) && d.N.all (fun x => !decide (x = "__debug__") && !decide (x = "__classdict__")) && !decide (d.name = "__debug__") && !decide (d.name = "__name__") && (stOf (L2.defScope s)).all (fun x => decide ((L2.defScope s).names.lookup x = some .local) || decide ((L2.defScope s).names.lookup x = some .cell))
/-- a def as it stands behind the top -/
structure DefAt (K : PySem.W.Frag) (mg : Str → Option Value) (base : Heap) (gd : Bool) (T : List Addr) (s : Stmt) (d : Dn) : Prop where
  ex : ∃ (fa : Addr) (oc : Value) (od : Option Addr) (kV doc pm : Value) (an : Option Addr) (cdv ct : Value) (osl : Array (Option Value)),
    K.lookup fa = some ⟨oc, od, .func (PySem.W.fnOf d.name d.name (defArgs s) (defBody s) (defScope s) .none kV doc pm an cdv ct), osl⟩ ∧ PySem.W.codeIn K cdv d.name = true ∧ mg d.name = some (.ref fa) ∧ PySem.W.keepIn K (.ref fa) = true ∧
    (∀ us : List Value, us.length = (psOf s).length → bindArgs (PySem.W.fnOf d.name d.name (defArgs s) (defBody s) (defScope s) .none kV doc pm an cdv ct) ⟨us, []⟩ = pure ((psOf s).zip us)) ∧ (gd = true → ∃ cA P, P ∈ T ∧ GxR.TabB base mg cA P ∧ cdv = .ref cA)
/-- the program's plain data -/
structure Pg where
  gc : Bool
  gd : Bool
  body : List Stmt
  dns : List Dn
  glos : List (Str × D)
  xs : List (Str × List Str) := []
  hots : List Str := []
  hg : List Str := []
  P : List Def
def Pg.glo (p : Pg) : List Str := p.glos.map Prod.fst
def Pg.t (p : Pg) : Pt := ⟨p.gc, p.gd, p.glo, p.xs, p.hots⟩
def Pg.G (p : Pg) (k : Nat) : Option D := p.glos[k]?.map Prod.snd
structure PgOk (p : Pg) : Prop where
  ir : defsIR p.t p.body p.dns p.dns = some p.P
  dn : p.dns.all (fun d => dnC (stAt p.body d) d) = true
  gl : p.glo.all (fun x => !decide (x = "__debug__") && !decide (x = "__name__")) = true
  xn : p.xs.all (fun x => !decide (x.1 = "__debug__") && !decide (x.1 = "__name__")) = true
  xd : decide ((p.xs.map Prod.fst).Nodup) = true
  ho : p.dns.all (fun d => !p.hots.contains d.name || !d.io) = true
/-- the k-th exception's class -/
def xcOf (p : Pg) (mg : Str → Option Value) (k : Nat) : Value := (p.xs[k]?.bind fun y => mg y.1).getD .none
/-- the state that the top has made -/
structure PgAt (p : Pg) (K : PySem.W.Frag) (mg : Str → Option Value) (base : Heap) (T : List Addr) : Prop where
  df : ∀ d ∈ p.dns, DefAt K mg base p.gd T (stAt p.body d) d
  bi : ∀ x ∈ biNames, mg x = none
  gcd : p.gc = true → mg "gcd" = some (.builtin "math.gcd")
  glo : ∀ (k : Nat) (x : Str) (d : D), p.glos[k]? = some (x, d) → ∃ u v, mg x = some u ∧ RelV v u ∧ ∀ H, Fz K H d v
  xcl : ∀ x ∈ p.xs, ∃ cv, ExcC0 K mg x.1 cv
  xsub : ∀ x ∈ p.xs, ∀ y ∈ p.xs, ∀ C D, mg x.1 = some (.ref C) → mg y.1 = some (.ref D) → PySem.W.kitOne K (.ref C) (.ref D) = some (x.2.contains y.1) ∧ PySem.W.exmOne K (.ref C) (.ref D) = some (x.2.contains y.1)
theorem ixOf_get' {x : Str} {l : List (Str × Bool)} {io : Bool} {k : Nat} : l.lookup x = some io → ixOf x (l.map Prod.fst) = some k → l[k]? = some (x, io) := by
  induction l generalizing k with
  | nil => intro h; cases h
  | cons y r ih =>
    obtain ⟨a, b⟩ := y
    intro h1 h2
    have h2 : (if a == x then some 0 else (ixOf x (r.map Prod.fst)).map (· + 1)) = some k := h2
    by_cases e : a = x
    · subst e
      rw [if_pos (beq_self_eq_true a)] at h2
      cases h2
      rw [List.lookup_cons_self] at h1
      cases h1
      rfl
    · have e1 : (a == x) = false := beq_eq_false_iff_ne.mpr e
      have e2 : (x == a) = false := beq_eq_false_iff_ne.mpr (Ne.symm e)
      rw [e1] at h2
      rw [if_neg (by simp)] at h2
      obtain ⟨j, h3, rfl⟩ := Option.map_eq_some_iff.mp h2
      rw [List.lookup_cons, e2] at h1
      exact ih h1 h3
section
variable {K : PySem.W.Frag} {T : List Addr} {H : Hp}
theorem gd_start {d : Def} {N : List Str} {ds : List D} {vs : List V} (hn : d.nn = N.length) (hp : d.np = ds.length) (hio : d.io = false) (h : Fzs K H ds vs) (hT : ∀ p ∈ T, GxR.TabG H p) : Gd K T (startE d ds) (L2.start N vs) H ∧ ∀ a, ¬ Own (startE d ds) (L2.start N vs) a := by
  have hl := h.length
  have e : startE d ds = ds.map Sl.fz ++ List.replicate (d.nn - d.np) Sl.no := by unfold startE; rw [hio]
  have no : ∀ (i : Nat) (x : D), (startE d ds)[i]? ≠ some (Sl.ow x) := fun i x q => by
    rw [e] at q
    have := List.mem_of_getElem? q
    simp at this
  refine ⟨⟨?_, fun i x q => ?_, fun i x q => (no i x q).elim, fun i j x y v q => (no i x q).elim, hT⟩, fun a ⟨i, x, q, _⟩ => no i x q⟩
  · rw [e]; unfold L2.start
    simp only [List.length_append, List.length_map, List.length_replicate]
    omega
  · rw [e] at q
    by_cases hi : i < ds.length
    · rw [List.getElem?_append_left (by simpa using hi), List.getElem?_map] at q
      obtain ⟨y, q1, q2⟩ := Option.map_eq_some_iff.mp q
      cases q2
      obtain ⟨v, q3, q4⟩ := h.get q1
      refine ⟨v, ?_, q4⟩
      unfold L2.start
      rw [List.getElem?_append_left (by simp; omega), List.getElem?_map, q3]
      rfl
    · rw [List.getElem?_append_right (by simpa using hi), List.getElem?_replicate] at q
      split at q <;> cases q
theorem gd_start_io {d : Def} {N : List Str} {d0 : D} {ds : List D} {a : Addr} {vs : List V} (hn : d.nn = N.length) (hp : d.np = ds.length + 1) (hio : d.io = true) (h0 : OwD K H d0 (.ref a)) (h : Fzs K H ds vs) (hT : ∀ p ∈ T, GxR.TabG H p) :
    Gd K T (startE d (d0 :: ds)) (L2.start N (.ref a :: vs)) H ∧ ∀ b, Own (startE d (d0 :: ds)) (L2.start N (.ref a :: vs)) b → b = a := by
  have hl := h.length
  have e : startE d (d0 :: ds) = Sl.ow d0 :: (ds.map Sl.fz ++ List.replicate (d.nn - d.np) Sl.no) := by unfold startE; rw [hio]
  have es : L2.start N (.ref a :: vs) = some (.ref a) :: (vs.map some ++ List.replicate (N.length - (vs.length + 1)) none) := by unfold L2.start; rfl
  have no : ∀ (i : Nat) (x : D), (startE d (d0 :: ds))[i]? = some (Sl.ow x) → i = 0 ∧ x = d0 := fun i x q => by
    rw [e] at q
    cases i with
    | zero => cases q; exact ⟨rfl, rfl⟩
    | succ i =>
      rw [List.getElem?_cons_succ] at q
      have := List.mem_of_getElem? q
      simp at this
  refine ⟨⟨?_, fun i x q => ?_, fun i x q => ?_, fun i j x y v q1 q2 _ _ => by rw [(no i x q1).1, (no j y q2).1], hT⟩, fun b ⟨i, x, q, q2⟩ => ?_⟩
  · rw [e, es]
    simp only [List.length_cons, List.length_append, List.length_map, List.length_replicate]
    omega
  · rw [e] at q
    cases i with
    | zero => cases q
    | succ i =>
      rw [List.getElem?_cons_succ] at q
      by_cases hi : i < ds.length
      · rw [List.getElem?_append_left (by simpa using hi), List.getElem?_map] at q
        obtain ⟨y, q1, q2⟩ := Option.map_eq_some_iff.mp q
        cases q2
        obtain ⟨v, q3, q4⟩ := h.get q1
        refine ⟨v, ?_, q4⟩
        rw [es, List.getElem?_cons_succ, List.getElem?_append_left (by simp; omega), List.getElem?_map, q3]
        rfl
      · rw [List.getElem?_append_right (by simpa using hi), List.getElem?_replicate] at q
        split at q <;> cases q
  · obtain ⟨rfl, rfl⟩ := no i x q
    exact ⟨_, by rw [es]; rfl, h0⟩
  · obtain ⟨rfl, _⟩ := no i x q
    rw [es] at q2
    cases q2
    rfl
end
section
variable {prog : Program} {w : World} {K : PySem.W.Frag} {mg : Str → Option Value} {base : Heap} {T : List Addr} {p : Pg}
def ycP (T : List Addr) (xc : Nat → Value) (E : XK) : Yc := ⟨T, fun cls d _ H => E cls d H, xc⟩
/-- the def's promise at a level -/
structure DefOk (prog : Program) (w : World) (K : PySem.W.Frag) (mg : Str → Option Value) (base : Heap) (T : List Addr) (p : Pg) (m : Nat) (f : CE) (k : Nat) (d : Dn) (fa : Addr) (fd : FuncData) : Prop where
  nm : mg d.name = some (.ref fa)
  kp : PySem.W.keepIn K (.ref fa) = true
  bd : ∀ us : List Value, us.length = (psOf (stAt p.body d)).length → bindArgs fd ⟨us, []⟩ = pure ((psOf (stAt p.body d)).zip us)
  lk : ∃ oc od sl, K.lookup fa = some ⟨oc, od, .func fd, sl⟩
  calm : p.hots.contains d.name = false → FnOk prog w K mg base (L2N.CX prog w) m fa fd (psOf (stAt p.body d)) (spF T (xcOf p mg) K (f k) (psOf (stAt p.body d)).length d.io)
  hot : p.hots.contains d.name = true → FnX prog w K mg base (L2N.CX prog w) m fa fd (psOf (stAt p.body d)) (spF T (xcOf p mg) K (f k) (psOf (stAt p.body d)).length d.io)
theorem lookup_mem {α : Type} {x : Str} {v : α} : ∀ {l : List (Str × α)}, l.lookup x = some v → (x, v) ∈ l
  | [], h => by cases h
  | y :: r, h => by
    obtain ⟨a, b⟩ := y
    rw [List.lookup_cons] at h
    by_cases e : x = a
    · subst e
      rw [beq_self_eq_true] at h
      cases h
      exact List.mem_cons_self
    · rw [beq_eq_false_iff_ne.mpr e] at h
      exact List.mem_cons_of_mem _ (lookup_mem h)
theorem xc_at {p : Pg} {mg : Str → Option Value} {x : Str} {k : Nat} {cv : Value} (h : ixOf x (p.xs.map Prod.fst) = some k) (hm : mg x = some cv) : xcOf p mg k = cv := by
  have h := ixOf_get h
  rw [List.getElem?_map] at h
  obtain ⟨y, h1, h2⟩ := Option.map_eq_some_iff.mp h
  unfold xcOf
  rw [h1]
  show (mg y.1).getD _ = _
  rw [h2, hm]; rfl
/-- the context of a body -/
theorem cks_body (ok : PgOk p) (A0 : PgAt p K mg base T) {n : Nat} {f : CE} (IH : ∀ (k : Nat) (d : Dn), p.dns[k]? = some d → ∃ fa fd, DefOk prog w K mg base T p n f k d fa fd)
    (hnp : ∀ (k : Nat) (d : Dn), p.dns[k]? = some d → ∀ ds, f k ds ≠ .no → ds.length = (psOf (stAt p.body d)).length)
    {d : Dn} (hd : d ∈ p.dns) {fa : Addr} {cdv : Value} {A : Around} {outer : List PySem.Env} {s : Shared} {H : Hp} {E : XK} (X : Cx) (hX : X = { cxOf (L2N.CX prog w) prog w K mg base d.N d.name (defScope (stAt p.body d)) fa cdv A outer s H E with calm := !p.hots.contains d.name })
    (hr : RoomH (n + 1) X.A) (hh : p.hots.contains d.name = false → X.A.handled = none) (hot : p.hots.contains d.name = true → HotA A H)
    (hcd : p.gd = true → ∃ cA P, P ∈ T ∧ GxR.TabB base mg cA P ∧ cdv = .ref cA) :
    Cks (L2N.CX prog w) X (ccOf p.t (defsOf p.dns) (stAt p.body d) d) (ycP T (xcOf p mg) E) p.G f n := by
  have h1 := List.all_eq_true.mp ok.dn d hd
  unfold dnC at h1
  simp only [Bool.and_eq_true] at h1
  obtain ⟨⟨⟨⟨hsc, hN⟩, hn1⟩, hn2⟩, hio⟩ := h1
  have S := C8.fnScope_by hsc
  have hca : ∀ b : Bool, (!b) = true → b = false := fun b h => by simpa using h
  subst hX
  have tk : L2N.Takes { cxOf (L2N.CX prog w) prog w K mg base d.N d.name (defScope (stAt p.body d)) fa cdv A outer s H E with calm := !p.hots.contains d.name } (ycP T (xcOf p mg) E).W := L2N.takes_of rfl rfl rfl rfl
  refine { N := rfl, nd := S.nd, sc := rfl, calm := fun h => h, hot := fun h => ?_, hbca := fun h => ?_, hchb := fun h => h, roomH := fun _ => hr.mono (by omega), un := ?_, room := fun h => ?_, bi := A0.bi, gcd := A0.gcd, glo := fun k x e h1 h2 => ?_, fn := fun _ x io k h0 h1 h2 => ?_, fnH := fun x k h0 h1 h2 => ?_, pass := fun pins σ H' s' e s'' I z => tk e s'' (L2N.XE.of_call I (fun _ _ _ h => h) z), cxf := fun _ _ _ _ _ h => ?_, code := fun hc => hcd ?_, st := fun x hx => ?_, glo0 := fun x hx => ?_, def0 := fun x hx => ?_, N0 := fun x hx => ?_, xnd := ?_, xcl := fun x k h => ?_, xsub := fun x y anc C D h1 h2 h3 h4 => ?_, own := PassesOwn.leaving, cx := rfl, tk := tk, stk := rfl, frm := rfl, ex0 := rfl, blk := ?_ }
  · obtain ⟨a, oe, φ, vs, q1, q2, q3, q4⟩ := (hot h).ex
    exact ⟨a, oe, φ, vs, q1, q2, q3, q4⟩
  · have h : p.hots.contains d.name = true := h
    show (!p.hots.contains d.name) = false
    rw [h]; rfl
  · have := hr.un
    show (A.deeper _).units + 200 < _
    have h2 : (A.deeper (envOfC d.name (defScope (stAt p.body d)) s.heap.objs.size fa cdv)).units + 16 * (n + 1) + 200 < cLine := this
    omega
  · have r1 : Room (n + 1) (A.deeper (envOfC d.name (defScope (stAt p.body d)) s.heap.objs.size fa cdv)) := ⟨hh (hca _ h), hr.dp, hr.un⟩
    refine r1.mono ?_
    split <;> omega
  · obtain ⟨y, h3, h4⟩ := Option.map_eq_some_iff.mp (show p.glos[k]?.map Prod.snd = some e from h2)
    subst h4
    have h5 : p.glo[k]? = some x := ixOf_get h1
    unfold Pg.glo at h5
    rw [List.getElem?_map, h3] at h5
    have h6 : y.1 = x := Option.some.inj h5
    subst h6
    exact A0.glo k y.1 y.2 h3
  · have h3 := ixOf_get' h1 h2
    unfold ccOf defsOf at h3
    rw [List.getElem?_map] at h3
    obtain ⟨e, h4, h5⟩ := Option.map_eq_some_iff.mp h3
    cases h5
    obtain ⟨fa, fd, q⟩ := IH k e h4
    exact ⟨fa, fd, _, _, q.nm, q.kp, .all q.bd, hnp k e h4, q.calm h0⟩
  · have h3 := ixOf_get' h1 h2
    unfold ccOf defsOf at h3
    rw [List.getElem?_map] at h3
    obtain ⟨e, h4, h5⟩ := Option.map_eq_some_iff.mp h3
    have e1 : e.name = x := congrArg Prod.fst h5
    have e2 : e.io = false := congrArg Prod.snd h5
    subst e1
    obtain ⟨fa, fd, q⟩ := IH k e h4
    have q1 := q.hot h0
    rw [e2] at q1
    exact ⟨fa, fd, _, _, q.nm, q.kp, .all q.bd, hnp k e h4, q1⟩
  · obtain ⟨_, _, _, _, _, _, _, _, _, _, _, _, _, h⟩ := h
  · have hc : (p.gd && !p.hots.contains d.name) = true := hc
    rw [Bool.and_eq_true] at hc
    exact hc.1
  · have hx : x ∈ stOf (defScope (stAt p.body d)) := List.contains_iff_mem.mp hx
    have q := List.all_eq_true.mp hio x hx
    simp only [Bool.or_eq_true, decide_eq_true_eq] at q
    exact q.imp id fun z => ⟨z, rfl⟩
  · have := List.all_eq_true.mp ok.gl x hx
    simpa using this
  · obtain ⟨y, q1, rfl⟩ := List.mem_map.mp hx
    obtain ⟨e, q2, rfl⟩ := List.mem_map.mp q1
    have h1 := List.all_eq_true.mp ok.dn e q2
    unfold dnC at h1
    simp only [Bool.and_eq_true] at h1
    exact ⟨by simpa using h1.1.1.2, by simpa using h1.1.2⟩
  · have := List.all_eq_true.mp hN x hx
    simpa using this
  · exact of_decide_eq_true ok.xd
  · have h5 := ixOf_mem h
    obtain ⟨y, q1, rfl⟩ := List.mem_map.mp h5
    have q2 := List.all_eq_true.mp ok.xn y q1
    obtain ⟨cv, q3⟩ := A0.xcl y q1
    obtain ⟨C, rfl, hm, r⟩ := q3.ex
    refine ⟨?_, by simpa using q2⟩
    show ExcC0 K mg y.1 (xcOf p mg k)
    rw [xc_at h hm]
    exact q3
  · obtain ⟨y, q1, rfl⟩ := List.mem_map.mp h2
    exact A0.xsub (x, anc) (lookup_mem h1) y q1 C D h3 h4
  · show (if (defScope (stAt p.body d)).kind.isAnnotationScope = true then ScopeKind.function else (defScope (stAt p.body d)).kind) = _
    rw [S.kind]
    split <;> rfl
/-- the promise from the body's meaning -/
theorem run_body {d : Dn} {H : Hp} {E : XK} {Q : VK} {X : Cx} {D : Def} {c : Cc} {n : Nat} {f f' : CE} {k : Nat} {vs : List V}
    (C : Cks (L2N.CX prog w) X c (ycP T (xcOf p mg) E) p.G f n) (hK : X.K = K) (ci : c.io = d.io) (h : cSs c 1000 (defBody (stAt p.body d)) = some D.body) (np : D.np = (psOf (stAt p.body d)).length) (nn : D.nn = d.N.length) (io : D.io = d.io)
    (g1 : ∀ ds, f' k ds = if ds.length = D.np then outP D.io (exs p.G f D.body (startE D ds)) else .no) (hsp : spF T (xcOf p mg) K (f' k) (psOf (stAt p.body d)).length d.io vs H Q E) :
    ∃ t, PSs X (defBody (stAt p.body d)) t ∧ t { nx := fun _ H' => Q .non H', rt := Q } (L2.start d.N vs) H := by
  have sn := (alls_all 1000).ss _ _ _ _ _ _ _ C (defBody (stAt p.body d)) D.body h
  have sp := sn.pss
  rw [ci, hK] at sp
  refine ⟨_, sp, ?_⟩
  obtain ⟨hlen, hT, hsp⟩ := hsp
  split at hsp
  · rename_i hio
    obtain ⟨a, d0, ds, ws, rfl, hO, hF, hm⟩ := hsp
    have hl : (d0 :: ds).length = D.np := by
      rw [np, ← hlen, List.length_cons, List.length_cons, hF.length]
    rw [g1, if_pos hl] at hm
    obtain ⟨gd, hown⟩ := gd_start_io (K := K) (T := T) (H := H) (d := D) (N := d.N) nn hl.symm (io.trans hio) hO hF hT
    refine ⟨startE D (d0 :: ds), gd, ?_⟩
    have h0 := sn.io (ci.trans hio)
    have fin : ∀ {r' : Env} {σ' : L2.St} {H' : Hp}, SPost K T (asgSs D.body) (startE D (d0 :: ds)) (L2.start d.N (.ref a :: ws)) H r' σ' H' → isOw r' 0 = true → OwD K H' ((dataAt r' 0).getD .none) (.ref a) ∧ ∀ b o, H b = some o → (∀ ps, o ≠ .tbl ps) → b ≠ a → H' b = some o := fun {r' σ' H'} P1 hw => by
      have s0 : σ'[0]? = some (some (.ref a)) := by rw [P1.keep 0 h0]; rfl
      refine ⟨?_, fun b o q1 q2 q3 => P1.ext b o q1 q2 fun q4 => q3 (hown b q4)⟩
      unfold isOw at hw
      split at hw
      · rename_i d1 e1
        obtain ⟨v, e3, e4⟩ := P1.gd.ow 0 d1 e1
        rw [s0] at e3
        cases e3
        unfold dataAt
        rw [e1]
        exact e4
      · cases hw
    cases er : exs p.G f D.body (startE D (d0 :: ds)) with
    | no => rw [er] at hm; exact hm.elim
    | ex c r' =>
      rw [er, outP_ex, io, hio] at hm
      by_cases hw : isOw r' 0 = true
      · rw [hw, if_neg (by simp)] at hm
        intro σ' H' P1
        obtain ⟨q1, q2⟩ := fin P1 hw
        exact hm H' P1.gd.tb q2 P1.tr q1
      · have hw : isOw r' 0 = false := by simpa using hw
        rw [hw, if_pos (by simp)] at hm
        exact hm.elim
    | ok o r' =>
      rw [er] at hm
      rw [outP_ok, io, hio] at hm
      show ∀ σ' H', SPost K T _ _ _ H r' σ' H' → EndS d.io K _ _ H o _ σ' H'
      intro σ' H' P1
      by_cases hw : isOw r' 0 = true
      · rw [hw, if_neg (by simp)] at hm
        obtain ⟨hd1, hext⟩ := fin P1 hw
        cases o with
        | rt v =>
          intro z hz
          refine hm z H' P1.gd.tb hext P1.tr hd1 ?_
          cases v with
          | val d => exact hz
          | new d =>
            refine ⟨hz.1, fun b e => ?_⟩
            rcases hz.2 b e with q | ⟨q1, q2⟩
            · exact q
            · have := hown b q1
              subst this
              exact (q2 hio rfl).elim
        | nx => exact hm .non H' P1.gd.tb hext P1.tr hd1 rfl
        | bk => exact hm.elim
        | ct => exact hm.elim
      · have hw : isOw r' 0 = false := by simpa using hw
        rw [hw, if_pos (by simp)] at hm
        exact hm.elim
  · rename_i hio
    have hio : d.io = false := by simpa using hio
    obtain ⟨ds, hF, hm⟩ := hsp
    have hl : ds.length = D.np := by
      rw [np, ← hlen, hF.length]
    rw [g1, if_pos hl] at hm
    obtain ⟨gd, hown⟩ := gd_start (K := K) (T := T) (H := H) (d := D) (N := d.N) nn hl.symm (io.trans hio) hF hT
    refine ⟨startE D ds, gd, ?_⟩
    cases er : exs p.G f D.body (startE D ds) with
    | no => rw [er] at hm; exact hm.elim
    | ex c r' =>
      rw [er, outP_ex, io, hio, if_neg (by simp)] at hm
      intro σ' H' P1
      exact hm H' P1.gd.tb (fun b o q1 q2 => P1.ext b o q1 q2 fun q4 => hown b q4) P1.tr
    | ok o r' =>
      rw [er] at hm
      rw [outP_ok, io, hio] at hm
      show ∀ σ' H', SPost K T _ _ _ H r' σ' H' → EndS d.io K _ _ H o _ σ' H'
      intro σ' H' P1
      rw [if_neg (by simp)] at hm
      have hext : ∀ b o, H b = some o → (∀ ps, o ≠ .tbl ps) → H' b = some o := fun b o q1 q2 => P1.ext b o q1 q2 fun q4 => hown b q4
      cases o with
      | rt v =>
        intro z hz
        refine hm z H' P1.gd.tb hext P1.tr ?_
        cases v with
        | val d => exact hz
        | new d =>
          refine ⟨hz.1, fun b e => ?_⟩
          rcases hz.2 b e with q | ⟨q1, q2⟩
          · exact q
          · exact (hown b q1).elim
      | nx => exact hm .non H' P1.gd.tb hext P1.tr rfl
      | bk => exact hm.elim
      | ct => exact hm.elim
theorem callP_np (ok : PgOk p) {n k : Nat} {d : Dn} (hk : p.dns[k]? = some d) {ds : List D} (hne : callP p.G p.P n k ds ≠ .no) : ds.length = (psOf (stAt p.body d)).length := by
  cases n with
  | zero => exact (hne rfl).elim
  | succ n =>
    obtain ⟨D, hD, hDd⟩ := defsIR_get ok.ir hk
    obtain ⟨ir, hir, eD⟩ := Option.map_eq_some_iff.mp hDd
    unfold callP at hne
    rw [hD] at hne
    have hne : (if ds.length = D.np then outP D.io (exs p.G (callP p.G p.P n) D.body (startE D ds)) else .no) ≠ .no := hne
    split at hne
    · rename_i e; rw [e, ← eD]
    · exact (hne rfl).elim
/-- the def of a number keeps its promise, at every level -/
theorem lev (ok : PgOk p) (A0 : PgAt p K mg base T) : ∀ (n k : Nat) (d : Dn), p.dns[k]? = some d → ∃ fa fd, DefOk prog w K mg base T p (2 * n) (callP p.G p.P n) k d fa fd
  | 0, k, d, hk => by
    obtain ⟨fa, oc, od, kV, doc, pm, an, cdv, ct, osl, h1, h2, h3, h4, h5, h6⟩ := (A0.df d (List.mem_of_getElem? hk)).ex
    have no : ∀ vs H Q E, ¬ spF T (xcOf p mg) K (callP p.G p.P 0 k) (psOf (stAt p.body d)).length d.io vs H Q E := fun vs H Q E h => by
      obtain ⟨_, _, h⟩ := h
      split at h
      · obtain ⟨_, _, _, _, _, _, _, h⟩ := h
        exact h.elim
      · obtain ⟨_, _, h⟩ := h
        exact h.elim
    exact ⟨fa, _, h3, h4, h5, ⟨_, _, _, h1⟩, fun _ => ⟨fun vs H Q E h => h.1, fun A outer s H args us vs Q E _ _ _ _ h => (no _ _ _ _ h).elim⟩, fun _ => ⟨fun vs H Q E h => h.1, fun A outer s H args us vs Q E _ _ _ _ _ h => (no _ _ _ _ h).elim⟩⟩
  | n + 1, k, d, hk => by
    have hd := List.mem_of_getElem? hk
    obtain ⟨fa, oc, od, kV, doc, pm, an, cdv, ct, osl, h1, h2, h3, h4, h5, h6⟩ := (A0.df d hd).ex
    have hdn := List.all_eq_true.mp ok.dn d hd
    have hdn0 := hdn
    unfold dnC at hdn0
    simp only [Bool.and_eq_true] at hdn0
    have S := C8.fnScope_by hdn0.1.1.1.1
    obtain ⟨D, hD, hDd⟩ := defsIR_get ok.ir hk
    obtain ⟨ir, hir, eD⟩ := Option.map_eq_some_iff.mp hDd
    have np : D.np = (psOf (stAt p.body d)).length := by rw [← eD]
    have nn : D.nn = d.N.length := by rw [← eD]
    have io : D.io = d.io := by rw [← eD]
    have bo : D.body = ir := by rw [← eD]
    have hir : cSs (ccOf p.t (defsOf p.dns) (stAt p.body d) d) 1000 (defBody (stAt p.body d)) = some D.body := by rw [bo]; exact hir
    have IH : ∀ (k : Nat) (d : Dn), p.dns[k]? = some d → ∃ fa fd, DefOk prog w K mg base T p (2 * n) (callP p.G p.P n) k d fa fd := fun k d hk => lev ok A0 n k d hk
    have g1 : ∀ ds, callP p.G p.P (n + 1) k ds = if ds.length = D.np then outP D.io (exs p.G (callP p.G p.P n) D.body (startE D ds)) else .no := fun ds => by
      show (match p.P[k]? with | some d => _ | none => _) = _
      rw [hD]
    refine ⟨fa, _, h3, h4, h5, ⟨_, _, _, h1⟩, fun hh => ?_, fun hh => ?_⟩
    · refine L2.fn_of h1 h2 S (fun vs H Q E h => h.1) fun A outer s H vs Q E hr hsp => ?_
      have eX : cxOf (L2N.CX prog w) prog w K mg base d.N d.name (defScope (stAt p.body d)) fa cdv A outer s H E = { cxOf (L2N.CX prog w) prog w K mg base d.N d.name (defScope (stAt p.body d)) fa cdv A outer s H E with calm := !p.hots.contains d.name } := by rw [hh]; rfl
      exact run_body (cks_body ok A0 IH (fun k d hk ds hne => callP_np ok hk hne) hd _ eX (roomH_of hr) (fun _ => hr.hd) (fun z => by rw [hh] at z; cases z) h6) rfl rfl hir np nn io g1 hsp
    · refine fn_hot h1 h2 S (fun vs H Q E h => h.1) fun A outer s H vs Q E hot hr hsp => ?_
      have eX : cxX (L2N.CX prog w) prog w K mg base d.N d.name (defScope (stAt p.body d)) fa cdv A outer s H E = { cxOf (L2N.CX prog w) prog w K mg base d.N d.name (defScope (stAt p.body d)) fa cdv A outer s H E with calm := !p.hots.contains d.name } := by rw [hh]; rfl
      exact run_body (cks_body ok A0 IH (fun k d hk ds hne => callP_np ok hk hne) hd _ eX hr (fun z => by rw [hh] at z; cases z) (fun _ => hot) h6) rfl rfl hir np nn io g1 hsp
end
end Fw

/-! Fw: the end of a law -/
namespace Fw
open PySem PySem.Spec PySem.W PySem.Calls PyProof.Rows L2

/-- what the head tells of the defs, as a fragment of the heap -/
theorem frag_of {h : Heap} {mg : Str → Option Value} {q : Program} (fn : ∀ d ∈ recsOf q, ∃ a o pm code doc, mg d.name = some (.ref a) ∧ h.get? a = some o ∧ o.data = .func (docDef d.name d.params d.body d.scope pm code doc) ∧ h.CodeRec code d.name)
    (tab : ∀ d ∈ recsOf q, ∃ a o fd c P, mg d.name = some (.ref a) ∧ h.get? a = some o ∧ o.data = .func fd ∧ fd.code = .ref c ∧ h.IsCode c P #[] ∧ h.TableAt c P #[]) :
    ∀ l : List DefRec, (∀ d ∈ l, d ∈ recsOf q) → ∃ (K : PySem.W.Frag) (cs : List (Addr × Addr)), (∀ p ∈ K, h.get? p.1 = some p.2 ∧ p.2.data ≠ .fields #[]) ∧
      (∀ p ∈ cs, h.get? p.2 = some { cls := .none, data := .fields #[] } ∧ PySem.W.CodeHd h p.1 p.2) ∧
      ∀ d ∈ l, ∃ (a c P : Addr) (o oc : Obj) (pm doc : Value) (vs : Array Value) (t : Tok), (a, o) ∈ K ∧ (c, oc) ∈ K ∧ (c, P) ∈ cs ∧ mg d.name = some (.ref a) ∧ o.data = .func (docDef d.name d.params d.body d.scope pm (.ref c) doc) ∧ oc.data = .fields vs ∧ vs[1]? = some (.str d.name t)
  | [], _ => ⟨[], [], fun _ h => (by cases h), fun _ h => (by cases h), fun _ h => (by cases h)⟩
  | d :: r, hl => by
    obtain ⟨K, cs, h1, h2, h3⟩ := frag_of fn tab r fun e he => hl e (List.mem_cons_of_mem _ he)
    obtain ⟨a, o, pm, code, doc, e1, e2, e3, e4⟩ := fn d (hl d List.mem_cons_self)
    obtain ⟨a', o', fd, c, P, f1, f2, f3, f4, f5, f6⟩ := tab d (hl d List.mem_cons_self)
    rw [e1] at f1; cases f1
    rw [e2] at f2; cases f2
    rw [e3] at f3; cases f3
    have f4 : code = .ref c := f4
    subst f4
    obtain ⟨c', oc, vs, t, g1, g2, g3, g4⟩ := e4
    cases g1
    refine ⟨(a, o) :: (c, oc) :: K, (c, P) :: cs, fun p hp => ?_, fun p hp => ?_, fun e he => ?_⟩
    · rcases List.mem_cons.mp hp with rfl | hp
      · exact ⟨e2, fun z => by rw [e3] at z; cases z⟩
      · rcases List.mem_cons.mp hp with rfl | hp
        · exact ⟨g2, fun z => by rw [g3] at z; cases z; simp at g4⟩
        · exact h1 p hp
    · rcases List.mem_cons.mp hp with rfl | hp
      · exact ⟨f6.2, .of f5 f6⟩
      · exact h2 p hp
    · rcases List.mem_cons.mp he with rfl | he
      · exact ⟨a, c, P, o, oc, pm, doc, vs, t, List.mem_cons_self, List.mem_cons_of_mem _ List.mem_cons_self, List.mem_cons_self, e1, e3, g3, g4⟩
      · obtain ⟨a, c, P, o, oc, pm, doc, vs, t, q1, q2, q3, r⟩ := h3 e he
        exact ⟨a, c, P, o, oc, pm, doc, vs, t, List.mem_cons_of_mem _ (List.mem_cons_of_mem _ q1), List.mem_cons_of_mem _ (List.mem_cons_of_mem _ q2), List.mem_cons_of_mem _ q3, r⟩
theorem mem_lookup {K : PySem.W.Frag} {a : Addr} {o : Obj} (h : K.lookup a = some o) : (a, o) ∈ K := by
  induction K with
  | nil => cases h
  | cons x r ih =>
    obtain ⟨b, u⟩ := x
    rw [List.lookup_cons] at h
    by_cases e : a = b
    · subst e
      rw [beq_self_eq_true] at h
      cases h
      exact List.mem_cons_self
    · rw [beq_eq_false_iff_ne.mpr e] at h
      exact List.mem_cons_of_mem _ (ih h)
theorem lookup_of_mem {h : Heap} {K : PySem.W.Frag} (hK : ∀ p ∈ K, h.get? p.1 = some p.2) {a : Addr} {o : Obj} (hm : (a, o) ∈ K) : K.lookup a = some o := by
  induction K with
  | nil => cases hm
  | cons x r ih =>
    obtain ⟨b, u⟩ := x
    rw [List.lookup_cons]
    by_cases e : a = b
    · subst e
      rw [beq_self_eq_true]
      have h1 := hK (a, u) List.mem_cons_self
      have h2 := hK (a, o) hm
      rw [h1] at h2
      exact h2
    · rw [beq_eq_false_iff_ne.mpr e]
      rcases List.mem_cons.mp hm with z | z
      · cases z; exact (e rfl).elim
      · exact ih (fun p hp => hK p (List.mem_cons_of_mem _ hp)) z
theorem codeIn_of {K : PySem.W.Frag} {c : Addr} {oc : Obj} {q : Str} {vs : Array Value} {t : Tok} (l : K.lookup c = some oc) (h : oc.data = .fields vs) (h2 : vs[1]? = some (.str q t)) : PySem.W.codeIn K (.ref c) q = true := by
  obtain ⟨ocl, od, dt, osl⟩ := oc
  have h : dt = _ := h
  subst h
  unfold PySem.W.codeIn
  simp only [l]
  rw [← Array.getElem?_toList] at h2
  revert h2
  generalize vs.toList = l
  intro h2
  match l, h2 with
  | _ :: .str n _ :: _, h2 => cases h2; exact beq_self_eq_true _
theorem keepIn_of {K : PySem.W.Frag} {a : Addr} {oc : Value} {od : Option Addr} {fd : FuncData} {sl : Array (Option Value)} (l : K.lookup a = some ⟨oc, od, .func fd, sl⟩) : PySem.W.keepIn K (.ref a) = true := by
  unfold PySem.W.keepIn
  simp only [l]
def simpleP (p : Arguments) : Bool := p.posonlyargs.isEmpty && p.kwonlyargs.isEmpty && p.vararg.isNone && p.kwarg.isNone
/-- the view of the program that the head takes -/
structure EndOk (q : Program) (loose : List Str) (p : Pg) : Prop where
  body : p.body = (recsOf q).map DefRec.stmt
  at_ : p.dns.all (fun d => match (recsOf q)[d.at_]? with | some r => decide (r.name = d.name) && simpleP r.params && decide ((r.params.args.map (·.arg)).Nodup) | none => false) = true
  free : biNames.all (fun x => !startupNames.contains x && !(looseW q loose).contains x && !((recsOf q).map (·.name)).contains x && !((litsOf q).map (·.1)).contains x && !((clssOf q (looseW q loose)).map (·.name)).contains x) = true
  glo : (p.glos.filter fun y => !p.hg.contains y.1).map (fun y => valOf q y.1) = (p.glos.filter fun y => !p.hg.contains y.1).map (fun y => some y.2)
  scal : (p.glos.filter fun y => !p.hg.contains y.1).all (fun y => isScal y.2) = true
theorem scal_reads {h : Heap} {v : Value} {d : D} (hd : isScal d = true) (r : Reads h v d []) : ∃ u, RelV u v ∧ ∀ K H, Fz K H d u := by
  cases d with
  | none => cases r; exact ⟨.non, rfl, fun _ _ => by simp [Fz]⟩
  | bool b => cases r; exact ⟨.bl b, rfl, fun _ _ => by simp [Fz]⟩
  | int i => cases r; exact ⟨.int i, ⟨_, rfl⟩, fun _ _ => by simp [Fz]⟩
  | str x => cases r; exact ⟨.str x, ⟨_, rfl⟩, fun _ _ => by simp [Fz]⟩
  | _ => cases hd
theorem tabB_of {base : Heap} {mg : Str → Option Value} {c P : Addr} (t : LamX.TabB base mg c P) : GxR.TabB base mg c P := ⟨t.code, t.bm, t.gP⟩
theorem lookup_app {h : Heap} {K0 K1 : PySem.W.Frag} (h0 : K0.In h) (h1 : ∀ p ∈ K1, h.get? p.1 = some p.2) {a : Addr} {o : Obj} (hm : (a, o) ∈ K1) : (K0 ++ K1).lookup a = some o := by
  rw [List.lookup_append]
  cases e : K0.lookup a with
  | some u =>
    have e1 := h0 _ _ e
    have e2 := h1 _ hm
    rw [e2] at e1
    rw [← e1]; rfl
  | none =>
    rw [lookup_of_mem h1 hm]; rfl
theorem in_app {h : Heap} {K0 K1 : PySem.W.Frag} (h0 : K0.In h) (h1 : ∀ p ∈ K1, h.get? p.1 = some p.2) : (K0 ++ K1).In h := fun a o e => by
  rw [List.lookup_append] at e
  cases q : K0.lookup a with
  | some u =>
    rw [q] at e
    cases e
    exact h0 _ _ q
  | none =>
    rw [q] at e
    exact h1 (a, o) (mem_lookup e)
def tys : List Ty := [.int, .bool, .str, .tuple, .list, .dict]
/-- the own classes of exceptions, as a part of the heap has them -/
def exc1 (K : PySem.W.Frag) (xs : List (Str × List Str)) (nm : Str) (anc : List Str) (C : Addr) : Bool :=
  (clsAt K nm == some C) && (PySem.W.findIn K (.ref C) "__getattribute__" == some (some (.builtin "BaseException.__getattribute__"))) && (PySem.W.findIn K (.ref C) "__getattr__" == some none) && (PySem.W.subIn K (.ref C) (.type "BaseException") == some true) &&
  PySem.W.hasDictIn K C && (PySem.W.findIn K (.ref C) "__class__" == some (some (.builtin "object.__class__"))) && (PySem.W.specialIn K (.builtin "object.__class__") "__get__" == some (some (.builtin "getset_descriptor.__get__"))) && (PySem.W.takesIn K (.builtin "object.__class__") == some true) && (PySem.W.mroIn K C (.type "object") == some true) &&
  tys.all (fun t => PySem.W.kitOne K (.ref C) (.type (tyN t)) == some false) && PySem.W.excIn K C PySem.HandSPX.veTail "ValueError.__new__" && PySem.W.keepIn K (.ref C) && (PySem.W.typeIn K (.ref C) == some (.type "type")) &&
  xs.all fun y => match PySem.W.nsIn K mainGlobals y.1 with
    | some (some (.ref D)) => (PySem.W.kitOne K (.ref C) (.ref D) == some (anc.contains y.1)) && (PySem.W.exmOne K (.ref C) (.ref D) == some (anc.contains y.1))
    | _ => false
def excB (K : PySem.W.Frag) (xs : List (Str × List Str)) : Bool := xs.all fun x => match PySem.W.nsIn K mainGlobals x.1 with
  | some (some (.ref C)) => exc1 K xs x.1 x.2 C
  | _ => false
theorem excB_of {K : PySem.W.Frag} {h : Heap} {mg : Str → Option Value} {xs : List (Str × List Str)} (X : K.In h) (G : h.Ns mainGlobals mg) (hx : excB K xs = true) {x : Str × List Str} (hm : x ∈ xs) : ∃ C, mg x.1 = some (.ref C) ∧ exc1 K xs x.1 x.2 C = true := by
  have q := List.all_eq_true.mp hx x hm
  split at q
  · rename_i C e
    exact ⟨C, PySem.W.mg_of X G e, q⟩
  · cases q
theorem excB_cl {K : PySem.W.Frag} {h : Heap} {mg : Str → Option Value} {xs : List (Str × List Str)} (X : K.In h) (G : h.Ns mainGlobals mg) (hx : excB K xs = true) : ∀ x ∈ xs, ∃ cv, ExcC0 K mg x.1 cv := fun x hm => by
  obtain ⟨C, e, q⟩ := excB_of X G hx hm
  unfold exc1 at q
  simp only [Bool.and_eq_true, beq_iff_eq] at q
  obtain ⟨⟨⟨⟨⟨⟨⟨⟨⟨⟨⟨⟨⟨q1, q2⟩, q3⟩, q4⟩, q5⟩, q6⟩, q7⟩, q8⟩, q9⟩, q10⟩, q11⟩, q12⟩, q13⟩, _⟩ := q
  refine ⟨_, C, rfl, e, ⟨q1, ⟨q2, q3, q4, q5, q6, q7, q8, q9⟩, fun t => ?_⟩, q11, q12, q4, q13⟩
  have := List.all_eq_true.mp q10 t (by cases t <;> decide)
  exact beq_iff_eq.mp this
theorem excB_sub {K : PySem.W.Frag} {h : Heap} {mg : Str → Option Value} {xs : List (Str × List Str)} (X : K.In h) (G : h.Ns mainGlobals mg) (hx : excB K xs = true) : ∀ x ∈ xs, ∀ y ∈ xs, ∀ C D, mg x.1 = some (.ref C) → mg y.1 = some (.ref D) → PySem.W.kitOne K (.ref C) (.ref D) = some (x.2.contains y.1) ∧ PySem.W.exmOne K (.ref C) (.ref D) = some (x.2.contains y.1) := fun x hm y hy C D e1 e2 => by
  obtain ⟨C', e, q⟩ := excB_of X G hx hm
  rw [e1] at e
  cases e
  unfold exc1 at q
  rw [Bool.and_eq_true] at q
  have q := List.all_eq_true.mp q.2 y hy
  split at q
  · rename_i D' e3
    have := PySem.W.mg_of X G e3
    rw [e2] at this
    cases this
    simp only [Bool.and_eq_true, beq_iff_eq] at q
    exact q
  · cases q
def scalB : D → Value → Bool
  | .none, .none => true
  | .bool b, .bool c => b == c
  | .int i, .int j _ => i == j
  | .str x, .str y _ => x == y
  | _, _ => false
/-- the value is the data, by a part of the heap -/
def glV (K : PySem.W.Frag) : Nat → D → Value → Bool
  | 0, d, v => scalB d v
  | n + 1, d, v => scalB d v || match d, v with
    | .tuple ds, .ref a => (match K.lookup a with
      | some o => (o.cls == .type "tuple") && (match o.data with
        | .seq its _ => decide (its.size ≤ 1000000) && decide (ds.length = its.toList.length) && (ds.zip its.toList).all fun p => glV K n p.1 p.2
        | _ => false)
      | none => false)
    | _, _ => false
theorem scalB_fz {K : PySem.W.Frag} {d : D} {v : Value} (h : scalB d v = true) : ∃ u, RelV u v ∧ ∀ H, Fz K H d u := by
  unfold scalB at h
  split at h
  · exact ⟨.non, rfl, fun _ => by simp [Fz]⟩
  · rename_i b c
    have := eq_of_beq h
    subst this
    exact ⟨.bl b, rfl, fun _ => by simp [Fz]⟩
  · rename_i i j t
    have := eq_of_beq h
    subst this
    exact ⟨.int i, ⟨t, rfl⟩, fun _ => by simp [Fz]⟩
  · rename_i i j t
    have := eq_of_beq h
    subst this
    exact ⟨.str i, ⟨t, rfl⟩, fun _ => by simp [Fz]⟩
  · cases h
theorem glV_fz {K : PySem.W.Frag} : ∀ (n : Nat) {d : D} {v : Value}, glV K n d v = true → ∃ u, RelV u v ∧ ∀ H, Fz K H d u
  | 0, d, v, h => scalB_fz h
  | n + 1, d, v, h => by
    unfold glV at h
    rw [Bool.or_eq_true] at h
    rcases h with h | h
    · exact scalB_fz h
    · split at h
      · rename_i ds a
        split at h
        · rename_i o ho
          rw [Bool.and_eq_true] at h
          obtain ⟨hc, h⟩ := h
          split at h
          · rename_i its k hd
            rw [Bool.and_eq_true, Bool.and_eq_true, decide_eq_true_eq, decide_eq_true_eq] at h
            obtain ⟨⟨h1, h2⟩, h3⟩ := h
            have key : ∀ (ds : List D) (us : List Value), ds.length = us.length → ((ds.zip us).all fun p => glV K n p.1 p.2) = true → ∃ xs, Vals xs us ∧ ∀ H, Fzs K H ds xs := by
              intro ds
              induction ds with
              | nil =>
                intro us hl _
                cases us with
                | nil => exact ⟨[], .nil, fun _ => by simp [Fzs]⟩
                | cons _ _ => cases hl
              | cons e ds ih =>
                intro us hl ha
                cases us with
                | nil => cases hl
                | cons w us =>
                  rw [List.zip_cons_cons, List.all_cons, Bool.and_eq_true] at ha
                  obtain ⟨x, r1, f1⟩ := glV_fz n ha.1
                  obtain ⟨xs, r2, f2⟩ := ih us (by simpa using hl) ha.2
                  exact ⟨x :: xs, .cons r1 r2, fun H => by simp only [Fzs]; exact ⟨x, xs, rfl, f1 H, f2 H⟩⟩
            obtain ⟨xs, r, f⟩ := key ds its.toList h2 h3
            refine ⟨.ref a, rfl, fun H => ?_⟩
            simp only [Fz]
            exact ⟨a, xs, rfl, .inr ⟨o, its, k, ho, eq_of_beq hc, hd, Nat.le_trans h1 (by decide), r⟩, f H⟩
          · cases h
        · cases h
      · cases h
/-- the globals that are no plain constants -/
def glB (K : PySem.W.Frag) (p : Pg) : Bool := (p.glos.filter fun y => p.hg.contains y.1).all fun y => match PySem.W.nsIn K mainGlobals y.1 with
  | some (some v) => glV K 10 y.2 v
  | _ => false
theorem glB_of {K : PySem.W.Frag} {h : Heap} {mg : Str → Option Value} {p : Pg} (X : K.In h) (G : h.Ns mainGlobals mg) (hx : glB K p = true) {y : Str × D} (hy : y ∈ p.glos) (hm : p.hg.contains y.1 = true) : ∃ u v, mg y.1 = some u ∧ RelV v u ∧ ∀ H, Fz K H y.2 v := by
  have q := List.all_eq_true.mp hx y (List.mem_filter.mpr ⟨hy, hm⟩)
  split at q
  · rename_i v e
    obtain ⟨u, r, f⟩ := glV_fz 10 q
    exact ⟨v, u, PySem.W.mg_of X G e, r, f⟩
  · cases q
def noTab (K : PySem.W.Frag) : Bool := K.all fun p => match p.2.data with
  | .fields vs => !vs.isEmpty
  | _ => true
/-- what the head's part of the heap must show -/
structure HeadOk (p : Pg) (mg : Str → Option Value) (h : Heap) (K0 : PySem.W.Frag) : Prop where
  inh : K0.In h
  gcd : p.gc = true → mg "gcd" = some (.builtin "math.gcd")
  tab : noTab K0 = true
  exc : ∀ K1, excB (K0 ++ K1) p.xs = true
  glb : ∀ K1, glB (K0 ++ K1) p = true
theorem HeadOk.nil {p : Pg} {mg : Str → Option Value} {h : Heap} (hg : p.gc = true → mg "gcd" = some (.builtin "math.gcd")) (hx : p.xs = []) (hh : p.hg = []) : HeadOk p mg h [] := ⟨fun _ _ e => (by cases e), hg, rfl, fun K1 => by rw [hx]; rfl, fun K1 => by
    unfold glB
    rw [hh]
    have : (p.glos.filter fun y => ([] : List Str).contains y.1) = [] := by
      rw [List.filter_eq_nil_iff]
      intro y _
      simp
    rw [this]; rfl⟩
/-- the state behind the top -/
theorem pgAt_of {q : Program} {loose : List Str} {p : Pg} (ok : PgOk p) (E : EndOk q loose p) {mean : ExcName → Option Value} {mg mb : Str → Option Value} {h : Heap} (T : Top q (looseW q loose) mean mg mb h) {K0 : PySem.W.Frag} (hd0 : HeadOk p mg h K0) :
    ∃ (K : PySem.W.Frag) (cs : List (Addr × Addr)), K.In h ∧ (∀ c ∈ cs, h.get? c.2 = some { cls := .none, data := .fields #[] }) ∧ (∀ c ∈ cs, K.lookup c.2 = none) ∧ (∀ c ∈ cs, PySem.W.CodeHd h c.1 c.2) ∧
      ∀ base : Heap, (∀ c ∈ cs, LamX.TabB base mg c.1 c.2) → PgAt p K mg base (cs.map (·.2)) := by
  obtain ⟨K, cs, h1, h2, h3⟩ := frag_of T.fn T.tab (recsOf q) fun _ h => h
  have hK : ∀ p ∈ K, h.get? p.1 = some p.2 := fun p hp => (h1 p hp).1
  have inK : (K0 ++ K).In h := in_app hd0.inh hK
  refine ⟨K0 ++ K, cs, inK, fun c hc => (h2 c hc).1, fun c hc => ?_, fun c hc => (h2 c hc).2, fun base hB => ⟨fun d hd => ?_, fun x hx => ?_, hd0.gcd, fun k x e hk => ?_, excB_cl inK T.g (hd0.exc K), excB_sub inK T.g (hd0.exc K)⟩⟩
  · cases e : (K0 ++ K).lookup c.2 with
    | none => rfl
    | some o =>
      have q := inK _ _ e
      rw [(h2 c hc).1] at q
      cases q
      rw [List.lookup_append] at e
      cases e0 : K0.lookup c.2 with
      | some u =>
        rw [e0] at e
        cases e
        have := List.all_eq_true.mp hd0.tab _ (mem_lookup e0)
        cases this
      | none =>
        rw [e0] at e
        exact ((h1 (c.2, _) (mem_lookup e)).2 rfl).elim
  · have hat := List.all_eq_true.mp E.at_ d hd
    cases er : (recsOf q)[d.at_]? with
    | none => rw [er] at hat; cases hat
    | some r =>
      rw [er] at hat
      have hat : (decide (r.name = d.name) && simpleP r.params && decide ((r.params.args.map (·.arg)).Nodup)) = true := hat
      simp only [Bool.and_eq_true, decide_eq_true_eq] at hat
      obtain ⟨⟨hn, hs⟩, nd⟩ := hat
      unfold simpleP at hs
      simp only [Bool.and_eq_true, List.isEmpty_iff, Option.isNone_iff_eq_none] at hs
      obtain ⟨⟨⟨s1, s2⟩, s3⟩, s4⟩ := hs
      have est : stAt p.body d = r.stmt := by
        unfold stAt
        rw [E.body, List.getD_eq_getElem?_getD, List.getElem?_map, er]
        rfl
      obtain ⟨a, c, P, o, oc, pm, doc, vs, t, q1, q2, q3, q4, q5, q6, q7⟩ := h3 r (List.mem_of_getElem? er)
      have l1 := lookup_app hd0.inh hK q1
      have l2 := lookup_app hd0.inh hK q2
      obtain ⟨ocl, od, dt, osl⟩ := o
      have q5 : dt = _ := q5
      subst q5
      rw [est]
      refine ⟨?_⟩
      rw [← hn]
      refine ⟨a, ocl, od, .none, doc, pm, none, .ref c, .none, osl, l1, ?_, q4, ?_, ?_, fun _ => ⟨c, P, List.mem_map.mpr ⟨_, q3, rfl⟩, tabB_of (hB _ q3), rfl⟩⟩
      · exact codeIn_of l2 q6 q7
      · exact keepIn_of l1
      · exact fun us hl => binds_gen (fd := PySem.W.fnOf r.name r.name r.params r.body r.scope .none .none doc pm none (.ref c) .none) s1 s2 s3 s4 rfl nd hl
  · have := List.all_eq_true.mp E.free x hx
    simp only [Bool.and_eq_true] at this
    obtain ⟨⟨⟨⟨a1, a2⟩, a3⟩, a4⟩, a5⟩ := this
    have hc : ∀ l : List Str, (!l.contains x) = true → x ∉ l := fun l h hm => by
      rw [List.contains_iff_mem.mpr hm] at h
      cases h
    exact T.free x (hc _ a1) (hc _ a2) (hc _ a3) (hc _ a4) (hc _ a5)
  · by_cases hm : p.hg.contains x = true
    · exact glB_of inK T.g (hd0.glb K) (y := (x, e)) (List.mem_of_getElem? hk) hm
    · have hy : (x, e) ∈ p.glos.filter fun y => !p.hg.contains y.1 := List.mem_filter.mpr ⟨List.mem_of_getElem? hk, by simpa using hm⟩
      have e1 : valOf q x = some e := by
        have key : ∀ l : List (Str × D), l.map (fun y => valOf q y.1) = l.map (fun y => some y.2) → ∀ y ∈ l, valOf q y.1 = some y.2 := by
          intro l
          induction l with
          | nil => intro _ y hy; cases hy
          | cons a l ih =>
            intro h y hy
            rw [List.map_cons, List.map_cons, List.cons.injEq] at h
            rcases List.mem_cons.mp hy with rfl | hy
            · exact h.1
            · exact ih h.2 y hy
        exact key _ E.glo (x, e) hy
      obtain ⟨v, m1, m2⟩ := T.const x e e1
      obtain ⟨u, r1, r2⟩ := scal_reads (List.all_eq_true.mp E.scal (x, e) hy) (m2 h)
      exact ⟨v, u, m1, r1, r2 _⟩
theorem no_cx {P : Program} {w : World} {l : List PySem.Env} {H : Hp} {s : Shared} {e : Value} {s' : Shared} (h : L2N.CX P w l H s (fun _ _ _ => False) e s') : False := by
  obtain ⟨_, _, _, _, _, _, _, _, _, _, _, _, _, h⟩ := h
/-- a law's promise: the host's list may be known to others -/
def spL (T : List Addr) (K : PySem.W.Frag) (g : List D → COut) : Sp := fun vs H Q _ => ∃ (a : Addr) (ns : List Int) (d : D), vs = [.ref a] ∧ SqL K H a (ns.map V.int) ∧ (∀ p ∈ T, GxR.TabG H p) ∧ g [.list (ns.map .int)] = .ret (.val (.bool true)) d ∧ ∀ H', Q (.bl true) H'
theorem fn_law {P : Program} {w : World} {K : PySem.W.Frag} {mg : Str → Option Value} {base : Heap} {T : List Addr} {xc : Nat → Value} {g : List D → COut} {k : Nat} {f : Addr} {fd : FuncData} {ps : List Str} (F : FnOk P w K mg base (L2N.CX P w) k f fd ps (spF T xc K g 1 false)) (hps : ps.length = 1) : FnOk P w K mg base (L2N.CX P w) k f fd ps (spL T K g) := by
  refine ⟨fun vs H Q E h => ?_, fun A outer s H args us vs Q E hr e0 hb r h => ?_⟩
  · obtain ⟨a, ns, d, rfl, _⟩ := h
    exact hps.symm
  · obtain ⟨a, ns, d, rfl, hS, hT, hg, q⟩ := h
    have main : ∀ H2 (E : XK), FzL K H2 a (ns.map V.int) → (∀ p ∈ T, GxR.TabG H2 p) → spF T xc K g 1 false [.ref a] H2 Q E := fun H2 E hF hT2 => by
      refine ⟨rfl, hT2, ?_⟩
      rw [if_neg (by simp)]
      refine ⟨[.list (ns.map .int)], Fzs.one (by simp only [Fz]; exact ⟨a, _, rfl, hF, Fzs.ints⟩), ?_⟩
      rw [hg]
      intro z H' _ _ _ hz
      have hz : Fz K H' (.bool true) z := hz
      simp only [Fz] at hz
      subst hz
      exact q H'
    rcases hS with (hS | hS) | hS
    · obtain ⟨o, ho⟩ : ∃ o, s.heap.get? a = some o := by
        obtain ⟨_, its, n, _, e⟩ := e0.hok a _ hS
        exact ⟨_, e⟩
      have ne : ∀ b, H b = none → b ≠ a := fun b e z => by rw [z, hS] at e; cases e
      have hok2 : HOk P w (upd H a (.frz o (.lst (ns.map V.int)))) s.heap := fun b u e => by
        have ow : ∀ b x, H b = some (.own x) → upd H a (.frz o (.lst (ns.map V.int))) b = some (.own x) := fun b x e => by rw [upd_ne (fun z => by rw [z, hS] at e; cases e)]; exact e
        have tp : ∀ b x, H b = some (.tup x) → upd H a (.frz o (.lst (ns.map V.int))) b = some (.tup x) := fun b x e => by rw [upd_ne (fun z => by rw [z, hS] at e; cases e)]; exact e
        by_cases hb : b = a
        · subst hb
          rw [upd_same] at e
          cases e
          exact ⟨ho, (e0.hok b _ hS).stay (fun _ _ _ z => z) (fun c z => ow c b z) fun c xs z => tp c xs z⟩
        · rw [upd_ne hb] at e
          exact (e0.hok b u e).stay (fun _ _ _ z => z) (fun c z => ow c b z) fun c xs z => tp c xs z
      have nn : ∀ b, H b = none → upd H a (.frz o (.lst (ns.map V.int))) b = none := fun b e => by rw [upd_ne (ne b e)]; exact e
      have e1 : Env0 P w K mg base A outer s (upd H a (.frz o (.lst (ns.map V.int)))) := ⟨e0.frames, e0.mod, fun b ob e => ⟨(e0.bs b ob e).1, nn b (e0.bs b ob e).2⟩, e0.bsz, e0.funs, fun b hb => nn b (e0.frf b hb), hok2, e0.bare⟩
      refine codeAny_mono (F.run A outer s _ args us [.ref a] Q (fun _ _ _ => False) hr e1 hb r (main _ _ (.inl ⟨o, upd_same⟩) fun p hp => ?_)) fun r s' h => ?_
      · obtain ⟨ps, t1, t2⟩ := hT p hp
        exact ⟨ps, by rw [upd_ne (fun z => by rw [z, hS] at t1; cases t1)]; exact t1, t2⟩
      · cases r with
        | error e => exact (no_cx h).elim
        | ok fl =>
          cases fl with
          | next => exact h
          | brk => exact h
          | cont => exact h
          | ret u =>
            obtain ⟨v, H', os, bare, un, hok', r', q'⟩ := h
            have tr : ∀ b u, H b = some u → (∀ xs, u ≠ .lst xs) → upd H a (.frz o (.lst (ns.map V.int))) b = some u := fun b u e n => by
              rw [upd_ne (fun z => by rw [z, hS] at e; cases e; exact n _ rfl)]; exact e
            exact ⟨v, H', os, bare, ⟨fun b o e n => un.keep b o e (nn b n), fun b o e n => un.slot b o e (nn b n), fun b o e n => un.free b o e (nn b n), un.there, fun b xs e => un.tups b xs (tr b _ e (fun _ z => by cases z)), fun b o u e => un.frzs b o u (tr b _ e (fun _ z => by cases z)), fun b ps e => un.tbls b ps (tr b _ e (fun _ z => by cases z))⟩, hok', r', q'⟩
    · exact F.run A outer s H args us _ Q E hr e0 hb r (main H E (.inl hS) hT)
    · exact F.run A outer s H args us _ Q E hr e0 hb r (main H E (.inr hS) hT)
theorem tabB0 {q : Program} {loose : List Str} {mean : ExcName → Option Value} {mg mb : Str → Option Value} {h : Heap} {c P : Addr} {K : PySem.W.Frag} (KX : K.In h) (T : Top q loose mean mg mb h) (C : PySem.W.CodeHd h c P) (hT : h.get? P = some { cls := .none, data := .fields #[] }) : LamX.TabB h mg c P := by
  refine ⟨C, ?_, fun z => ?_⟩
  · obtain ⟨bm, ob, b1, b2, b3, b4, b5, b6⟩ := T.bmain
    refine ⟨bm, ob, b1, b2, fun z => ?_, fun z => ?_, b3, b4, b5, b6⟩
    · obtain ⟨o, es, ep, e, hd, _⟩ := T.g
      rw [z, e] at b3
      cases b3
      rw [hd] at b6
      cases b6
    · rw [z, hT] at b3
      cases b3
      cases b6
  · obtain ⟨o, es, ep, e, hd, _⟩ := T.g
    rw [z, hT] at e
    cases e
    cases hd
/-- THE END: a law by its program's data -/
theorem walk_law {l : PySem.W.OpenLaw} {n lv kl : Nat} {q : Program} {loose : List Str} {XP : (Str → Option Value) → Heap → Prop} {YP : World → Heap → Prop} {d : DefRec} {p : Pg} {dl : Dn} {x : Str} (hn : l.most = some n) (hn2 : n ≤ sizeLine) (hdf : d.params.defaults = []) (hr : Room (2 * lv) callerA)
    (ok : PgOk p) (E : EndOk q loose p) (hkl : p.dns[kl]? = some dl) (hname : dl.name = d.name) (hio : dl.io = false) (hps : psOf (stAt p.body dl) = [x])
    (hhd : ∀ (w : World) (mg : Str → Option Value) (h : Heap), YP w h → h.Ns mainGlobals mg → ∃ K0, HeadOk p mg h K0) (hcalm : p.hots.contains d.name = false)
    (law : ∀ ns : List Int, ns.length ≤ n → (∀ k ∈ ns, Builtin.Int.intBits k ≤ 1048576) → ∃ e, callP p.G p.P lv kl [.list (ns.map .int)] = .ret (.val (.bool true)) e) :
    PySem.W.WalkO q loose XP YP l.row.toRowW d [] (fun f vs => PySem.call f vs) := by
  refine Att.attach_callB hn hdf fun w s₀ s₁ mg mb fa o pm cd doc a vs ns G Y ho hd hcd hmg hobj hints hlen hbits hg => ?_
  obtain ⟨K0, hK0⟩ := hhd w mg _ Y G.T.g
  obtain ⟨K, cs, KX, hT, nT, C, hA⟩ := pgAt_of ok E G.T hK0
  obtain ⟨e, he⟩ := law ns hlen hbits
  have key : ∃ fd : FuncData, (∀ us : List Value, us.length = 1 → bindArgs fd ⟨us, []⟩ = pure ([x].zip us)) ∧ ∀ base : Heap, (∀ p ∈ cs, LamX.TabB base mg p.1 p.2) → FnOk l.prog w K mg base (L2N.CX l.prog w) (2 * lv) fa fd [x] (spL (cs.map (·.2)) K (callP p.G p.P lv kl)) := by
    have A1 := (hA s₁.heap fun p hp => tabB0 KX G.T (C p hp) (hT p hp))
    obtain ⟨fa1, fd1, m1, m2, m3, ⟨oc1, od1, sl1, m4⟩, m5, _⟩ := lev (prog := l.prog) (w := w) ok A1 lv kl dl hkl
    rw [hname, hmg] at m1
    cases m1
    refine ⟨fd1, by rw [hps] at m3; exact m3, fun base hb => ?_⟩
    obtain ⟨fa2, fd2, n1, n2, n3, ⟨oc2, od2, sl2, n4⟩, n5, _⟩ := lev (prog := l.prog) (w := w) ok (hA base hb) lv kl dl hkl
    have n5 := n5 (by rw [hname]; exact hcalm)
    rw [hname, hmg] at n1
    cases n1
    rw [m4] at n4
    cases n4
    rw [hps, hio] at n5
    exact fn_law n5 rfl
  obtain ⟨fd, hB, hF⟩ := key
  exact LamX.law_callTs KX G.T.g G.T.b G.T.builtins G.T.nolimit hg hT nT C G.T.bmain hobj hints (Nat.le_trans hlen hn2) hr (fun base _ _ hb => hF base hb) (fun s u => .of_eq (hB [u] rfl)) (fun H hH hS => ⟨a, ns, e, rfl, hS, fun p hp => by
    obtain ⟨c, hc, rfl⟩ := List.mem_map.mp hp
    exact ⟨_, hH c hc, trivial⟩, he, fun _ => rfl⟩) fun H e s' h => no_cx h
/-- the same, the data by the program -/
theorem walk_lawF {l : PySem.W.OpenLaw} {n lv kl : Nat} {q : Program} {loose : List Str} {XP : (Str → Option Value) → Heap → Prop} {YP : World → Heap → Prop} {d : DefRec} {pf : Program → Pg} {dl : Dn} {x : Str} (hn : l.most = some n) (hn2 : n ≤ sizeLine) (hdf : d.params.defaults = []) (hr : Room (2 * lv) callerA)
    (ok : PgOk (pf q)) (E : EndOk q loose (pf q)) (hkl : (pf q).dns[kl]? = some dl) (hname : dl.name = d.name) (hio : dl.io = false) (hps : psOf (stAt (pf q).body dl) = [x])
    (hhd : ∀ (w : World) (mg : Str → Option Value) (h : Heap), YP w h → h.Ns mainGlobals mg → ∃ K0, HeadOk (pf q) mg h K0) (hcalm : (pf q).hots.contains d.name = false)
    (law : ∀ ns : List Int, ns.length ≤ n → (∀ k ∈ ns, Builtin.Int.intBits k ≤ 1048576) → ∃ e, callP (pf q).G (pf q).P lv kl [.list (ns.map .int)] = .ret (.val (.bool true)) e) :
    PySem.W.WalkO q loose XP YP l.row.toRowW d [] (fun f vs => PySem.call f vs) :=
  walk_law (p := pf q) hn hn2 hdf hr ok E hkl hname hio hps hhd hcalm law
end Fw

/-! Fw: how a def's meaning is worked out by simp -/
namespace Fw
open PySem
@[simp] theorem bd_ap {α β : Type} (m : M α) (f : α → M β) (r : Env) : bd m f r = (m r).bd f := rfl
theorem bd_congr {α β : Type} {x y : Res α} (f : α → M β) (h : x = y) : x.bd f = y.bd f := by rw [h]
@[simp] theorem bd_ok {α β : Type} (a : α) (r : Env) (f : α → M β) : (Res.ok a r).bd f = f a r := rfl
@[simp] theorem bd_no {α β : Type} (f : α → M β) : (Res.no : Res α).bd f = .no := rfl
@[simp] theorem bd_ex {α β : Type} (c : Nat) (r : Env) (f : α → M β) : (Res.ex c r : Res α).bd f = .ex c r := rfl
@[simp] theorem ret_ap {α : Type} (a : α) (r : Env) : ret a r = .ok a r := rfl
@[simp] theorem opt_some {α : Type} (a : α) (r : Env) : opt (some a) r = .ok a r := rfl
@[simp] theorem opt_none {α : Type} (r : Env) : opt (none : Option α) r = .no := rfl
@[simp] theorem rd_ref (i : Nat) (r : Env) : rd (.ref i) r = opt (dataAt r i) r := rfl
@[simp] theorem rd_val (d : D) (r : Env) : rd (.val d) r = .ok d r := rfl
@[simp] theorem rd_new (d : D) (r : Env) : rd (.new d) r = .ok d r := rfl
@[simp] theorem esc_ref (i : Nat) (r : Env) : esc (.ref i) r = opt (dataAt r i) (freeze i r) := rfl
@[simp] theorem esc_val (d : D) (r : Env) : esc (.val d) r = .ok d r := rfl
@[simp] theorem esc_new (d : D) (r : Env) : esc (.new d) r = .ok d r := rfl
@[simp] theorem rdAll_n (r : Env) : rdAll [] r = .ok [] r := rfl
@[simp] theorem rdAll_c (o : Op) (os : List Op) (r : Env) : rdAll (o :: os) r = (rd o r).bd fun d => bd (rdAll os) fun ds => ret (d :: ds) := rfl
@[simp] theorem escAll_n (r : Env) : escAll [] r = .ok [] r := rfl
@[simp] theorem escAll_c (o : Op) (os : List Op) (r : Env) : escAll (o :: os) r = (esc o r).bd fun d => bd (escAll os) fun ds => ret (d :: ds) := rfl
@[simp] theorem asgM_ap (t : Tg) (d : D) (r : Env) : asgM t d r = match asg t d r with | some r' => .ok () r' | none => .no := rfl
@[simp] theorem isOwn_ap (i : Nat) (r : Env) : isOwn i r = match r[i]? with | some (.ow _) => .ok () r | _ => .no := rfl
@[simp] theorem srcOf_ref (own : List Nat) (i : Nat) (r : Env) : srcOf own (.ref i) r = if own.contains i then .no else (isOwn i r).bd fun _ => ret (.byref i) := by
  unfold srcOf
  by_cases h : own.contains i = true
  · simp only [h, if_true]; rfl
  · simp only [h]; rfl
@[simp] theorem srcOf_val (own : List Nat) (d : D) (r : Env) : srcOf own (.val d) r = opt ((seqOf d).map .fixed) r := rfl
@[simp] theorem srcOf_new (own : List Nat) (d : D) (r : Env) : srcOf own (.new d) r = opt ((seqOf d).map .fixed) r := rfl
@[simp] theorem wiped_ap (own : List Nat) (r : Env) : wiped own r = .ok () (wipe own r) := rfl
theorem inOwn_ap (own : List Nat) (m : M Op) (r : Env) : inOwn own m r = match m r with | .ok a r' => .ok a (back own r r') | .ex _ _ => .no | .no => .no := rfl
@[simp] theorem tsM_ap (m : M Op) (r : Env) : tsM m r = (m r).bd fun x => bd (rd x) fun d => opt (truthy d) := rfl
@[simp] theorem popM_ap (i : Nat) (r : Env) : popM i r = match r[i]? with
  | some (.ow (.list xs)) => match xs.getLast? with
    | some d => .ok (.val d) (r.set i (.ow (.list xs.dropLast)))
    | none => .no
  | _ => .no := rfl
@[simp] theorem put_ap (i : Nat) (o : Op) (r : Env) : put i o r = if i < r.length then (match o with
  | .ref j => match dataAt r j with
    | some d => .ok () ((freeze j r).set i (.fz d))
    | none => .no
  | .val d => .ok () (r.set i (.fz d))
  | .new d => .ok () (r.set i (.ow d))) else .no := rfl
@[simp] theorem putT_name (i : Nat) (o : Op) (r : Env) : putT (.name i) o r = put i o r := rfl
@[simp] theorem putT_tup (ts : List Tg) (o : Op) (r : Env) : putT (.tup ts) o r = (rd o r).bd fun d => asgM (.tup ts) d := rfl
@[simp] theorem appM_ap (i : Nat) (d : D) (r : Env) : appM i d r = match r[i]? with
  | some (.ow (.list xs)) => if xs.length < sizeLine then .ok () (r.set i (.ow (.list (xs ++ [d])))) else .no
  | _ => .no := rfl
@[simp] theorem setIxM_ap (i : Nat) (k d : D) (r : Env) : setIxM i k d r = match r[i]? with
  | some (.ow (.list xs)) => match k with
    | .int k => match place k xs.length with
      | some j => .ok () (r.set i (.ow (.list (xs.set j d))))
      | none => .no
    | _ => .no
  | _ => .no := rfl
@[simp] theorem rvOf_ref (io : Bool) (i : Nat) (r : Env) : rvOf io (.ref i) r = if io && (i == 0 || !isOw r 0) then .no else match r[i]? with
    | some (.ow d) => .ok (.new d) r
    | _ => .no := rfl
@[simp] theorem rvOf_val (io : Bool) (d : D) (r : Env) : rvOf io (.val d) r = .ok (.val d) r := rfl
@[simp] theorem rvOf_new (io : Bool) (d : D) (r : Env) : rvOf io (.new d) r = .ok (.new d) r := rfl
/-- what a call gives, its first argument behind it left out -/
def cv : COut → Option Rv
  | .ret v _ => some v
  | _ => none
/-- what a call gives, and its first argument behind it -/
def cw : COut → Option (Rv × D)
  | .ret v d => some (v, d)
  | _ => none
/-- what a call raises -/
def cx : COut → Option Nat
  | .ex c _ => some c
  | _ => none
/-- what a call raises, and its first argument behind it -/
def cxw : COut → Option (Nat × D)
  | .ex c d => some (c, d)
  | _ => none
@[simp] theorem getCall_P {G : Nat → Option D} {P : List Def} {n k : Nat} {os : List Op} {ds : List D} {r : Env} : getCall (callP G P n) k os ds r = match cv (callP G P n k ds) with
    | some v => .ok v.op (after os v.data r)
    | none => match cx (callP G P n k ds) with
      | some c => .ex c (after os (.list []) r)
      | none => .no := by
  unfold getCall
  cases e : callP G P n k ds with
  | ret v d => rfl
  | ex c d => rfl
  | no => rfl
@[simp] theorem getCallM_P {G : Nat → Option D} {P : List Def} {n k i : Nat} {os : List Op} {ds : List D} {r : Env} : getCallM (callP G P n) k i os ds r = match r[i]? with
    | some (.ow d) => if noRef i os = false then .no else match cw (callP G P n k (d :: ds)) with
      | some (v, d') => .ok v.op (after os (.list []) (r.set i (.ow d')))
      | none => match cxw (callP G P n k (d :: ds)) with
        | some (c, d') => .ex c (after os (.list []) (r.set i (.ow d')))
        | none => .no
    | _ => .no := by
  unfold getCallM
  generalize r[i]? = q
  cases q with
  | none => rfl
  | some s => cases s with
    | no => rfl
    | fz d => rfl
    | ow d =>
      show (if noRef i os = false then _ else _) = (if noRef i os = false then _ else _)
      split
      · rfl
      · cases e : callP G P n k (d :: ds) with
        | ret v d => rfl
        | ex c d => rfl
        | no => rfl
section
variable (G : Nat → Option D) (f : CE) (r : Env)
@[simp] theorem ev_var (i : Nat) : ev G f (.var i) r = match r[i]? with | some (.fz d) => .ok (.val d) r | some (.ow _) => .ok (.ref i) r | _ => .no := rfl
@[simp] theorem ev_non : ev G f .non r = .ok (.val .none) r := rfl
@[simp] theorem ev_bl (b : Bool) : ev G f (.bl b) r = .ok (.val (.bool b)) r := rfl
@[simp] theorem ev_int (i : Int) : ev G f (.int i) r = .ok (.val (.int i)) r := rfl
@[simp] theorem ev_str (x : Str) : ev G f (.str x) r = .ok (.val (.str x)) r := rfl
@[simp] theorem ev_glob (k : Nat) : ev G f (.glob k) r = opt ((G k).map .val) r := rfl
@[simp] theorem ev_tup (es : List E) : ev G f (.tup es) r = (evs G f es r).bd fun os => bd (escAll os) fun ds => ret (.val (.tuple ds)) := rfl
@[simp] theorem ev_tupS (a : E) (es : List E) : ev G f (.tupS a es) r = (ev G f a r).bd fun x => bd (rd x) fun d => bd (opt (tupOf d)) fun xs => bd (evs G f es) fun os => bd (escAll os) fun ds => ret (.val (.tuple (xs ++ ds))) := rfl
@[simp] theorem ev_lrng (a : E) : ev G f (.lrng a) r = (ev G f a r).bd fun x => bd (rd x) fun d => bd (opt (lrngD d)) fun v => ret v.op := rfl
@[simp] theorem ev_lst (es : List E) : ev G f (.lst es) r = (evs G f es r).bd fun os => bd (escAll os) fun ds => ret (.new (.list ds)) := rfl
@[simp] theorem ev_bin (o : Bop) (a b : E) : ev G f (.bin o a b) r = (ev G f a r).bd fun x => bd (ev G f b) fun y => bd (rd x) fun d => bd (rd y) fun e => bd (opt (binD o d e)) fun v => ret v.op := rfl
@[simp] theorem ev_neg (a : E) : ev G f (.neg a) r = (ev G f a r).bd fun x => bd (rd x) fun d => match d with
    | .int i => ret (.val (.int (-i)))
    | _ => opt none := rfl
@[simp] theorem ev_cmp (o : Cop) (a b : E) : ev G f (.cmp o a b) r = (ev G f a r).bd fun x => bd (ev G f b) fun y => bd (rd x) fun d => bd (rd y) fun e => bd (opt (cmpD o d e)) fun b => ret (.val (.bool b)) := rfl
@[simp] theorem ev_chain (o p : Cop) (a b c : E) : ev G f (.chain o p a b c) r = (ev G f a r).bd fun x => bd (ev G f b) fun y => bd (rd x) fun d => bd (rd y) fun e => bd (opt (cmpD o d e)) fun t =>
      if t then bd (ev G f c) fun z => bd (rd y) fun e => bd (rd z) fun g => bd (opt (cmpD p e g)) fun b => ret (.val (.bool b)) else ret (.val (.bool false)) := rfl
@[simp] theorem ev_and (a b : E) : ev G f (.and a b) r = (ev G f a r).bd fun x => bd (rd x) fun d => bd (opt (truthy d)) fun t => if t then ev G f b else ret x := rfl
@[simp] theorem ev_or (a b : E) : ev G f (.or a b) r = (ev G f a r).bd fun x => bd (rd x) fun d => bd (opt (truthy d)) fun t => if t then ret x else ev G f b := rfl
@[simp] theorem ev_not (a : E) : ev G f (.not a) r = (tsM (ev G f a) r).bd fun t => ret (.val (.bool (!t))) := rfl
@[simp] theorem ev_ite (c a b : E) : ev G f (.ite c a b) r = (tsM (ev G f c) r).bd fun t => if t then ev G f a else ev G f b := rfl
@[simp] theorem ev_ix (a b : E) : ev G f (.ix a b) r = (ev G f a r).bd fun x => bd (ev G f b) fun y => bd (rd x) fun d => bd (rd y) fun e => bd (opt (ixD d e)) fun v => ret (.val v) := rfl
@[simp] theorem ev_sl (a : E) (lo hi : Option E) : ev G f (.sl a lo hi) r = (ev G f a r).bd fun x => bd (evO G f lo) fun y => bd (evO G f hi) fun z => bd (rd x) fun d => bd (opt (slD d y z)) fun v => ret v.op := rfl
@[simp] theorem ev_rev (a : E) : ev G f (.rev a) r = (ev G f a r).bd fun x => bd (rd x) fun d => bd (opt (revD d)) fun v => ret v.op := rfl
@[simp] theorem ev_call (k : Nat) (es : List E) : ev G f (.call k es) r = (evs G f es r).bd fun os => bd (rdAll os) fun ds => getCall f k os ds := rfl
@[simp] theorem ev_callM (k i : Nat) (es : List E) : ev G f (.callM k i es) r = (isOwn i r).bd fun _ => bd (evs G f es) fun os => bd (rdAll os) fun ds => getCallM f k i os ds := rfl
@[simp] theorem ev_bi (b : Bi) (es : List E) : ev G f (.bi b es) r = (evs G f es r).bd fun os => bd (rdAll os) fun ds => bd (opt (biD b ds)) fun v => ret v.op := rfl
@[simp] theorem ev_isi (a : E) (t : Ty) : ev G f (.isi a t) r = (ev G f a r).bd fun x => bd (rd x) fun d => ret (.val (.bool (isiD d t))) := rfl
@[simp] theorem ev_rng (es : List E) : ev G f (.rng es) r = (evs G f es r).bd fun os => bd (rdAll os) fun ds => bd (opt (rangeOf ds)) fun xs => ret (.val (.list xs)) := rfl
@[simp] theorem ev_pop (i : Nat) : ev G f (.pop i) r = popM i r := rfl
@[simp] theorem evs_nil : evs G f [] r = .ok [] r := rfl
@[simp] theorem evs_cons (e : E) (es : List E) : evs G f (e :: es) r = (ev G f e r).bd fun o => bd (evs G f es) fun os => ret (o :: os) := rfl
@[simp] theorem evO_none : evO G f none r = .ok none r := rfl
@[simp] theorem evO_some (e : E) : evO G f (some e) r = (ev G f e r).bd fun x => bd (rd x) fun d => opt (intO (some d)) := rfl
@[simp] theorem tstO_none : tstO G f none r = .ok true r := rfl
@[simp] theorem tstO_some (e : E) : tstO G f (some e) r = tsM (ev G f e) r := rfl
/-- a comprehension's turn -/
def turnE (elt : E) (tg : Tg) (c : Option E) (own : List Nat) (d : D) : M (Option D) := bd (wiped own) fun _ => bd (asgM tg d) fun _ => bd (tstO G f c) fun t =>
      if t then bd (ev G f elt) fun o => bd (esc o) fun e => ret (some e) else ret none
@[simp] theorem turnE_ap (elt : E) (tg : Tg) (c : Option E) (own : List Nat) (d : D) : turnE G f elt tg c own d r = (asgM tg d (wipe own r)).bd fun _ => bd (tstO G f c) fun t =>
      if t then bd (ev G f elt) fun o => bd (esc o) fun e => ret (some e) else ret none := rfl
@[simp] theorem ev_lc (elt : E) (tg : Tg) (it : E) (c : Option E) (own : List Nat) : ev G f (.lc elt tg it c own) r = (ev G f it r).bd fun x => bd (srcOf own x) fun s => inOwn own (bd (lcRun (turnE G f elt tg c own) s) fun ds => ret (.new (.list ds))) := rfl
/-- an outer turn of a comprehension of two clauses -/
def turn2E (elt : E) (tg : Tg) (c : Option E) (tg2 : Tg) (it2 : E) (c2 : Option E) (own own2 : List Nat) (d : D) (acc : List D) : M (List D) := bd (wiped own) fun _ => bd (asgM tg d) fun _ => bd (tstO G f c) fun t =>
      if t then bd (ev G f it2) fun x2 => bd (srcOf own x2) fun s2 => lcRunA (turnE G f elt tg2 c2 own2) s2 acc else ret acc
@[simp] theorem turn2E_ap (elt : E) (tg : Tg) (c : Option E) (tg2 : Tg) (it2 : E) (c2 : Option E) (own own2 : List Nat) (d : D) (acc : List D) : turn2E G f elt tg c tg2 it2 c2 own own2 d acc r = (asgM tg d (wipe own r)).bd fun _ => bd (tstO G f c) fun t =>
      if t then bd (ev G f it2) fun x2 => bd (srcOf own x2) fun s2 => lcRunA (turnE G f elt tg2 c2 own2) s2 acc else ret acc := rfl
@[simp] theorem lcRunA_fixed (turn : D → M (Option D)) (xs acc : List D) : lcRunA turn (.fixed xs) acc r = if xs.length ≤ 3000 then lcFix turn xs acc r else .no := rfl
@[simp] theorem lcRunA_byref (turn : D → M (Option D)) (i : Nat) (acc : List D) : lcRunA turn (.byref i) acc r = lcRef turn i 3001 0 acc r := rfl
@[simp] theorem lcRun2_fixed (turn : D → List D → M (List D)) (xs : List D) : lcRun2 turn (.fixed xs) r = if xs.length ≤ 3000 then lcFix2 turn xs [] r else .no := rfl
@[simp] theorem lcRun2_byref (turn : D → List D → M (List D)) (i : Nat) : lcRun2 turn (.byref i) r = lcRef2 turn i 3001 0 [] r := rfl
@[simp] theorem ev_lc2 (elt : E) (tg : Tg) (it : E) (c : Option E) (tg2 : Tg) (it2 : E) (c2 : Option E) (own own2 : List Nat) : ev G f (.lc2 elt tg it c tg2 it2 c2 own own2) r = (ev G f it r).bd fun x => bd (srcOf own x) fun s => inOwn own (bd (lcRun2 (turn2E G f elt tg c tg2 it2 c2 own own2) s) fun ds => ret (.new (.list ds))) := rfl
@[simp] theorem ev_dkl (a : E) : ev G f (.dkl a) r = (ev G f a r).bd fun x => bd (rd x) fun d => bd (opt (dklD d)) fun v => ret v.op := rfl
@[simp] theorem ev_zip (es : List E) : ev G f (.zip es) r = (evs G f es r).bd fun os => bd (escAll os) fun ds => bd (opt (zipD ds)) fun xs => ret (.val (.list xs)) := rfl
@[simp] theorem ev_enum (es : List E) : ev G f (.enum es) r = (evs G f es r).bd fun os => bd (escAll os) fun ds => bd (opt (enumD ds)) fun xs => ret (.val (.list xs)) := rfl
@[simp] theorem zipD_2 (d e : D) : zipD [d, e] = (seqOf d).bind fun xs => (seqOf e).map fun ys => xs.zip ys |>.map fun p => .tuple [p.1, p.2] := rfl
@[simp] theorem enumD_1 (d : D) : enumD [d] = (seqOf d).map fun xs => (List.range xs.length).zip xs |>.map fun p => .tuple [.int (p.1 : Nat), p.2] := rfl
@[simp] theorem ev_revd (a : E) : ev G f (.revd a) r = (ev G f a r).bd fun x => bd (rd x) fun d => bd (opt (lrevD d)) fun v => ret v.op := rfl
@[simp] theorem ev_gen (c : Gc) (elt : E) (tg : Tg) (it : E) (cond : Option E) (own : List Nat) : ev G f (.gen c elt tg it cond own) r = (ev G f it r).bd fun x => bd (srcOf own x) fun s => inOwn own (genRun c (turnE G f elt tg cond own) s) := rfl
@[simp] theorem ex_set (t : Tg) (e : E) : ex G f (.set t e) r = (ev G f e r).bd fun o => bd (putT t o) fun _ => ret .nx := rfl
@[simp] theorem opNr_val (d : D) : opNr (.val d) = true := rfl
@[simp] theorem opNr_new (d : D) : opNr (.new d) = true := rfl
@[simp] theorem opNr_ref (i : Nat) : opNr (.ref i) = false := rfl
@[simp] theorem puts_nil (r : Env) : puts [] [] r = .ok () r := rfl
@[simp] theorem puts_cons (i : Nat) (is : List Nat) (o : Op) (os : List Op) (r : Env) : puts (i :: is) (o :: os) r = (put i o r).bd fun _ => puts is os := rfl
@[simp] theorem ex_par (is : List Nat) (es : List E) : ex G f (.par is es) r = (evs G f es r).bd fun os => if os.all opNr = true then bd (puts is os) fun _ => ret .nx else bd (escAll os) fun ds => bd (asgM (.tup (is.map .name)) (.tuple ds)) fun _ => ret .nx := rfl
@[simp] theorem ex_aug (i : Nat) (o : Bop) (e : E) : ex G f (.aug i o e) r = (rd (.ref i) r).bd fun d => bd (ev G f e) fun x => bd (rd x) fun g => bd (opt (augD o d g)) fun v => bd (put i (.val v)) fun _ => ret .nx := rfl
@[simp] theorem ex_rem (i : Nat) (e : E) : ex G f (.rem i e) r = (isOwn i r).bd fun _ => bd (ev G f e) fun o => bd (esc o) fun d => bd (remM i d) fun _ => ret .nx := rfl
@[simp] theorem ex_app (i : Nat) (e : E) : ex G f (.app i e) r = (isOwn i r).bd fun _ => bd (ev G f e) fun o => bd (esc o) fun d => bd (appM i d) fun _ => ret .nx := rfl
@[simp] theorem ex_setIx (i : Nat) (k e : E) : ex G f (.setIx i k e) r = (ev G f e r).bd fun o => bd (esc o) fun d => bd (isOwn i) fun _ => bd (ev G f k) fun y => bd (rd y) fun kd => bd (setIxM i kd d) fun _ => ret .nx := rfl
@[simp] theorem ex_iff (c : E) (a b : List S) : ex G f (.iff c a b) r = (tsM (ev G f c) r).bd fun t => if t then exs G f a else exs G f b := rfl
/-- a for's turn -/
def bodyE (t : Tg) (body : List S) (y : D) : M Out := bd (asgM t y) fun _ => exs G f body
@[simp] theorem bodyE_ap (t : Tg) (body : List S) (y : D) : bodyE G f t body y r = (asgM t y r).bd fun _ => exs G f body := rfl
@[simp] theorem ex_forS (t : Tg) (it : E) (body : List S) : ex G f (.forS t it body) r = (ev G f it r).bd fun x => bd (srcOf [] x) fun s => match s with
    | .fixed xs => forL (bodyE G f t body) xs
    | .byref _ => opt none := rfl
@[simp] theorem ex_forR (t : Tg) (i : Nat) (body : List S) : ex G f (.forR t i body) r = (ev G f (.var i) r).bd fun x => bd (srcOf [] x) fun s => match s with
    | .fixed xs => forL (bodyE G f t body) xs
    | .byref i => forRL (bodyE G f t body) i FUEL 0 := rfl
@[simp] theorem ex_while (c : E) (body : List S) : ex G f (.while c body) r = whileL (tsM (ev G f c)) (exs G f body) FUEL r := rfl
@[simp] theorem ex_ret (io : Bool) (e : E) : ex G f (.ret io e) r = (ev G f e r).bd fun o => bd (rvOf io o) fun v => ret (.rt v) := rfl
@[simp] theorem ex_retN : ex G f .retN r = .ok (.rt (.val .none)) r := rfl
@[simp] theorem ex_expr (e : E) : ex G f (.expr e) r = (ev G f e r).bd fun _ => ret .nx := rfl
@[simp] theorem ex_raise (k : Nat) : ex G f (.raise k) r = .ex k r := rfl
@[simp] theorem ex_try (body : List S) (i : Nat) (nms : List Str) (h : S) : ex G f (.tryS body i nms h) r = catchM i nms (exs G f body) (ex G f h) r := rfl
@[simp] theorem catchM_ap (i : Nat) (nms : List Str) (body h : M Out) : catchM i nms body h r = match body r with
  | .ok o r' => .ok o r'
  | .ex c r' => match nms[c]? with
    | some nm => if i < r'.length then (match h (r'.set i (.fz (excD nm))) with
      | .ok o r2 => .ok o (r2.set i .no)
      | _ => .no) else .no
    | none => .no
  | .no => .no := rfl
@[simp] theorem ev_isx (a : E) (ys ns : List Str) : ev G f (.isx a ys ns) r = (ev G f a r).bd fun x => bd (rd x) fun d => bd (opt (isxD d ys ns)) fun b => ret (.val (.bool b)) := rfl
@[simp] theorem ev_idx (a b : E) : ev G f (.idx a b) r = (ev G f a r).bd fun x => bd (rd x) fun d0 => bd (opt (lrevD d0)) fun _ => bd (ev G f b) fun y => bd (rd x) fun d => bd (rd y) fun e => bd (opt (idxD d e)) fun k => ret (.val (.int k)) := rfl
@[simp] theorem ev_hotL (a : E) : ev G f (.hotL a) r = (ev G f a r).bd fun x => bd (rd x) fun d => bd (opt (lrevD d)) fun _ => ret x := rfl
@[simp] theorem ex_pass : ex G f .pass r = .ok .nx r := rfl
@[simp] theorem ex_brk : ex G f .brk r = .ok .bk r := rfl
@[simp] theorem ex_cont : ex G f .cont r = .ok .ct r := rfl
def thenE (ss : List S) : Out → M Out
  | .nx => exs G f ss
  | o => ret o
@[simp] theorem exs_nil : exs G f [] r = .ok .nx r := rfl
@[simp] theorem exs_cons (s : S) (ss : List S) : exs G f (s :: ss) r = (ex G f s r).bd (thenE G f ss) := rfl
@[simp] theorem thenE_nx (ss : List S) : thenE G f ss .nx r = exs G f ss r := rfl
@[simp] theorem thenE_bk (ss : List S) : thenE G f ss .bk r = .ok .bk r := rfl
@[simp] theorem thenE_ct (ss : List S) : thenE G f ss .ct r = .ok .ct r := rfl
@[simp] theorem thenE_rt (ss : List S) (v : Rv) : thenE G f ss (.rt v) r = .ok (.rt v) r := rfl
@[simp] theorem forL_nil (body : D → M Out) : forL body [] r = .ok .nx r := rfl
@[simp] theorem forL_cons (body : D → M Out) (x : D) (xs : List D) : forL body (x :: xs) r = (body x r).bd (afterL (forL body xs)) := rfl
@[simp] theorem afterL_nx (m : M Out) : afterL m .nx r = m r := rfl
@[simp] theorem afterL_ct (m : M Out) : afterL m .ct r = m r := rfl
@[simp] theorem afterL_bk (m : M Out) : afterL m .bk r = .ok .nx r := rfl
@[simp] theorem afterL_rt (m : M Out) (v : Rv) : afterL m (.rt v) r = .ok (.rt v) r := rfl
@[simp] theorem lcRun_fixed (turn : D → M (Option D)) (xs : List D) : lcRun turn (.fixed xs) r = lcFix turn xs [] r := rfl
@[simp] theorem lcRun_byref (turn : D → M (Option D)) (i : Nat) : lcRun turn (.byref i) r = lcRef turn i sizeLine 0 [] r := rfl
@[simp] theorem lcFix2_nil (turn : D → List D → M (List D)) (acc : List D) : lcFix2 turn [] acc r = .ok acc r := rfl
@[simp] theorem lcFix2_cons (turn : D → List D → M (List D)) (x : D) (xs acc : List D) : lcFix2 turn (x :: xs) acc r = (turn x acc r).bd fun acc' => lcFix2 turn xs acc' := rfl
@[simp] theorem lcFix_nil (turn : D → M (Option D)) (acc : List D) : lcFix turn [] acc r = .ok acc r := rfl
@[simp] theorem lcFix_cons (turn : D → M (Option D)) (x : D) (xs acc : List D) : lcFix turn (x :: xs) acc r = (turn x r).bd fun o => lcFix turn xs (match o with | some d => acc ++ [d] | none => acc) := rfl
@[simp] theorem quickRun_fixed (c : Bool) (turn : D → M (Option D)) (xs : List D) : quickRun c turn (.fixed xs) r = quick c turn xs r := rfl
@[simp] theorem quickRun_byref (c : Bool) (turn : D → M (Option D)) (i : Nat) : quickRun c turn (.byref i) r = quickRef c turn i sizeLine 0 r := rfl
@[simp] theorem quick_nil (c : Bool) (turn : D → M (Option D)) : quick c turn [] r = .ok (!c) r := rfl
@[simp] theorem quick_cons (c : Bool) (turn : D → M (Option D)) (x : D) (xs : List D) : quick c turn (x :: xs) r = (turn x r).bd fun o => match o with
    | none => quick c turn xs
    | some (.bool b) => if b == c then ret c else quick c turn xs
    | some _ => opt none := rfl
@[simp] theorem genRun_all (turn : D → M (Option D)) (s : Src) : genRun .all turn s r = (quickRun false turn s r).bd fun b => ret (.val (.bool b)) := rfl
@[simp] theorem genRun_any (turn : D → M (Option D)) (s : Src) : genRun .any turn s r = (quickRun true turn s r).bd fun b => ret (.val (.bool b)) := rfl
@[simp] theorem genRun_sum (turn : D → M (Option D)) (s : Src) : genRun .sum turn s r = (lcRun turn s r).bd fun xs => bd (opt (genFin .sum xs)) fun v => ret v.op := rfl
@[simp] theorem genRun_max (turn : D → M (Option D)) (s : Src) : genRun .max turn s r = (lcRun turn s r).bd fun xs => bd (opt (genFin .max xs)) fun v => ret v.op := rfl
@[simp] theorem genRun_min (turn : D → M (Option D)) (s : Src) : genRun .min turn s r = (lcRun turn s r).bd fun xs => bd (opt (genFin .min xs)) fun v => ret v.op := rfl
@[simp] theorem genRun_tuple (turn : D → M (Option D)) (s : Src) : genRun .tuple turn s r = (lcRun turn s r).bd fun xs => bd (opt (genFin .tuple xs)) fun v => ret v.op := rfl
end
theorem whileL_ap (c : M Bool) (body : M Out) (n : Nat) (r : Env) : whileL c body (n + 1) r = (c r).bd fun t => if t then bd body (afterL (whileL c body n)) else ret .nx := rfl
@[simp] theorem ite_ap {α : Type} (c : Prop) [Decidable c] (m m' : M α) (r : Env) : (if c then m else m') r = if c then m r else m' r := by split <;> rfl
/-! ### data -/
@[simp] theorem op_val (d : D) : (Rv.val d).op = .val d := rfl
@[simp] theorem op_new (d : D) : (Rv.new d).op = .new d := rfl
@[simp] theorem data_val (d : D) : (Rv.val d).data = d := rfl
@[simp] theorem data_new (d : D) : (Rv.new d).data = d := rfl
@[simp] theorem dataAt_ap (r : Env) (i : Nat) : dataAt r i = match r[i]? with | some (.fz d) => some d | some (.ow d) => some d | _ => none := rfl
@[simp] theorem isOw_ap (r : Env) (i : Nat) : isOw r i = match r[i]? with | some (.ow _) => true | _ => false := rfl
@[simp] theorem freeze_ap (i : Nat) (r : Env) : freeze i r = match r[i]? with | some (.ow d) => r.set i (.fz d) | _ => r := rfl
theorem after_imm {os : List Op} {d : D} {r : Env} (h : noMut d = true) : after os d r = r := if_pos h
@[simp] theorem after_int (os : List Op) (i : Int) (r : Env) : after os (.int i) r = r := rfl
@[simp] theorem after_bool (os : List Op) (i : Bool) (r : Env) : after os (.bool i) r = r := rfl
@[simp] theorem after_none (os : List Op) (r : Env) : after os .none r = r := rfl
@[simp] theorem after_nil (d : D) (r : Env) : after [] d r = r := by unfold after; split <;> rfl
@[simp] theorem after_val (e : D) (os : List Op) (d : D) (r : Env) : after (.val e :: os) d r = after os d r := rfl
@[simp] theorem after_new (e : D) (os : List Op) (d : D) (r : Env) : after (.new e :: os) d r = after os d r := rfl
@[simp] theorem noMut_int (i : Int) : noMut (.int i) = true := by rw [noMut]; all_goals (intros; contradiction)
@[simp] theorem noMut_bool (i : Bool) : noMut (.bool i) = true := by rw [noMut]; all_goals (intros; contradiction)
@[simp] theorem noMut_none : noMut .none = true := by rw [noMut]; all_goals (intros; contradiction)
@[simp] theorem noMut_str (x : Str) : noMut (.str x) = true := by rw [noMut]; all_goals (intros; contradiction)
@[simp] theorem noMut_tuple (xs : List D) : noMut (.tuple xs) = noMutAll xs := by rw [noMut]
@[simp] theorem noMutAll_nil : noMutAll [] = true := by rw [noMutAll]
@[simp] theorem noMutAll_cons (x : D) (xs : List D) : noMutAll (x :: xs) = (noMut x && noMutAll xs) := by rw [noMutAll]
theorem noMutAll_eq (xs : List D) : noMutAll xs = xs.all noMut := by
  induction xs with
  | nil => simp
  | cons x xs ih => simp [ih]
@[simp] theorem after_tup (os : List Op) (xs : List D) (r : Env) (h : noMutAll xs = true) : after os (.tuple xs) r = r := after_imm (by simp [h])
@[simp] theorem truthy_bool (b : Bool) : truthy (.bool b) = some b := rfl
@[simp] theorem truthy_int (b : Int) : truthy (.int b) = some (b != 0) := rfl
@[simp] theorem truthy_none : truthy .none = some false := rfl
@[simp] theorem truthy_list (xs : List D) : truthy (.list xs) = some (!xs.isEmpty) := rfl
@[simp] theorem truthy_tuple (xs : List D) : truthy (.tuple xs) = some (!xs.isEmpty) := rfl
@[simp] theorem seqOf_list (xs : List D) : seqOf (.list xs) = some xs := rfl
@[simp] theorem seqOf_tuple (xs : List D) : seqOf (.tuple xs) = some xs := rfl
@[simp] theorem bin_add_i (i j : Int) : binD .add (.int i) (.int j) = some (.val (.int (i + j))) := rfl
@[simp] theorem bin_add_b (i : Int) (c : Bool) : binD .add (.int i) (.bool c) = some (.val (.int (i + if c then 1 else 0))) := rfl
@[simp] theorem bin_add_l (xs ys : List D) : binD .add (.list xs) (.list ys) = if xs.length + ys.length ≤ sizeLine then some (.new (.list (xs ++ ys))) else none := rfl
@[simp] theorem bin_add_t (xs ys : List D) : binD .add (.tuple xs) (.tuple ys) = if xs.length + ys.length ≤ sizeLine then some (.val (.tuple (xs ++ ys))) else none := rfl
@[simp] theorem bin_sub_i (i j : Int) : binD .sub (.int i) (.int j) = some (.val (.int (i - j))) := rfl
theorem bin_mul_i {i j : Int} (h1 : i.natAbs < BIG) (h2 : j.natAbs < BIG) : binD .mul (.int i) (.int j) = some (.val (.int (i * j))) := by simp only [binD, h1, h2, and_self, true_or, if_true]
theorem bin_mul_sr {i j : Int} (h : j.natAbs < 2 ^ 63) : binD .mul (.int i) (.int j) = some (.val (.int (i * j))) := by
  simp only [binD]
  rw [if_pos (.inr (.inl h))]
theorem bin_mul_sl {i j : Int} (h : i.natAbs < 2 ^ 63) : binD .mul (.int i) (.int j) = some (.val (.int (i * j))) := by
  simp only [binD]
  rw [if_pos (.inr (.inr h))]
@[simp] theorem bin_mul_l (xs : List D) (k : Int) : binD .mul (.list xs) (.int k) = if xs.length * k.toNat ≤ sizeLine ∧ k.natAbs < 2 ^ 63 then some (.new (.list (List.replicate k.toNat xs).flatten)) else none := rfl
@[simp] theorem bin_mul_t (xs : List D) (k : Int) : binD .mul (.tuple xs) (.int k) = if -1000 ≤ k ∧ k ≤ 1000 ∧ xs.length ≤ 1000 then some (.val (.tuple (List.replicate k.toNat xs).flatten)) else none := rfl
@[simp] theorem divI_pos {i j : Int} (h : 0 < j) : divI i j = i / j := if_pos h
@[simp] theorem modI_pos {i j : Int} (h : 0 < j) : modI i j = i % j := if_pos h
theorem bin_div_i {i j : Int} (h : 0 < j) (h2 : j.natAbs < 2 ^ 9000) : binD .fdiv (.int i) (.int j) = some (.val (.int (i / j))) := by
  show (if _ then _ else _) = _
  rw [if_pos (.inl ⟨h, h2⟩), divI_pos h]
theorem bin_mod_i {i j : Int} (h : 0 < j) : binD .mod (.int i) (.int j) = some (.val (.int (i % j))) := by
  show (if _ then _ else _) = _
  rw [if_pos (by omega), modI_pos h]
@[simp] theorem bin_pow_i (i j : Int) : binD .pow (.int i) (.int j) = if 0 ≤ j ∧ j ≤ 1000000 ∧ i.natAbs < 2 ^ 64 then some (.val (.int (i ^ j.toNat))) else none := rfl
@[simp] theorem bin_shl_i (i j : Int) : binD .shl (.int i) (.int j) = if 0 ≤ j ∧ j ≤ 1000000 ∧ i.natAbs < 2 ^ 64 then some (.val (.int (i * 2 ^ j.toNat))) else none := rfl
@[simp] theorem bin_shr_i (i j : Int) : binD .shr (.int i) (.int j) = if 0 ≤ j then some (.val (.int (i / 2 ^ j.toNat))) else none := rfl
@[simp] theorem bin_xor_i (i j : Int) : binD .bxor (.int i) (.int j) = some (.val (.int (Builtin.bitXor i j))) := rfl
@[simp] theorem eqD_int (i j : Int) : eqD (.int i) (.int j) = some (decide (i = j)) := by
  show some (PyData.eqv (.int i) (.int j)) = _
  congr 1
theorem eqD_self {d : D} (h : okN 40 d = true) (p : d.plain = true) : eqD d d = some true := by
  unfold eqD
  rw [h]
  exact congrArg some (PySem.SeqAt.eqv_refl_plain d p)
@[simp] theorem cmp_eq (a b : D) : cmpD .eq a b = eqD a b := rfl
@[simp] theorem cmp_ne (a b : D) : cmpD .ne a b = (eqD a b).map (!·) := rfl
@[simp] theorem cmp_lt_i (i j : Int) : cmpD .lt (.int i) (.int j) = some (decide (i < j)) := rfl
@[simp] theorem cmp_le_i (i j : Int) : cmpD .le (.int i) (.int j) = some (decide (i ≤ j)) := rfl
@[simp] theorem cmp_gt_i (i j : Int) : cmpD .gt (.int i) (.int j) = some (decide (j < i)) := rfl
@[simp] theorem cmp_ge_i (i j : Int) : cmpD .ge (.int i) (.int j) = some (decide (j ≤ i)) := rfl
@[simp] theorem cmp_is (a b : D) : cmpD .is a b = isD a b := rfl
@[simp] theorem cmp_isnot (a b : D) : cmpD .isnot a b = (isD a b).map (!·) := rfl
@[simp] theorem cmp_in (a b : D) : cmpD .isin a b = inD a b := rfl
@[simp] theorem cmp_nin (a b : D) : cmpD .notin a b = (inD a b).map (!·) := rfl
@[simp] theorem isD_bb (a b : Bool) : isD (.bool a) (.bool b) = some (a == b) := rfl
@[simp] theorem isD_none (a : D) : isD a .none = some (match a with | .none => true | _ => false) := rfl
@[simp] theorem ix_l (xs : List D) (k : Int) : ixD (.list xs) (.int k) = (place k xs.length).bind fun j => xs[j]? := rfl
@[simp] theorem ix_t (xs : List D) (k : Int) : ixD (.tuple xs) (.int k) = (place k xs.length).bind fun j => xs[j]? := rfl
theorem place_nat (k n : Nat) : place (k : Int) n = if k < n then some k else none := by
  show (if 0 ≤ (k : Int) then (if (k : Int) < (n : Int) then some (k : Int).toNat else none) else _) = _
  rw [if_pos (by omega)]
  by_cases h : k < n
  · rw [if_pos h, if_pos (by omega)]; rfl
  · rw [if_neg h, if_neg (by omega)]
@[simp] theorem place_0 (n : Nat) : place 0 (n + 1) = some 0 := (place_nat 0 _).trans (if_pos (by omega))
@[simp] theorem place_1 (n : Nat) : place 1 (n + 2) = some 1 := (place_nat 1 _).trans (if_pos (by omega))
@[simp] theorem place_2 (n : Nat) : place 2 (n + 3) = some 2 := (place_nat 2 _).trans (if_pos (by omega))
@[simp] theorem place_3 (n : Nat) : place 3 (n + 4) = some 3 := (place_nat 3 _).trans (if_pos (by omega))
@[simp] theorem sl_l (xs : List D) (a b : Option Int) : slD (.list xs) a b = some (.new (.list (cutL xs a b))) := rfl
@[simp] theorem sl_t (xs : List D) (a b : Option Int) : slD (.tuple xs) a b = some (.val (.tuple (cutL xs a b))) := rfl
@[simp] theorem rev_l (xs : List D) : revD (.list xs) = some (.new (.list xs.reverse)) := rfl
@[simp] theorem rev_t (xs : List D) : revD (.tuple xs) = some (.val (.tuple xs.reverse)) := rfl
@[simp] theorem intO_int (i : Int) : intO (some (.int i)) = some (some i) := rfl
@[simp] theorem intO_n : intO none = some none := rfl
theorem cut_take (xs : List D) (k : Nat) : cutL xs none (some (k : Int)) = xs.take k := by
  unfold cutL
  simp only [HT.sIx_none, HT.sIx_nat, List.drop_zero, Nat.sub_zero]
  rcases Nat.le_total k xs.length with h | h
  · rw [Nat.min_eq_left h]
  · rw [Nat.min_eq_right h, List.take_length, List.take_of_length_le h]
@[simp] theorem cut_1 (xs : List D) : cutL xs none (some 1) = xs.take 1 := cut_take xs 1
@[simp] theorem cut_2 (xs : List D) : cutL xs none (some 2) = xs.take 2 := cut_take xs 2
@[simp] theorem cut_63 (xs : List D) : cutL xs none (some 63) = xs.take 63 := cut_take xs 63
@[simp] theorem bi_len_l (xs : List D) : biD .len [.list xs] = some (.val (.int xs.length)) := rfl
@[simp] theorem bi_len_t (xs : List D) : biD .len [.tuple xs] = some (.val (.int xs.length)) := rfl
@[simp] theorem bi_abs (i : Int) : biD .abs [.int i] = some (.val (.int (i.natAbs : Nat))) := by
  show some (Rv.val (.int _)) = _
  congr 3
  split <;> omega
@[simp] theorem bi_int (i : Int) : biD .int [.int i] = some (.val (.int i)) := rfl
@[simp] theorem bi_tuple_l (xs : List D) : biD .tuple [.list xs] = some (.val (.tuple xs)) := rfl
@[simp] theorem bi_tuple_t (xs : List D) : biD .tuple [.tuple xs] = some (.val (.tuple xs)) := rfl
@[simp] theorem bi_list_l (xs : List D) : biD .list [.list xs] = some (.new (.list xs)) := rfl
@[simp] theorem bi_list_t (xs : List D) : biD .list [.tuple xs] = some (.new (.list xs)) := rfl
@[simp] theorem bi_gcd (i j : Int) : biD .gcd [.int i, .int j] = some (.val (.int (gcdI i j))) := rfl
theorem intsOf_of {α : Type} (xs : List α) (g : α → Int) : intsOf (xs.map fun x => .int (g x)) = some (xs.map g) := by
  induction xs with
  | nil => rfl
  | cons x xs ih => show (intsOf _).map _ = _; rw [ih]; rfl
theorem bi_sum {α : Type} (xs : List α) (g : α → Int) : biD .sum [.list (xs.map fun x => .int (g x))] = some (.val (.int (xs.map g).sum)) := by
  show ((some (xs.map fun x => PyData.int (g x))).bind fun ys => (intsOf ys).map fun ns => Rv.val (.int ns.sum)) = _
  rw [Option.bind_some, intsOf_of]; rfl
@[simp] theorem bi_max2 (i j : Int) : biD .max [.int i, .int j] = some (.val (.int (max i j))) := by
  show some (Rv.val (.int _)) = _
  congr 3
  simp only [if_true]
  split <;> omega
@[simp] theorem bi_min2 (i j : Int) : biD .min [.int i, .int j] = some (.val (.int (min i j))) := by
  show some (Rv.val (.int _)) = _
  congr 3
  simp only [if_false, Bool.false_eq_true]
  split <;> omega
@[simp] theorem range_1 (n : Int) : rangeOf [.int n] = if n ≤ sizeLine ∧ -(2 ^ 62) ≤ n then some ((List.range n.toNat).map fun k => .int (k : Nat)) else none := by
  have z := sizeLine_eq
  show (if n.toNat ≤ sizeLine ∧ n.natAbs ≤ 2 ^ 62 then _ else none) = _
  have e : (n.toNat ≤ sizeLine ∧ n.natAbs ≤ 2 ^ 62) ↔ (n ≤ sizeLine ∧ -(2 ^ 62) ≤ n) := by omega
  simp only [e]
@[simp] theorem range_2 (a b : Int) : rangeOf [.int a, .int b] = if (b - a).toNat ≤ sizeLine ∧ a.natAbs < 2 ^ 62 ∧ b.natAbs < 2 ^ 62 then some ((List.range (b - a).toNat).map fun k => .int (a + (k : Nat))) else none := rfl
@[simp] theorem isi_ii (i : Int) : isiD (.int i) .int = true := rfl
@[simp] theorem isi_bi (i : Bool) : isiD (.bool i) .int = true := rfl
@[simp] theorem isi_ib (i : Int) : isiD (.int i) .bool = false := rfl
@[simp] theorem isi_bb (i : Bool) : isiD (.bool i) .bool = true := rfl
@[simp] theorem isi_tt (xs : List D) : isiD (.tuple xs) .tuple = true := rfl
@[simp] theorem isi_lt (xs : List D) : isiD (.list xs) .tuple = false := rfl
@[simp] theorem isi_ll (xs : List D) : isiD (.list xs) .list = true := rfl
@[simp] theorem isi_tl (xs : List D) : isiD (.tuple xs) .list = false := rfl
@[simp] theorem aug_add (i j : Int) : augD .add (.int i) (.int j) = some (.int (i + j)) := rfl
@[simp] theorem aug_sub (i j : Int) : augD .sub (.int i) (.int j) = some (.int (i - j)) := rfl
@[simp] theorem asg_name (i : Nat) (d : D) (r : Env) : asg (.name i) d r = if i < r.length then some (r.set i (.fz d)) else none := by rw [asg]
@[simp] theorem asg_tup_t (ts : List Tg) (ds : List D) (r : Env) : asg (.tup ts) (.tuple ds) r = asgs ts ds r := by rw [asg]; rfl
@[simp] theorem asg_tup_l (ts : List Tg) (ds : List D) (r : Env) : asg (.tup ts) (.list ds) r = asgs ts ds r := by rw [asg]; rfl
@[simp] theorem asgs_nil (r : Env) : asgs [] [] r = some r := by rw [asgs]
@[simp] theorem asgs_cons (t : Tg) (ts : List Tg) (d : D) (ds : List D) (r : Env) : asgs (t :: ts) (d :: ds) r = (asg t d r).bind fun r' => asgs ts ds r' := by rw [asgs]
@[simp] theorem wipe_nil (r : Env) : wipe [] r = r := rfl
@[simp] theorem wipe_cons (i : Nat) (own : List Nat) (r : Env) : wipe (i :: own) r = wipe own (r.set i .no) := rfl
@[simp] theorem back_nil (r0 r : Env) : back [] r0 r = r := rfl
@[simp] theorem back_cons (i : Nat) (own : List Nat) (r0 r : Env) : back (i :: own) r0 r = back own r0 (r.set i (r0.getD i .no)) := rfl
@[simp] theorem noRef_nil (i : Nat) : noRef i [] = true := rfl
@[simp] theorem noRef_val (i : Nat) (d : D) (os : List Op) : noRef i (.val d :: os) = noRef i os := rfl
@[simp] theorem noRef_new (i : Nat) (d : D) (os : List Op) : noRef i (.new d :: os) = noRef i os := rfl
@[simp] theorem noRef_ref (i j : Nat) (os : List Op) : noRef i (.ref j :: os) = ((i != j) && noRef i os) := rfl
@[simp] theorem outP_ap (io : Bool) (o : Out) (r : Env) : outP io (.ok o r) = if io && !isOw r 0 then .no else outR o r := rfl
@[simp] theorem outR_rt (v : Rv) (r : Env) : outR (.rt v) r = .ret v ((dataAt r 0).getD .none) := rfl
@[simp] theorem outR_nx (r : Env) : outR .nx r = .ret (.val .none) ((dataAt r 0).getD .none) := rfl
@[simp] theorem outP_e (io : Bool) (c : Nat) (r : Env) : outP io (.ex c r) = if io && !isOw r 0 then .no else .ex c ((dataAt r 0).getD .none) := rfl
@[simp] theorem cv_ex (c : Nat) (d : D) : cv (.ex c d) = none := rfl
@[simp] theorem cw_ex (c : Nat) (d : D) : cw (.ex c d) = none := rfl
@[simp] theorem cx_ex (c : Nat) (d : D) : cx (.ex c d) = some c := rfl
@[simp] theorem cxw_ex (c : Nat) (d : D) : cxw (.ex c d) = some (c, d) := rfl
@[simp] theorem cv_ret (v : Rv) (d : D) : cv (.ret v d) = some v := rfl
@[simp] theorem cw_ret (v : Rv) (d : D) : cw (.ret v d) = some (v, d) := rfl
/-- a call of a def with its n+1 th level -/
theorem callP_s {G : Nat → Option D} {P : List Def} {n k : Nat} {ds : List D} {d : Def} (h : P[k]? = some d) (hl : ds.length = d.np) : callP G P (n + 1) k ds = outP d.io (exs G (callP G P n) d.body (startE d ds)) := by
  show (match P[k]? with | some d => _ | none => _) = _
  rw [h]
  exact if_pos hl
theorem maxL_int (i : Int) (is : List Int) : maxL (.int i) (is.map .int) = .int (is.foldl max i) := by
  unfold maxL
  induction is generalizing i with
  | nil => rfl
  | cons j is ih =>
    rw [List.map_cons, List.foldl_cons, List.foldl_cons, ← ih]
    congr 1
    have dl : PySem.W.dataLt (.int i) (.int j) = decide (i < j) := PySem.W.dataLt_int i j
    show (if PySem.W.dataLt (.int i) (.int j) = true then PyData.int j else .int i) = _
    rw [dl]
    by_cases h : i < j
    · rw [if_pos (by simpa using h)]; congr 1; omega
    · rw [if_neg (by simpa using h)]; congr 1; omega
@[simp] theorem bi_max4 (i j k l : Int) : biD .max [.int i, .int j, .int k, .int l] = some (.val (.int (max (max (max i j) k) l))) := by
  show some (Rv.val (maxL (.int i) [.int j, .int k, .int l])) = _
  exact congrArg (fun d => some (Rv.val d)) (maxL_int i [j, k, l])
@[simp] theorem eqD_nil : eqD (.list []) (.list []) = some true := rfl
@[simp] theorem eqD_nils (x : D) (xs : List D) (h : okN 40 (.list (x :: xs)) = true) : eqD (.list (x :: xs)) (.list []) = some false := by
  unfold eqD
  rw [h]
  simp [PyData.eqv, PyData.eqvAll]
  rfl
@[simp] theorem lrev_l (xs : List D) : lrevD (.list xs) = some (.new (.list xs.reverse)) := rfl
theorem eqD_empty {xs : List D} (h : okN 40 (.list xs) = true) : eqD (.list xs) (.list []) = some xs.isEmpty := by
  unfold eqD
  rw [h]
  cases xs with
  | nil => rfl
  | cons x xs =>
    simp [PyData.eqv, PyData.eqvAll]
    rfl
theorem okN_list {n : Nat} {xs : List D} : okN (n + 1) (.list xs) = xs.all (okN n) := by rw [okN]
theorem okN_tup {n : Nat} {xs : List D} : okN (n + 1) (.tuple xs) = xs.all (okN n) := by rw [okN]
@[simp] theorem tupOf_t (xs : List D) : tupOf (.tuple xs) = if xs.length ≤ 1000000 then some xs else none := rfl
@[simp] theorem lrng_i (n : Int) : lrngD (.int n) = if -(2 ^ 62) ≤ n ∧ n ≤ 1000000 then some (.new (.list ((List.range n.toNat).map fun k => .int (k : Nat)))) else none := by
  show (if n.natAbs ≤ 2 ^ 62 ∧ n.toNat ≤ 1000000 then _ else none) = _
  have e : (n.natAbs ≤ 2 ^ 62 ∧ n.toNat ≤ 1000000) ↔ (-(2 ^ 62) ≤ n ∧ n ≤ 1000000) := by omega
  simp only [e]
end Fw

/-! Fw: loops and comprehensions by what stays -/
namespace Fw
open PySem
theorem wipe_idem {own : List Nat} {r : Env} : wipe own (wipe own r) = wipe own r := by
  apply List.ext_getElem?
  intro i
  by_cases hi : i ∈ own
  · by_cases h2 : i < r.length
    · have e1 : i < (wipe own r).length := by rw [wipe_len]; exact h2
      have e2 : i < (wipe own (wipe own r)).length := by rw [wipe_len]; exact e1
      have a1 := wipe_in (r := r) hi
      have a2 := wipe_in (r := wipe own r) hi
      rw [List.getElem?_eq_getElem e1, List.getElem?_eq_getElem e2] at *
      revert a1 a2
      cases (wipe own r)[i] <;> cases (wipe own (wipe own r))[i] <;> simp
    · rw [List.getElem?_eq_none (by rw [wipe_len, wipe_len]; omega), List.getElem?_eq_none (by rw [wipe_len]; omega)]
  · rw [wipe_out hi]
theorem back_wipe {own : List Nat} {r0 r : Env} : back own r0 r = back own r0 (wipe own r) := by
  apply List.ext_getElem?
  intro i
  by_cases hi : i ∈ own
  · by_cases h2 : i < r.length
    · rw [back_in hi h2, back_in hi (by rw [wipe_len]; exact h2)]
    · rw [List.getElem?_eq_none (by rw [back_len]; omega), List.getElem?_eq_none (by rw [back_len, wipe_len]; omega)]
  · rw [back_out hi, back_out hi, wipe_out hi]
theorem back_eq {own : List Nat} {r0 r : Env} (h : wipe own r = wipe own r0) : back own r0 r = r0 := by
  have hl : r.length = r0.length := by rw [← wipe_len (own := own), h, wipe_len]
  apply List.ext_getElem?
  intro i
  by_cases hi : i ∈ own
  · by_cases h2 : i < r.length
    · rw [back_in hi h2, List.getElem?_eq_getElem (hl ▸ h2), List.getD_eq_getElem?_getD, List.getElem?_eq_getElem (hl ▸ h2)]
      rfl
    · rw [List.getElem?_eq_none (by rw [back_len]; omega), List.getElem?_eq_none (by omega)]
  · rw [back_out hi, ← wipe_out hi, h, wipe_out hi]
theorem lcFix_inv {turn : D → M (Option D)} (I : List D → List D → Env → Prop) : ∀ {xs pre acc : List D} {r : Env}, (∀ p x q a r, pre ++ xs = p ++ x :: q → I p a r → ∃ o r', turn x r = .ok o r' ∧ I (p ++ [x]) (a ++ o.toList) r') → I pre acc r → ∃ acc' r', lcFix turn xs acc r = .ok acc' r' ∧ I (pre ++ xs) acc' r'
  | [], pre, acc, r, _, h => ⟨acc, r, rfl, by rw [List.append_nil]; exact h⟩
  | x :: xs, pre, acc, r, st, h => by
    obtain ⟨o, r', e, h'⟩ := st pre x xs acc r rfl h
    obtain ⟨acc2, r2, e2, h2⟩ := lcFix_inv I (xs := xs) (pre := pre ++ [x]) (by simpa using st) h'
    refine ⟨acc2, r2, ?_, by simpa using h2⟩
    rw [lcFix_cons, e, bd_ok]
    cases o with
    | none => rw [Option.toList_none, List.append_nil] at e2; exact e2
    | some d => exact e2
theorem lc_inv {turn : D → M (Option D)} (I : List D → List D → Env → Prop) {xs : List D} {r : Env} (st : ∀ p x q a r, xs = p ++ x :: q → I p a r → ∃ o r', turn x r = .ok o r' ∧ I (p ++ [x]) (a ++ o.toList) r') (h : I [] [] r) : ∃ acc' r', lcFix turn xs [] r = .ok acc' r' ∧ I xs acc' r' :=
  lcFix_inv I (pre := []) st h
theorem turnE_wipe {G : Nat → Option D} {f : CE} {elt : E} {tg : Tg} {c : Option E} {own : List Nat} {d : D} {r : Env} : turnE G f elt tg c own d r = turnE G f elt tg c own d (wipe own r) := by
  rw [turnE_ap, turnE_ap, wipe_idem]
/-- turns that leave nothing behind -/
theorem lc_pure {G : Nat → Option D} {f : CE} {elt : E} {tg : Tg} {c : Option E} {own : List Nat} {xs : List D} {r : Env} (g : D → Option D) (h : ∀ x ∈ xs, ∃ r', turnE G f elt tg c own x (wipe own r) = .ok (g x) r' ∧ wipe own r' = wipe own r) : ∃ r', lcFix (turnE G f elt tg c own) xs [] r = .ok (xs.filterMap g) r' ∧ wipe own r' = wipe own r := by
  obtain ⟨acc, r', e, rfl, w⟩ := lc_inv (turn := turnE G f elt tg c own) (xs := xs) (r := r) (fun p a r' => a = p.filterMap g ∧ wipe own r' = wipe own r) (fun p x q a r2 hx ⟨ha, hr⟩ => by
    obtain ⟨r3, e, w⟩ := h x (by rw [hx]; simp)
    refine ⟨g x, r3, ?_, ?_, w⟩
    · rw [turnE_wipe, hr, e]
    · subst ha; rw [List.filterMap_append]; cases gx : g x <;> simp [gx]) ⟨rfl, rfl⟩
  exact ⟨r', e, w⟩
theorem lc_mapF {α : Type} {G : Nat → Option D} {f : CE} {elt : E} {tg : Tg} {c : Option E} {own : List Nat} {inj : α → D} (g : α → Option D) : ∀ {xs : List α} {r : Env} {acc : List D}, (∀ x ∈ xs, ∃ r', turnE G f elt tg c own (inj x) (wipe own r) = .ok (g x) r' ∧ wipe own r' = wipe own r) → ∃ r', lcFix (turnE G f elt tg c own) (xs.map inj) acc r = .ok (acc ++ xs.filterMap g) r' ∧ wipe own r' = wipe own r
  | [], r, acc, _ => ⟨r, by simp, rfl⟩
  | x :: xs, r, acc, h => by
    obtain ⟨r1, e, w⟩ := h x (by simp)
    obtain ⟨r2, e2, w2⟩ := lc_mapF (c := c) (elt := elt) (tg := tg) (own := own) (f := f) (G := G) (inj := inj) g (xs := xs) (r := r1) (acc := match g x with | some d => acc ++ [d] | none => acc) (fun y hy => by rw [w]; exact h y (by simp [hy]))
    refine ⟨r2, ?_, w2.trans w⟩
    rw [List.map_cons, lcFix_cons, turnE_wipe, e, bd_ok]
    refine Eq.trans e2 ?_
    cases gx : g x <;> simp [gx]
theorem lc_map {α : Type} {G : Nat → Option D} {f : CE} {elt : E} {tg : Tg} {c : Option E} {own : List Nat} {inj : α → D} (g : α → D) {xs : List α} {r : Env} (h : ∀ x ∈ xs, ∃ r', turnE G f elt tg c own (inj x) (wipe own r) = .ok (some (g x)) r' ∧ wipe own r' = wipe own r) : ∃ r', lcFix (turnE G f elt tg c own) (xs.map inj) [] r = .ok (xs.map g) r' ∧ wipe own r' = wipe own r := by
  obtain ⟨r', e, w⟩ := lc_mapF (acc := []) (fun x => some (g x)) h
  refine ⟨r', ?_, w⟩
  rw [e, List.nil_append]
  simp
theorem quick_pure {G : Nat → Option D} {f : CE} {elt : E} {tg : Tg} {c : Option E} {own : List Nat} {b : Bool} (g : D → Bool) : ∀ {xs : List D} {r : Env}, (∀ x ∈ xs, ∃ r', turnE G f elt tg c own x (wipe own r) = .ok (some (.bool (g x))) r' ∧ wipe own r' = wipe own r) → ∃ r', quick b (turnE G f elt tg c own) xs r = .ok (if b then xs.any g else xs.all g) r' ∧ wipe own r' = wipe own r
  | [], r, _ => ⟨r, by cases b <;> rfl, rfl⟩
  | x :: xs, r, h => by
    obtain ⟨r1, e, w⟩ := h x (by simp)
    obtain ⟨r2, e2, w2⟩ := quick_pure (b := b) (c := c) (elt := elt) (tg := tg) (own := own) (f := f) (G := G) g (xs := xs) (r := r1) (fun y hy => by rw [w]; exact h y (by simp [hy]))
    rw [quick_cons, turnE_wipe, e, bd_ok]
    simp only []
    by_cases gb : g x = b
    · subst gb
      rw [if_pos (beq_self_eq_true _)]
      refine ⟨r1, ?_, w⟩
      cases gx : g x <;> simp [gx, ret_ap]
    · rw [if_neg (by simpa using gb), e2]
      refine ⟨r2, ?_, w2.trans w⟩
      cases b <;> cases gx : g x <;> simp_all
theorem forL_inv {body : D → M Out} (I : List D → Env → Prop) : ∀ {xs pre : List D} {r : Env}, (∀ p x q r, pre ++ xs = p ++ x :: q → I p r → ∃ o r', body x r = .ok o r' ∧ (o = .nx ∨ o = .ct) ∧ I (p ++ [x]) r') → I pre r → ∃ r', forL body xs r = .ok .nx r' ∧ I (pre ++ xs) r'
  | [], pre, r, _, h => ⟨r, rfl, by rw [List.append_nil]; exact h⟩
  | x :: xs, pre, r, st, h => by
    obtain ⟨o, r', e, ho, h'⟩ := st pre x xs r rfl h
    obtain ⟨r2, e2, h2⟩ := forL_inv I (xs := xs) (pre := pre ++ [x]) (by simpa using st) h'
    refine ⟨r2, ?_, by simpa using h2⟩
    rw [forL_cons, e, bd_ok]
    rcases ho with rfl | rfl
    · exact e2
    · exact e2
theorem for_inv {body : D → M Out} (I : List D → Env → Prop) {xs : List D} {r : Env} (st : ∀ p x q r, xs = p ++ x :: q → I p r → ∃ o r', body x r = .ok o r' ∧ (o = .nx ∨ o = .ct) ∧ I (p ++ [x]) r') (h : I [] r) : ∃ r', forL body xs r = .ok .nx r' ∧ I xs r' :=
  forL_inv I (pre := []) st h
theorem lcRef_some {turn : D → M (Option D)} {i n k : Nat} {acc ys : List D} {x : D} {r : Env} (h1 : dataAt r i = some (.list ys)) (h2 : ys[k]? = some x) : lcRef turn i (n + 1) k acc r = (turn x r).bd fun o => lcRef turn i n (k + 1) (acc ++ o.toList) := by
  conv => lhs; unfold lcRef
  simp only [h1, h2]
  show (turn x r).bd _ = _
  congr 1
  funext o
  cases o <;> simp
theorem lcRef_none {turn : D → M (Option D)} {i n k : Nat} {acc ys : List D} {r : Env} (h1 : dataAt r i = some (.list ys)) (h2 : ys[k]? = none) : lcRef turn i (n + 1) k acc r = .ok acc r := by
  conv => lhs; unfold lcRef
  simp only [h1, h2]
theorem dataAt_wipe {own : List Nat} {i : Nat} {r : Env} (hi : i ∉ own) : dataAt (wipe own r) i = dataAt r i := by
  unfold dataAt
  rw [wipe_out hi]
theorem lcRef_mapF {α : Type} {G : Nat → Option D} {f : CE} {elt : E} {tg : Tg} {c : Option E} {own : List Nat} {inj : α → D} (g : α → Option D) {i : Nat} (hi : i ∉ own) {xs : List α} : ∀ {n k : Nat} {r : Env} {acc : List D}, dataAt r i = some (.list (xs.map inj)) → k ≤ xs.length → xs.length < n + k → (∀ x ∈ xs, ∃ r', turnE G f elt tg c own (inj x) (wipe own r) = .ok (g x) r' ∧ wipe own r' = wipe own r) → ∃ r', lcRef (turnE G f elt tg c own) i n k acc r = .ok (acc ++ (xs.drop k).filterMap g) r' ∧ wipe own r' = wipe own r
  | 0, k, r, acc, hd, hk, hn, h => by omega
  | n + 1, k, r, acc, hd, hk, hn, h => by
    by_cases hk2 : k < xs.length
    · have e0 : (xs.map inj)[k]? = some (inj xs[k]) := by rw [List.getElem?_map, List.getElem?_eq_getElem hk2]; rfl
      obtain ⟨r1, e, w⟩ := h xs[k] (List.getElem_mem hk2)
      have hd1 : dataAt r1 i = some (.list (xs.map inj)) := by rw [← dataAt_wipe hi, w, dataAt_wipe hi, hd]
      obtain ⟨r2, e2, w2⟩ := lcRef_mapF (c := c) (elt := elt) (tg := tg) (f := f) (G := G) g hi (n := n) (k := k + 1) (acc := acc ++ (g xs[k]).toList) hd1 (by omega) (by omega) (fun y hy => by rw [w]; exact h y hy)
      refine ⟨r2, ?_, w2.trans w⟩
      rw [lcRef_some hd e0, turnE_wipe, e, bd_ok, e2, List.drop_eq_getElem_cons hk2, List.filterMap_cons, List.append_assoc]
      cases g xs[k] <;> rfl
    · have e0 : (xs.map inj)[k]? = none := by rw [List.getElem?_eq_none]; simp; omega
      refine ⟨r, ?_, rfl⟩
      rw [lcRef_none hd e0, List.drop_eq_nil_of_le (by omega)]
      simp
theorem lcRef_map {α : Type} {G : Nat → Option D} {f : CE} {elt : E} {tg : Tg} {c : Option E} {own : List Nat} {inj : α → D} (g : α → Option D) {i : Nat} (hi : i ∉ own) {xs : List α} {r : Env} (hd : dataAt r i = some (.list (xs.map inj))) (hn : xs.length < sizeLine) (h : ∀ x ∈ xs, ∃ r', turnE G f elt tg c own (inj x) (wipe own r) = .ok (g x) r' ∧ wipe own r' = wipe own r) : ∃ r', lcRef (turnE G f elt tg c own) i sizeLine 0 [] r = .ok (xs.filterMap g) r' ∧ wipe own r' = wipe own r := by
  obtain ⟨r', e, w⟩ := lcRef_mapF (acc := []) (k := 0) (n := sizeLine) g hi hd (by omega) (by omega) h
  exact ⟨r', by simpa using e, w⟩
theorem exs_split {G : Nat → Option D} {f : CE} (k : Nat) : ∀ (ss : List S) (r : Env), exs G f ss r = (exs G f (ss.take k) r).bd (thenE G f (ss.drop k)) := by
  induction k with
  | zero => intro ss r; rfl
  | succ k ih =>
    intro ss r
    cases ss with
    | nil => rfl
    | cons s ss =>
      rw [List.take_succ_cons, List.drop_succ_cons, exs_cons, exs_cons]
      cases ex G f s r with
      | no => rfl
      | ex c r => rfl
      | ok o r =>
        cases o with
        | nx => exact ih ss r
        | bk => rfl
        | ct => rfl
        | rt v => rfl
theorem exs_next {G : Nat → Option D} {f : CE} {ss : List S} {k : Nat} {r r' : Env} (h : exs G f (ss.take k) r = .ok .nx r') : exs G f ss r = exs G f (ss.drop k) r' := by
  rw [exs_split k, h]; rfl
theorem turn2E_wipe {G : Nat → Option D} {f : CE} {elt : E} {tg : Tg} {c : Option E} {tg2 : Tg} {it2 : E} {c2 : Option E} {own own2 : List Nat} {d : D} {acc : List D} {r : Env} : turn2E G f elt tg c tg2 it2 c2 own own2 d acc r = turn2E G f elt tg c tg2 it2 c2 own own2 d acc (wipe own r) := by
  rw [turn2E_ap, turn2E_ap, wipe_idem]
theorem lc2_flat {α : Type} {G : Nat → Option D} {f : CE} {elt : E} {tg : Tg} {c : Option E} {tg2 : Tg} {it2 : E} {c2 : Option E} {own own2 : List Nat} {inj : α → D} (g : α → List D) : ∀ {xs : List α} {r : Env} {acc : List D}, (∀ x ∈ xs, ∀ acc, ∃ r', turn2E G f elt tg c tg2 it2 c2 own own2 (inj x) acc (wipe own r) = .ok (acc ++ g x) r' ∧ wipe own r' = wipe own r) → ∃ r', lcFix2 (turn2E G f elt tg c tg2 it2 c2 own own2) (xs.map inj) acc r = .ok (acc ++ xs.flatMap g) r' ∧ wipe own r' = wipe own r
  | [], r, acc, _ => ⟨r, by simp [lcFix2_nil], rfl⟩
  | x :: xs, r, acc, h => by
    obtain ⟨r1, e, w⟩ := h x (by simp) acc
    obtain ⟨r2, e2, w2⟩ := lc2_flat (c := c) (elt := elt) (tg := tg) (own := own) (f := f) (G := G) (inj := inj) (tg2 := tg2) (it2 := it2) (c2 := c2) (own2 := own2) g (xs := xs) (r := r1) (acc := acc ++ g x) (fun y hy a => by rw [w]; exact h y (by simp [hy]) a)
    refine ⟨r2, ?_, w2.trans w⟩
    rw [List.map_cons, lcFix2_cons, turn2E_wipe, e, bd_ok, e2]
    simp
theorem quick_map {α : Type} {G : Nat → Option D} {f : CE} {elt : E} {tg : Tg} {c : Option E} {own : List Nat} {b : Bool} {inj : α → D} (g : α → Bool) : ∀ {xs : List α} {r : Env}, (∀ x ∈ xs, ∃ r', turnE G f elt tg c own (inj x) (wipe own r) = .ok (some (.bool (g x))) r' ∧ wipe own r' = wipe own r) → ∃ r', quick b (turnE G f elt tg c own) (xs.map inj) r = .ok (if b then xs.any g else xs.all g) r' ∧ wipe own r' = wipe own r
  | [], r, _ => ⟨r, by cases b <;> rfl, rfl⟩
  | x :: xs, r, h => by
    obtain ⟨r1, e, w⟩ := h x (by simp)
    obtain ⟨r2, e2, w2⟩ := quick_map (b := b) (c := c) (elt := elt) (tg := tg) (own := own) (f := f) (G := G) (inj := inj) g (xs := xs) (r := r1) (fun y hy => by rw [w]; exact h y (by simp [hy]))
    rw [List.map_cons, quick_cons, turnE_wipe, e, bd_ok]
    simp only []
    by_cases gb : g x = b
    · subst gb
      rw [if_pos (beq_self_eq_true _)]
      refine ⟨r1, ?_, w⟩
      cases gx : g x <;> simp [gx, ret_ap]
    · rw [if_neg (by simpa using gb), e2]
      refine ⟨r2, ?_, w2.trans w⟩
      cases b <;> cases gx : g x <;> simp_all
/-- a loop that ends early where g fails -/
theorem for_all {α : Type} {body : D → M Out} {inj : α → D} (g : α → Bool) (v : Rv) (I : Env → Prop) : ∀ {xs : List α} {r : Env}, (∀ x ∈ xs, ∀ r, I r → ∃ r', body (inj x) r = .ok (if g x then .nx else .rt v) r' ∧ I r') → I r → ∃ r', forL body (xs.map inj) r = .ok (if xs.all g then .nx else .rt v) r' ∧ I r'
  | [], r, _, h => ⟨r, rfl, h⟩
  | x :: xs, r, st, h => by
    obtain ⟨r1, e, h1⟩ := st x (by simp) r h
    rw [List.map_cons, forL_cons, e, bd_ok]
    cases gx : g x with
    | false => exact ⟨r1, by simp [gx], h1⟩
    | true =>
      obtain ⟨r2, e2, h2⟩ := for_all g v I (xs := xs) (fun y hy => st y (by simp [hy])) h1
      exact ⟨r2, by simpa [gx] using e2, h2⟩
theorem for_typedF {α : Type} {body : D → M Out} {inj : α → D} (I : List α → Env → Prop) : ∀ {xs pre : List α} {r : Env}, (∀ p x q r, pre ++ xs = p ++ x :: q → I p r → ∃ r', body (inj x) r = .ok .nx r' ∧ I (p ++ [x]) r') → I pre r → ∃ r', forL body (xs.map inj) r = .ok .nx r' ∧ I (pre ++ xs) r'
  | [], pre, r, _, h => ⟨r, rfl, by rw [List.append_nil]; exact h⟩
  | x :: xs, pre, r, st, h => by
    obtain ⟨r', e, h'⟩ := st pre x xs r rfl h
    obtain ⟨r2, e2, h2⟩ := for_typedF I (xs := xs) (pre := pre ++ [x]) (by simpa using st) h'
    refine ⟨r2, ?_, by simpa using h2⟩
    rw [List.map_cons, forL_cons, e, bd_ok]
    exact e2
theorem for_typed {α : Type} {body : D → M Out} {inj : α → D} (I : List α → Env → Prop) {xs : List α} {r : Env} (st : ∀ p x q r, xs = p ++ x :: q → I p r → ∃ r', body (inj x) r = .ok .nx r' ∧ I (p ++ [x]) r') (h : I [] r) : ∃ r', forL body (xs.map inj) r = .ok .nx r' ∧ I xs r' :=
  for_typedF I (pre := []) st h
theorem lcRef_typedF {α : Type} {turn : D → M (Option D)} {inj : α → D} {i : Nat} {xs : List α} (I : List α → List D → Env → Prop) (hd : ∀ p a r, I p a r → dataAt r i = some (.list (xs.map inj))) (st : ∀ p x q a r, xs = p ++ x :: q → I p a r → ∃ o r', turn (inj x) r = .ok o r' ∧ I (p ++ [x]) (a ++ o.toList) r') : ∀ {n k : Nat} {r : Env} {acc : List D}, k ≤ xs.length → xs.length < n + k → I (xs.take k) acc r → ∃ acc' r', lcRef turn i n k acc r = .ok acc' r' ∧ I xs acc' r'
  | 0, k, r, acc, hk, hn, h => by omega
  | n + 1, k, r, acc, hk, hn, h => by
    by_cases hk2 : k < xs.length
    · have e0 : (xs.map inj)[k]? = some (inj xs[k]) := by rw [List.getElem?_map, List.getElem?_eq_getElem hk2]; rfl
      have es : xs = xs.take k ++ xs[k] :: xs.drop (k + 1) := by rw [← List.drop_eq_getElem_cons hk2, List.take_append_drop]
      obtain ⟨o, r1, e, h1⟩ := st _ _ _ _ _ es h
      rw [← List.take_succ_eq_append_getElem hk2] at h1
      obtain ⟨acc2, r2, e2, h2⟩ := lcRef_typedF I hd st (n := n) (k := k + 1) (by omega) (by omega) h1
      refine ⟨acc2, r2, ?_, h2⟩
      rw [lcRef_some (hd _ _ _ h) e0, e, bd_ok]
      exact e2
    · have e0 : (xs.map inj)[k]? = none := by rw [List.getElem?_eq_none]; simp; omega
      rw [List.take_of_length_le (by omega)] at h
      exact ⟨acc, r, lcRef_none (hd _ _ _ h) e0, h⟩
theorem lcRef_typed {α : Type} {turn : D → M (Option D)} {inj : α → D} {i : Nat} {xs : List α} (I : List α → List D → Env → Prop) (hd : ∀ p a r, I p a r → dataAt r i = some (.list (xs.map inj))) (st : ∀ p x q a r, xs = p ++ x :: q → I p a r → ∃ o r', turn (inj x) r = .ok o r' ∧ I (p ++ [x]) (a ++ o.toList) r') {r : Env} (hn : xs.length < sizeLine) (h : I [] [] r) : ∃ acc' r', lcRef turn i sizeLine 0 [] r = .ok acc' r' ∧ I xs acc' r' :=
  lcRef_typedF I hd st (Nat.zero_le _) (by omega) h
theorem lcRef2_some {turn : D → List D → M (List D)} {i n k : Nat} {acc ys : List D} {x : D} {r : Env} (h1 : dataAt r i = some (.list ys)) (h2 : ys[k]? = some x) : lcRef2 turn i (n + 1) k acc r = (turn x acc r).bd fun acc' => lcRef2 turn i n (k + 1) acc' := by
  conv => lhs; unfold lcRef2
  simp only [h1, h2]
  rfl
theorem lcRef2_none {turn : D → List D → M (List D)} {i n k : Nat} {acc ys : List D} {r : Env} (h1 : dataAt r i = some (.list ys)) (h2 : ys[k]? = none) : lcRef2 turn i (n + 1) k acc r = .ok acc r := by
  conv => lhs; unfold lcRef2
  simp only [h1, h2]
theorem lcRef2_flatF {α : Type} {G : Nat → Option D} {f : CE} {elt : E} {tg : Tg} {c : Option E} {tg2 : Tg} {it2 : E} {c2 : Option E} {own own2 : List Nat} {inj : α → D} (g : α → List D) {i : Nat} (hi : i ∉ own) {xs : List α} : ∀ {n k : Nat} {r : Env} {acc : List D}, dataAt r i = some (.list (xs.map inj)) → k ≤ xs.length → xs.length < n + k → (∀ x ∈ xs, ∀ acc, ∃ r', turn2E G f elt tg c tg2 it2 c2 own own2 (inj x) acc (wipe own r) = .ok (acc ++ g x) r' ∧ wipe own r' = wipe own r) → ∃ r', lcRef2 (turn2E G f elt tg c tg2 it2 c2 own own2) i n k acc r = .ok (acc ++ (xs.drop k).flatMap g) r' ∧ wipe own r' = wipe own r
  | 0, k, r, acc, hd, hk, hn, h => by omega
  | n + 1, k, r, acc, hd, hk, hn, h => by
    by_cases hk2 : k < xs.length
    · have e0 : (xs.map inj)[k]? = some (inj xs[k]) := by rw [List.getElem?_map, List.getElem?_eq_getElem hk2]; rfl
      obtain ⟨r1, e, w⟩ := h xs[k] (List.getElem_mem hk2) acc
      have hd1 : dataAt r1 i = some (.list (xs.map inj)) := by rw [← dataAt_wipe hi, w, dataAt_wipe hi, hd]
      obtain ⟨r2, e2, w2⟩ := lcRef2_flatF (c := c) (elt := elt) (tg := tg) (f := f) (G := G) (tg2 := tg2) (it2 := it2) (c2 := c2) (own2 := own2) g hi (n := n) (k := k + 1) (acc := acc ++ g xs[k]) hd1 (by omega) (by omega) (fun y hy a => by rw [w]; exact h y hy a)
      refine ⟨r2, ?_, w2.trans w⟩
      rw [lcRef2_some hd e0, turn2E_wipe, e, bd_ok, e2, List.drop_eq_getElem_cons hk2, List.flatMap_cons, List.append_assoc]
    · have e0 : (xs.map inj)[k]? = none := by rw [List.getElem?_eq_none]; simp; omega
      refine ⟨r, ?_, rfl⟩
      rw [lcRef2_none hd e0, List.drop_eq_nil_of_le (by omega)]
      simp
theorem lcRef2_flat {α : Type} {G : Nat → Option D} {f : CE} {elt : E} {tg : Tg} {c : Option E} {tg2 : Tg} {it2 : E} {c2 : Option E} {own own2 : List Nat} {inj : α → D} (g : α → List D) {i : Nat} (hi : i ∉ own) {xs : List α} {r : Env} (hd : dataAt r i = some (.list (xs.map inj))) (hn : xs.length ≤ 3000) (h : ∀ x ∈ xs, ∀ acc, ∃ r', turn2E G f elt tg c tg2 it2 c2 own own2 (inj x) acc (wipe own r) = .ok (acc ++ g x) r' ∧ wipe own r' = wipe own r) : ∃ r', lcRef2 (turn2E G f elt tg c tg2 it2 c2 own own2) i 3001 0 [] r = .ok (xs.flatMap g) r' ∧ wipe own r' = wipe own r := by
  obtain ⟨r', e, w⟩ := lcRef2_flatF (acc := []) (k := 0) (n := 3001) g hi hd (by omega) (by omega) h
  exact ⟨r', by simpa using e, w⟩
theorem forRL_some {body : D → M Out} {i n k : Nat} {ys : List D} {x : D} {r : Env} (h1 : dataAt r i = some (.list ys)) (h2 : ys[k]? = some x) : forRL body i (n + 1) k r = (body x r).bd (afterL (forRL body i n (k + 1))) := by
  conv => lhs; unfold forRL
  simp only [h1, h2]
  rfl
theorem forRL_none {body : D → M Out} {i n k : Nat} {ys : List D} {r : Env} (h1 : dataAt r i = some (.list ys)) (h2 : ys[k]? = none) : forRL body i (n + 1) k r = .ok .nx r := by
  conv => lhs; unfold forRL
  simp only [h1, h2]
theorem forRL_typedF {α : Type} {body : D → M Out} {inj : α → D} {i : Nat} {xs : List α} (I : List α → Env → Prop) (hd : ∀ p r, I p r → dataAt r i = some (.list (xs.map inj))) (st : ∀ p x q r, xs = p ++ x :: q → I p r → ∃ r', body (inj x) r = .ok .nx r' ∧ I (p ++ [x]) r') : ∀ {n k : Nat} {r : Env}, k ≤ xs.length → xs.length < n + k → I (xs.take k) r → ∃ r', forRL body i n k r = .ok .nx r' ∧ I xs r'
  | 0, k, r, hk, hn, h => by omega
  | n + 1, k, r, hk, hn, h => by
    by_cases hk2 : k < xs.length
    · have e0 : (xs.map inj)[k]? = some (inj xs[k]) := by rw [List.getElem?_map, List.getElem?_eq_getElem hk2]; rfl
      have es : xs = xs.take k ++ xs[k] :: xs.drop (k + 1) := by rw [← List.drop_eq_getElem_cons hk2, List.take_append_drop]
      obtain ⟨r1, e, h1⟩ := st _ _ _ _ es h
      rw [← List.take_succ_eq_append_getElem hk2] at h1
      obtain ⟨r2, e2, h2⟩ := forRL_typedF I hd st (n := n) (k := k + 1) (by omega) (by omega) h1
      refine ⟨r2, ?_, h2⟩
      rw [forRL_some (hd _ _ h) e0, e, bd_ok]
      exact e2
    · have e0 : (xs.map inj)[k]? = none := by rw [List.getElem?_eq_none]; simp; omega
      rw [List.take_of_length_le (by omega)] at h
      exact ⟨r, forRL_none (hd _ _ h) e0, h⟩
/-- for .. in a slot's list, shared or its own, that the body leaves as it is -/
theorem forR_typed {α : Type} {G : Nat → Option D} {f : CE} {t : Tg} {i : Nat} {body : List S} {inj : α → D} {xs : List α} (I : List α → Env → Prop) (hd : ∀ p r, I p r → dataAt r i = some (.list (xs.map inj))) (st : ∀ p x q r, xs = p ++ x :: q → I p r → ∃ r', bodyE G f t body (inj x) r = .ok .nx r' ∧ I (p ++ [x]) r') {r : Env} (hz : xs.length ≤ 1000000) (h : I [] r) : ∃ r', ex G f (.forR t i body) r = .ok .nx r' ∧ I xs r' := by
  have h0 := hd _ _ h
  rw [ex_forR, ev_var]
  unfold dataAt at h0
  cases e : r[i]? with
  | none => rw [e] at h0; cases h0
  | some s =>
    cases s with
    | no => rw [e] at h0; cases h0
    | fz d =>
      rw [e] at h0
      have h0 : some d = some (.list (xs.map inj)) := h0
      cases h0
      obtain ⟨r', e2, h2⟩ := for_typed (body := bodyE G f t body) (inj := inj) I st h
      exact ⟨r', e2, h2⟩
    | ow d =>
      have hb : isOwn i r = .ok () r := by rw [isOwn_ap, e]
      obtain ⟨r', e2, h2⟩ := forRL_typedF (body := bodyE G f t body) (inj := inj) (i := i) I hd st (n := FUEL) (k := 0) (r := r) (by omega) (Nat.lt_of_le_of_lt hz (by decide)) h
      refine ⟨r', ?_, h2⟩
      show (srcOf [] (.ref i) r).bd _ = _
      rw [srcOf_ref, if_neg (by simp), hb]
      exact e2
end Fw

/-! Fw: what the laws' own helpers do -/
namespace Fw
open PySem
variable {G : Nat → Option D} {P : List Def}
/-! ### bounds -/
theorem sm_mul {a b : Int} {j k : Nat} (h1 : a.natAbs < 2 ^ j) (h2 : b.natAbs < 2 ^ k) : (a * b).natAbs < 2 ^ (j + k) := by
  rw [Int.natAbs_mul, Nat.pow_add]
  exact Nat.mul_lt_mul'' h1 h2
theorem sm_add {a b : Int} {j k : Nat} (h1 : a.natAbs < 2 ^ j) (h2 : b.natAbs < 2 ^ j) (hk : j < k) : (a + b).natAbs < 2 ^ k := by
  have : 2 ^ (j + 1) ≤ 2 ^ k := Nat.pow_le_pow_right (by decide) hk
  rw [Nat.pow_succ] at this
  omega
theorem sm_sub {a b : Int} {j k : Nat} (h1 : a.natAbs < 2 ^ j) (h2 : b.natAbs < 2 ^ j) (hk : j < k) : (a - b).natAbs < 2 ^ k := by
  have : 2 ^ (j + 1) ≤ 2 ^ k := Nat.pow_le_pow_right (by decide) hk
  rw [Nat.pow_succ] at this
  omega
theorem sm_up {a : Int} {j k : Nat} (h : a.natAbs < 2 ^ j) (hk : j ≤ k) : a.natAbs < 2 ^ k := Nat.lt_of_lt_of_le h (Nat.pow_le_pow_right (by decide) hk)
theorem sm_big {a : Int} {j : Nat} (h : a.natAbs < 2 ^ j) (hk : j ≤ 100000) : a.natAbs < BIG := by
  unfold BIG
  exact Nat.lt_of_lt_of_le h (Nat.pow_le_pow_right (by decide) hk)
/-! ### numbers -/
theorem gcdI_pos {p w : Int} (hw : 0 < w) : 0 < gcdI p w := by
  unfold gcdI
  have := Nat.gcd_pos_of_pos_right p.natAbs (n := w.natAbs) (by omega)
  omega
theorem gcdI_le {p w : Int} (hw : 0 < w) : gcdI p w ≤ w := by
  unfold gcdI
  have := Nat.gcd_le_right (n := w.natAbs) p.natAbs (by omega)
  omega
theorem lo_num {p w : Int} (hw : 0 < w) : (Rat.divInt p w).num = p / gcdI p w := by
  rw [Rat.num_divInt, Int.sign_eq_one_of_pos hw, Int.one_mul]
  unfold gcdI
  rw [Int.gcd_comm]; rfl
theorem lo_den {p w : Int} (hw : 0 < w) : ((Rat.divInt p w).den : Int) = w / gcdI p w := by
  rw [Rat.den_divInt, if_neg (by omega), Int.gcd_comm]
  unfold gcdI
  rw [Int.natCast_ediv, Int.natAbs_of_nonneg (by omega)]; rfl
/-- Euclid, n times -/
def eu : Nat → Int → Int → Int
  | 0, a, _ => a
  | n + 1, a, b => if b = 0 then a else eu n b (a % b)
theorem eu_gcd : ∀ (n : Nat) {m : Nat} {a b : Int}, 0 ≤ a → 0 ≤ b → b < 2 ^ n → 2 * n + 1 ≤ m → eu m a b = gcdI a b
  | 0, m, a, b, ha, hb, h, hm => by
    have : b = 0 := by omega
    subst this
    obtain ⟨m, rfl⟩ : ∃ k, m = k + 1 := ⟨m - 1, by omega⟩
    simp [eu, gcdI]; omega
  | n + 1, m, a, b, ha, hb, h, hm => by
    have step : ∀ {a b : Int}, 0 < b → 0 ≤ a → gcdI b (a % b) = gcdI a b := by
      intro a b h1 h2
      unfold gcdI
      rw [Int.natAbs_emod_of_nonneg h2, Nat.gcd_comm, ← Nat.gcd_rec, Nat.gcd_comm]
    obtain ⟨m, rfl⟩ : ∃ k, m = k + 2 := ⟨m - 2, by omega⟩
    unfold eu
    by_cases h0 : b = 0
    · subst h0; simp [gcdI]; omega
    · rw [if_neg h0]
      unfold eu
      have hm1 := Int.emod_nonneg a h0
      have hm2 := Int.emod_lt_of_pos a (show 0 < b by omega)
      by_cases h1 : a % b = 0
      · rw [if_pos h1, ← step (by omega) ha, h1]; simp [gcdI]; omega
      · rw [if_neg h1]
        have hn := Int.emod_nonneg b h1
        have hn2 := Int.emod_lt_of_pos b (show 0 < a % b by omega)
        have e := Int.emod_add_mul_ediv b (a % b)
        have q1 : 1 ≤ b / (a % b) := by
          rw [Int.le_ediv_iff_mul_le (by omega)]; omega
        have q2 : a % b ≤ (a % b) * (b / (a % b)) := by
          have := Int.mul_le_mul_of_nonneg_left q1 (show 0 ≤ a % b by omega)
          omega
        rw [eu_gcd n (by omega) hn (by rw [Int.pow_succ] at h; omega) (by omega), step (by omega) (by omega), step (by omega) ha]
theorem di_sub {a b c d : Int} (hb : 0 < b) (hd : 0 < d) : Rat.divInt (a * d - c * b) (b * d) = Rat.divInt a b - Rat.divInt c d := by
  have h1 : (b : Rat) ≠ 0 := by simp; omega
  have h2 : (d : Rat) ≠ 0 := by simp; omega
  rw [Rat.divInt_eq_div, Rat.divInt_eq_div, Rat.divInt_eq_div, Rat.intCast_sub, Rat.intCast_mul, Rat.intCast_mul, Rat.intCast_mul]
  grind
theorem di_add {a b c d : Int} (hb : 0 < b) (hd : 0 < d) : Rat.divInt (a * d + c * b) (b * d) = Rat.divInt a b + Rat.divInt c d := by
  have h1 : (b : Rat) ≠ 0 := by simp; omega
  have h2 : (d : Rat) ≠ 0 := by simp; omega
  rw [Rat.divInt_eq_div, Rat.divInt_eq_div, Rat.divInt_eq_div, Rat.intCast_add, Rat.intCast_mul, Rat.intCast_mul, Rat.intCast_mul]
  grind
theorem di_self (q : Rat) : Rat.divInt q.num q.den = q := by
  rw [Rat.divInt_ofNat, Rat.mkRat_self]
/-- a fraction as the program has it -/
def fr (q : Rat) : D := .tuple [.int q.num, .int q.den]
/-- a fraction of small numbers -/
def Bd (k : Nat) (q : Rat) : Prop := q.num.natAbs < 2 ^ k ∧ q.den < 2 ^ k
theorem Bd.up {j k : Nat} {q : Rat} (h : Bd j q) (hk : j ≤ k) : Bd k q := ⟨sm_up h.1 hk, Nat.lt_of_lt_of_le h.2 (Nat.pow_le_pow_right (by decide) hk)⟩
theorem Bd.of {k : Nat} {p w : Int} (hw : 0 < w) (h1 : p.natAbs < 2 ^ k) (h2 : w.natAbs < 2 ^ k) : Bd k (Rat.divInt p w) := by
  have g := gcdI_pos (p := p) hw
  refine ⟨?_, ?_⟩
  · rw [lo_num hw]
    exact Nat.lt_of_le_of_lt (Int.natAbs_ediv_le_natAbs _ _) h1
  · have e := lo_den (p := p) hw
    have : w / gcdI p w ≤ w := Int.ediv_le_self _ (by omega)
    omega
theorem den_pos (q : Rat) : 0 < (q.den : Int) := by have := q.den_pos; omega
theorem Bd.add {j k : Nat} {a b : Rat} (h1 : Bd j a) (h2 : Bd k b) : Bd (j + k + 1) (a + b) := by
  have e : a + b = Rat.divInt (a.num * b.den + b.num * a.den) (a.den * b.den) := by
    rw [di_add (den_pos a) (den_pos b), di_self, di_self]
  rw [e]
  have d1 : (a.den : Int).natAbs < 2 ^ j := by simpa using h1.2
  have d2 : (b.den : Int).natAbs < 2 ^ k := by simpa using h2.2
  refine Bd.of (Int.mul_pos (den_pos a) (den_pos b)) ?_ (sm_up (sm_mul d1 d2) (by omega))
  exact sm_add (sm_mul h1.1 d2) (by rw [Nat.add_comm]; exact sm_mul h2.1 d1) (by omega)
theorem bd_0 : Bd 1 0 := ⟨by decide, by decide⟩
/-! ### drawing -/
def lawMixed : Def := { np := 2, nn := 3, io := false, body := [
  .set (.name 2) (.bin .mod (.bin .add (.bin .add (.bin .mul (.bin .mod (.var 0) (.bin .sub (.bin .pow (.int 2) (.int 61)) (.int 1))) (.int 6364136223846793005)) (.bin .mul (.var 1) (.int 1442695040888963407))) (.int 97)) (.bin .pow (.int 2) (.int 61))),
  .set (.name 2) (.bin .mod (.bin .mul (.bin .bxor (.var 2) (.bin .shr (.var 2) (.int 29))) (.int 3935559000370003845)) (.bin .pow (.int 2) (.int 61))),
  .ret false (.bin .mod (.bin .mul (.bin .bxor (.var 2) (.bin .shr (.var 2) (.int 31))) (.int 2862933555777941757)) (.bin .pow (.int 2) (.int 61)))] }
theorem xor_sm {x : Int} (k : Nat) (h : 0 ≤ x) (h2 : x < 2305843009213693952) : (Builtin.bitXor x (x / 2 ^ k)).natAbs < 2 ^ 61 := by
  have hd : 0 ≤ x / 2 ^ k := Int.ediv_nonneg h (Int.pow_nonneg (by decide))
  have hl : x / 2 ^ k ≤ x := Int.ediv_le_self _ h
  rw [Bits.bitXor_pp h hd, Int.natAbs_natCast]
  exact Nat.xor_lt_two_pow (by omega) (by omega)
def mixS (x : Int) (k : Nat) (m : Int) : Int := (Builtin.bitXor x (x / 2 ^ k) * m) % 2305843009213693952
def mixA (c t : Int) : Int := (c % 2305843009213693951 * 6364136223846793005 + t * 1442695040888963407 + 97) % 2305843009213693952
def mixed (c t : Int) : Int := mixS (mixS (mixA c t) 29 3935559000370003845) 31 2862933555777941757
theorem mixA_b (c t : Int) : 0 ≤ mixA c t ∧ mixA c t < 2305843009213693952 := ⟨Int.emod_nonneg _ (by decide), Int.emod_lt_of_pos _ (by decide)⟩
theorem mixS_b (x : Int) (k : Nat) (m : Int) : 0 ≤ mixS x k m ∧ mixS x k m < 2305843009213693952 := ⟨Int.emod_nonneg _ (by decide), Int.emod_lt_of_pos _ (by decide)⟩
theorem s_mixed {n k : Nat} (hP : P[k]? = some lawMixed) {c t : Int} (ht : t.natAbs < 2 ^ 64) : cv (callP G P (n + 1) k [.int c, .int t]) = some (.val (.int (mixed c t))) := by
  rw [callP_s (d := lawMixed) hP rfl]
  have m1 : (c % 2305843009213693951).natAbs < BIG := sm_big (j := 61) (by have := Int.emod_nonneg c (show (2305843009213693951 : Int) ≠ 0 by decide); have := Int.emod_lt_of_pos c (show (0 : Int) < 2305843009213693951 by decide); omega) (by decide)
  have m2 : t.natAbs < BIG := sm_big ht (by decide)
  have k1 : 6364136223846793005 < BIG := sm_big (a := 6364136223846793005) (j := 64) (by decide) (by decide)
  have k2 : 1442695040888963407 < BIG := sm_big (a := 1442695040888963407) (j := 64) (by decide) (by decide)
  have k3 : 3935559000370003845 < BIG := sm_big (a := 3935559000370003845) (j := 64) (by decide) (by decide)
  have k4 : 2862933555777941757 < BIG := sm_big (a := 2862933555777941757) (j := 64) (by decide) (by decide)
  have g1 := sm_big (xor_sm 29 (mixA_b c t).1 (mixA_b c t).2) (by decide)
  have g2 := sm_big (xor_sm 31 (mixS_b (mixA c t) 29 3935559000370003845).1 (mixS_b (mixA c t) 29 3935559000370003845).2) (by decide)
  unfold mixed
  have e1 : ∀ x, (Builtin.bitXor x (x / 536870912) * 3935559000370003845) % 2305843009213693952 = mixS x 29 3935559000370003845 := fun x => rfl
  have e2 : ∀ x, (Builtin.bitXor x (x / 2147483648) * 2862933555777941757) % 2305843009213693952 = mixS x 31 2862933555777941757 := fun x => rfl
  have e3 : (c % 2305843009213693951 * 6364136223846793005 + t * 1442695040888963407 + 97) % 2305843009213693952 = mixA c t := rfl
  have g1 : (Builtin.bitXor (mixA c t) (mixA c t / 536870912)).natAbs < BIG := g1
  have g2 : (Builtin.bitXor (mixS (mixA c t) 29 3935559000370003845) (mixS (mixA c t) 29 3935559000370003845 / 2147483648)).natAbs < BIG := g2
  simp [lawMixed, startE, bin_mul_i, bin_mod_i, m1, m2, k1, k2, k3, k4, e1, e2, e3, g1, g2]
/-- the state of drawing, behind n draws -/
structure DrOk (n : Nat) (d : D) : Prop where
  ex : ∃ (t l : Int) (cs : List Int), d = .list [.int t, .int l, .list (cs.map .int)] ∧ 0 ≤ t ∧ t ≤ n ∧ 0 ≤ l ∧ cs ≠ [] ∧ ∀ c ∈ cs, 0 ≤ c
def lawDraw (m : Nat) : Def := { np := 2, nn := 6, io := true, body := [
  .set (.tup [(.name 2), (.name 3), (.name 4)]) (.var 0),
  .iff (.cmp .lt (.var 3) (.var 1)) [
    .set (.name 5) (.ix (.var 4) (.bin .mod (.var 2) (.bi .len [(.var 4)]))),
    .set (.name 3) (.ite (.and (.cmp .lt (.var 2) (.bi .len [(.var 4)])) (.cmp .ge (.var 5) (.bin .pow (.int 10) (.int 18)))) (.var 5) (.call m [(.var 5), (.var 2)])),
    .set (.name 2) (.bin .add (.var 2) (.int 1))] [
],
  .setIx 0 (.int 0) (.var 2),
  .setIx 0 (.int 1) (.bin .fdiv (.var 3) (.var 1)),
  .ret true (.bin .mod (.var 3) (.var 1))] }
theorem s_draw {n k m c : Nat} (hP : P[k]? = some (lawDraw m)) (hM : P[m]? = some lawMixed) {d : D} (hd : DrOk c d) (hc : c < 2 ^ 64) {size : Int} (h1 : 0 < size) (h2 : size.natAbs < 2 ^ 9000) : ∃ (v : Int) (d' : D), cw (callP G P (n + 2) k [d, .int size]) = some (.val (.int v), d') ∧ 0 ≤ v ∧ v < size ∧ DrOk (c + 1) d' := by
  obtain ⟨t, l, cs, rfl, ht0, ht, hl, hcs, hall⟩ := hd.ex
  rw [callP_s (d := lawDraw m) hP rfl]
  by_cases hlt : l < size
  · have hlen : (0 : Int) < cs.length := by have := List.length_pos_iff.mpr hcs; omega
    have hp0 := Int.emod_nonneg t (show (cs.length : Int) ≠ 0 by omega)
    have hp1 := Int.emod_lt_of_pos t hlen
    obtain ⟨j, hj⟩ : ∃ j : Nat, t % (cs.length : Int) = j := ⟨(t % (cs.length : Int)).toNat, by omega⟩
    have hj2 : j < cs.length := by omega
    have hpl : place (j : Int) cs.length = some j := by rw [place_nat, if_pos hj2]
    have hmx := s_mixed (G := G) (n := n) hM (c := cs[j]) (t := t) (by omega)
    by_cases hbig : t < cs.length ∧ 1000000000000000000 ≤ cs[j]
    · refine ⟨cs[j] % size, .list [.int (t + 1), .int (cs[j] / size), .list (cs.map .int)], ?_, Int.emod_nonneg _ (by omega), Int.emod_lt_of_pos _ h1, ⟨_, _, _, rfl, by omega, by omega, Int.ediv_nonneg (hall _ (List.getElem_mem hj2)) (by omega), hcs, hall⟩⟩
      simp [lawDraw, startE, hlt, bin_mod_i hlen, bin_mod_i h1, bin_div_i h1 h2, hj, hpl, hj2, hbig.1, hbig.2, h1, h2, bin_div_i]
    · refine ⟨mixed cs[j] t % size, .list [.int (t + 1), .int (mixed cs[j] t / size), .list (cs.map .int)], ?_, Int.emod_nonneg _ (by omega), Int.emod_lt_of_pos _ h1, ⟨_, _, _, rfl, by omega, by omega, Int.ediv_nonneg (mixS_b _ _ _).1 (by omega), hcs, hall⟩⟩
      by_cases hb1 : t < cs.length
      · have hb2 : ¬ 1000000000000000000 ≤ cs[j] := fun z => hbig ⟨hb1, z⟩
        simp [lawDraw, startE, hlt, bin_mod_i hlen, bin_mod_i h1, bin_div_i h1 h2, hj, hpl, hj2, hb1, hb2, h1, h2, bin_div_i, hmx]
      · simp [lawDraw, startE, hlt, bin_mod_i hlen, bin_mod_i h1, bin_div_i h1 h2, hj, hpl, hj2, hb1, h1, h2, bin_div_i, hmx]
  · refine ⟨l % size, .list [.int t, .int (l / size), .list (cs.map .int)], ?_, Int.emod_nonneg _ (by omega), Int.emod_lt_of_pos _ h1, ⟨_, _, _, rfl, by omega, by omega, Int.ediv_nonneg hl (by omega), hcs, hall⟩⟩
    simp [lawDraw, startE, hlt, bin_mod_i h1, bin_div_i h1 h2]
def lawOpen : Def := { np := 1, nn := 3, io := false, body := [
  .set (.name 1) (.lc (.bi .abs [(.bi .int [(.var 2)])]) (.name 2) (.sl (.var 0) none (some (.int 63))) none [2]),
  .ret false (.lst [(.int 0), (.int 0), (.bin .add (.var 1) (.lst [(.int 0)]))])] }
theorem s_open {n k : Nat} (hP : P[k]? = some lawOpen) (ns : List Int) : ∃ d, cv (callP G P (n + 1) k [.list (ns.map .int)]) = some (.new d) ∧ DrOk 0 d := by
  rw [callP_s (d := lawOpen) hP rfl]
  obtain ⟨r', e, w⟩ := lc_map (G := G) (f := callP G P n) (elt := .bi .abs [(.bi .int [(.var 2)])]) (tg := .name 2) (c := none) (own := [2]) (xs := ns.take 63) (inj := .int) (r := [.fz (.list (ns.map .int)), .no, .no]) (fun i : Int => .int (i.natAbs : Nat)) (fun i _ => ⟨_, by simp; rfl, by simp⟩)
  refine ⟨.list [.int 0, .int 0, .list ((((ns.take 63).map fun i : Int => ((i.natAbs : Nat) : Int)) ++ [0]).map PyData.int)], ?_, ⟨_, _, _, rfl, by omega, by omega, by omega, by simp, ?_⟩⟩
  · have z : min 63 ns.length + 1 ≤ sizeLine := by have : 64 ≤ sizeLine := by decide
                                                   omega
    simp only [wipe_cons, wipe_nil, List.set_cons_succ, List.set_cons_zero] at w
    rw [List.map_take] at e
    simp [inOwn_ap, lawOpen, startE, e, back_wipe (r := r'), w, z, Function.comp_def]
  · intro c hc
    rcases List.mem_append.mp hc with hc | hc
    · obtain ⟨i, _, rfl⟩ := List.mem_map.mp hc
      omega
    · simp at hc; omega
def lawGreatest : Def := { np := 2, nn := 4, io := false, body := [
  .forS (.name 2) (.rng [(.int 6000)]) [
    .iff (.cmp .eq (.var 1) (.int 0)) [
      .brk] [
],
    .set (.name 3) (.bin .mod (.var 0) (.var 1)),
    .set (.name 0) (.var 1),
    .set (.name 1) (.var 3)],
  .ret false (.var 0)] }
theorem gr_loop (f : CE) : ∀ (ks : List D) (a b : Int) (s t : Sl), 0 ≤ a → 0 ≤ b → ∃ b' s' t', forL (bodyE G f (.name 2) [
    .iff (.cmp .eq (.var 1) (.int 0)) [
      .brk] [
],
    .set (.name 3) (.bin .mod (.var 0) (.var 1)),
    .set (.name 0) (.var 1),
    .set (.name 1) (.var 3)]) ks [.fz (.int a), .fz (.int b), s, t] = .ok .nx [.fz (.int (eu ks.length a b)), b', s', t']
  | [], a, b, s, t, _, _ => ⟨_, _, _, by simp [eu]; exact ⟨rfl, rfl, rfl⟩⟩
  | k :: ks, a, b, s, t, ha, hb => by
    rw [forL_cons]
    by_cases h : b = 0
    · subst h
      exact ⟨_, _, _, by simp [eu]; exact ⟨rfl, rfl, rfl⟩⟩
    · have hp : 0 < b := by omega
      obtain ⟨b', s', t', ih⟩ := gr_loop f ks b (a % b) (.fz k) (.fz (.int (a % b))) hb (Int.emod_nonneg a h)
      refine ⟨b', s', t', ?_⟩
      simp [h, bin_mod_i hp, ih, eu]
theorem s_greatest {n k : Nat} (hP : P[k]? = some lawGreatest) {a b : Int} (ha : 0 ≤ a) (hb : 0 ≤ b) (h : b < 2 ^ 2999) : cv (callP G P (n + 1) k [.int a, .int b]) = some (.val (.int (gcdI a b))) := by
  rw [callP_s (d := lawGreatest) hP rfl]
  obtain ⟨b', s', t', e⟩ := gr_loop (G := G) (callP G P n) ((List.range 6000).map fun k => PyData.int (k : Nat)) a b .no .no ha hb
  have g : eu 6000 a b = gcdI a b := eu_gcd 2999 ha hb h (by decide)
  simp only [List.length_map, List.length_range, g] at e
  have z : (6000 : Int) ≤ sizeLine := by decide
  simp [lawGreatest, startE, z, e]
def lawLowest (g : Nat) : Def := { np := 2, nn := 3, io := false, body := [
  .set (.name 2) (.call g [(.bi .abs [(.var 0)]), (.bi .abs [(.var 1)])]),
  .set (.name 2) (.ite (.cmp .lt (.var 1) (.int 0)) (.neg (.var 2)) (.var 2)),
  .ret false (.tup [(.bin .fdiv (.var 0) (.var 2)), (.bin .fdiv (.var 1) (.var 2))])] }
theorem s_llow {n k g : Nat} (hP : P[k]? = some (lawLowest g)) (hG : P[g]? = some lawGreatest) {p w : Int} (hw : 0 < w) (hb : w.natAbs < 2 ^ 2999) : cv (callP G P (n + 2) k [.int p, .int w]) = some (.val (fr (Rat.divInt p w))) := by
  rw [callP_s (d := lawLowest g) hP rfl]
  have h1 := gcdI_pos (p := p) hw
  have h2 := gcdI_le (p := p) hw
  have h3 : (gcdI p w).natAbs < 2 ^ 9000 := sm_up (j := 2999) (by omega) (by decide)
  have h4 : ¬ w < 0 := by omega
  have l := s_greatest (G := G) (n := n) hG (a := (p.natAbs : Nat)) (b := (w.natAbs : Nat)) (by omega) (by omega) (by omega)
  have e : gcdI (p.natAbs : Nat) (w.natAbs : Nat) = gcdI p w := by unfold gcdI; rw [Int.natAbs_natCast, Int.natAbs_natCast]
  rw [e] at l
  simp [lawLowest, startE, l, h4, bin_div_i h1 h3, fr, lo_num hw, lo_den hw]
def lawPlus (l : Nat) : Def := { np := 2, nn := 2, io := false, body := [
  .ret false (.call l [(.bin .add (.bin .mul (.ix (.var 0) (.int 0)) (.ix (.var 1) (.int 1))) (.bin .mul (.ix (.var 1) (.int 0)) (.ix (.var 0) (.int 1)))), (.bin .mul (.ix (.var 0) (.int 1)) (.ix (.var 1) (.int 1)))])] }
theorem s_lplus {n k l g : Nat} (hP : P[k]? = some (lawPlus l)) (hL : P[l]? = some (lawLowest g)) (hG : P[g]? = some lawGreatest) {a b : Rat} {i j : Nat} (ha : Bd i a) (hb : Bd j b) (hij : i + j ≤ 2999) : cv (callP G P (n + 3) k [fr a, fr b]) = some (.val (fr (a + b))) := by
  rw [callP_s (d := lawPlus l) hP rfl]
  have d1 : (a.den : Int).natAbs < 2 ^ i := by simpa using ha.2
  have d2 : (b.den : Int).natAbs < 2 ^ j := by simpa using hb.2
  have h := s_llow (G := G) (n := n) hL hG (p := a.num * b.den + b.num * a.den) (Int.mul_pos (den_pos a) (den_pos b)) (sm_up (sm_mul d1 d2) hij)
  rw [di_add (den_pos a) (den_pos b), di_self, di_self] at h
  have b1 := sm_big ha.1 (by omega)
  have b2 := sm_big d1 (by omega)
  have b3 := sm_big hb.1 (by omega)
  have b4 := sm_big d2 (by omega)
  have e : ∀ q : Rat, fr q = .tuple [.int q.num, .int q.den] := fun _ => rfl
  simp only [e a, e b]
  simp only [Int.natAbs_natCast] at b2 b4
  simp [lawPlus, startE, bin_mul_i, b1, b2, b3, b4, h]
def lawSum (p : Nat) : Def := { np := 1, nn := 3, io := false, body := [
  .set (.name 1) (.tup [(.int 0), (.int 1)]),
  .forR (.name 2) 0 [
    .set (.name 1) (.call p [(.var 1), (.var 2)])],
  .ret false (.var 1)] }
theorem s_lsum {n k p l g j : Nat} (hP : P[k]? = some (lawSum p)) (hp : P[p]? = some (lawPlus l)) (hL : P[l]? = some (lawLowest g)) (hG : P[g]? = some lawGreatest) (qs : List Rat) (hq : ∀ q ∈ qs, Bd j q) (hb : 1 + qs.length * (j + 1) ≤ 2999) {c : D} (hc : c = .list (qs.map fr) ∨ c = .tuple (qs.map fr)) : cv (callP G P (n + 4) k [c]) = some (.val (fr qs.sum)) := by
  rw [callP_s (d := lawSum p) hP rfl]
  have lp : ∀ (qs : List Rat) (a : Rat) (i : Nat) (c : D) (s : Sl), Bd i a → (∀ q ∈ qs, Bd j q) → i + qs.length * (j + 1) ≤ 2999 → ∃ s', forL (bodyE G (callP G P (n + 3)) (.name 2) [.set (.name 1) (.call p [(.var 1), (.var 2)])]) (qs.map fr) [.fz c, .fz (fr a), s] = .ok .nx [.fz c, .fz (fr (a + qs.sum)), s'] := by
    intro qs
    induction qs with
    | nil => intro a i c s _ _ _; exact ⟨s, by simp [Rat.add_zero]⟩
    | cons q qs ih =>
      intro a i c s ha hq hi
      have hq0 : Bd j q := hq q (by simp)
      rw [List.length_cons, Nat.add_mul, Nat.one_mul] at hi
      obtain ⟨s', e⟩ := ih (a + q) (i + j + 1) c (.fz (fr q)) (ha.add hq0) (fun x hx => hq x (by simp [hx])) (by omega)
      have h := s_lplus (G := G) (n := n) hp hL hG ha hq0 (by omega)
      refine ⟨s', ?_⟩
      have nm : noMut (fr (a + q)) = true := by simp [fr]
      simp [h, e, List.sum_cons, Rat.add_assoc, after_imm nm]
  obtain ⟨s', e⟩ := lp qs 0 1 c .no bd_0 hq hb
  rw [Rat.zero_add] at e
  have e0 : (PyData.tuple [.int 0, .int 1]) = fr 0 := rfl
  rcases hc with rfl | rfl
  · simp [lawSum, startE, e0, e]
  · simp [lawSum, startE, e0, e]
/-! ### the program's own fractions -/
def isNum (d : D) (a b : Int) : Bool := match d with
  | .int i => decide (a ≤ i) && decide (i ≤ b)
  | _ => false
def pIsNumber : Def := { np := 3, nn := 3, io := false, body := [
  .ret false (.and (.isi (.var 0) .int) (.and (.not (.isi (.var 0) .bool)) (.chain .le .le (.var 1) (.var 0) (.var 2))))] }
theorem s_num {n k : Nat} (hP : P[k]? = some pIsNumber) (d : D) (a b : Int) : cv (callP G P (n + 1) k [d, .int a, .int b]) = some (.val (.bool (isNum d a b))) := by
  rw [callP_s (d := pIsNumber) hP rfl]
  cases d <;> simp [pIsNumber, startE, isNum, isiD]
  split <;> simp_all
  intros; omega
def pLowest : Def := { np := 2, nn := 3, io := false, body := [
  .set (.name 2) (.bi .gcd [(.var 0), (.var 1)]),
  .iff (.cmp .lt (.var 1) (.int 0)) [
    .set (.name 2) (.neg (.var 2))] [
],
  .ret false (.tup [(.bin .fdiv (.var 0) (.var 2)), (.bin .fdiv (.var 1) (.var 2))])] }
theorem s_lowest {n k : Nat} (hP : P[k]? = some pLowest) {p w : Int} (hw : 0 < w) (hb : w.natAbs < 2 ^ 9000) : cv (callP G P (n + 1) k [.int p, .int w]) = some (.val (fr (Rat.divInt p w))) := by
  rw [callP_s (d := pLowest) hP rfl]
  have h1 := gcdI_pos (p := p) hw
  have h2 := gcdI_le (p := p) hw
  have h3 : (gcdI p w).natAbs < 2 ^ 9000 := by omega
  have h4 : ¬ w < 0 := by omega
  simp [pLowest, startE, h4, bin_div_i h1 h3, fr, lo_num hw, lo_den hw]
def pMinus (l : Nat) : Def := { np := 2, nn := 2, io := false, body := [
  .ret false (.call l [(.bin .sub (.bin .mul (.ix (.var 0) (.int 0)) (.ix (.var 1) (.int 1))) (.bin .mul (.ix (.var 1) (.int 0)) (.ix (.var 0) (.int 1)))), (.bin .mul (.ix (.var 0) (.int 1)) (.ix (.var 1) (.int 1)))])] }
theorem s_minus {n k l : Nat} (hP : P[k]? = some (pMinus l)) (hL : P[l]? = some pLowest) {a b : Rat} {i j : Nat} (ha : Bd i a) (hb : Bd j b) (hij : i + j ≤ 9000) : cv (callP G P (n + 2) k [fr a, fr b]) = some (.val (fr (a - b))) := by
  rw [callP_s (d := pMinus l) hP rfl]
  have d1 : (a.den : Int).natAbs < 2 ^ i := by simpa using ha.2
  have d2 : (b.den : Int).natAbs < 2 ^ j := by simpa using hb.2
  have h := s_lowest (G := G) (n := n) hL (p := a.num * b.den - b.num * a.den) (Int.mul_pos (den_pos a) (den_pos b)) (sm_up (sm_mul d1 d2) hij)
  rw [di_sub (den_pos a) (den_pos b), di_self, di_self] at h
  have b1 := sm_big ha.1 (by omega)
  have b2 := sm_big d1 (by omega)
  have b3 := sm_big hb.1 (by omega)
  have b4 := sm_big d2 (by omega)
  have e : ∀ q : Rat, fr q = .tuple [.int q.num, .int q.den] := fun _ => rfl
  simp only [e a, e b]
  simp only [Int.natAbs_natCast] at b2 b4
  simp [pMinus, startE, bin_mul_i, b1, b2, b3, b4, h]
theorem noMut_fr (q : Rat) : noMut (fr q) = true := by simp [fr]
theorem fr_int (i : Int) : fr (i : Rat) = .tuple [.int i, .int 1] := rfl
/-! ### a row of numbers to draw from -/
def lawDraws : Def := { np := 1, nn := 7, io := false, body := [
  .set (.name 1) (.lst []),
  .forR (.name 2) 0 [
    .set (.name 3) (.bi .abs [(.var 2)]),
    .iff (.cmp .lt (.var 3) (.bin .pow (.int 10) (.int 18))) [
      .set (.name 4) (.bin .mod (.bi .int [(.bin .add (.bin .mul (.var 3) (.int 48271)) (.int 11))]) (.int 2147483647)),
      .app 1 (.bin .mod (.bi .int [(.bin .add (.bin .mul (.var 4) (.int 69621)) (.var 3))]) (.int 2147483629)),
      .app 1 (.bin .mod (.bi .int [(.bin .add (.var 4) (.bin .fdiv (.var 3) (.int 7)))]) (.int 1000003)),
      .set (.name 3) (.int 0)] [
],
    .forS (.name 5) (.rng [(.int 60)]) [
      .iff (.cmp .gt (.var 3) (.int 0)) [
        .app 1 (.bin .mod (.bi .int [(.var 3)]) (.int 997)),
        .set (.name 3) (.bin .fdiv (.var 3) (.int 997))] [
]]],
  .set (.name 6) (.int 1),
  .iff (.cmp .gt (.bi .len [(.var 0)]) (.int 0)) [
    .set (.name 6) (.bin .add (.int 1) (.bi .abs [(.ix (.var 0) (.int 0))]))] [
],
  .forS (.name 5) (.rng [(.int 900)]) [
    .set (.name 6) (.bin .mod (.bi .int [(.bin .add (.bin .mul (.var 6) (.int 48271)) (.int 69621))]) (.int 2147483647)),
    .app 1 (.bin .fdiv (.var 6) (.int 5))],
  .ret false (.revd (.var 1))] }
def lawTake : Def := { np := 2, nn := 2, io := true, body := [
  .iff (.cmp .eq (.bi .len [(.var 0)]) (.int 0)) [
    .ret true (.int 0)] [
],
  .ret true (.bin .mod (.bi .int [(.pop 0)]) (.var 1))] }
theorem s_take {n k : Nat} (hP : P[k]? = some lawTake) (ns : List Int) {bound : Int} (hb : 0 < bound) : ∃ (v : Int) (ns' : List Int), cw (callP G P (n + 1) k [.list (ns.map .int), .int bound]) = some (.val (.int v), .list (ns'.map .int)) ∧ 0 ≤ v ∧ v < bound := by
  rw [callP_s (d := lawTake) hP rfl]
  by_cases hns : ns = []
  · subst hns
    exact ⟨0, [], by simp [lawTake, startE], by omega, hb⟩
  · have hg : (ns.map PyData.int).getLast? = some (.int (ns.getLast hns)) := by
      rw [List.getLast?_map, List.getLast?_eq_some_getLast hns]
      rfl
    have hd : (ns.map PyData.int).dropLast = ns.dropLast.map PyData.int := by rw [List.map_dropLast]
    have hl : ¬ (((ns.map PyData.int).length : Int) = 0) := by
      have := List.length_pos_iff.mpr hns
      rw [List.length_map]
      omega
    refine ⟨ns.getLast hns % bound, ns.dropLast, ?_, Int.emod_nonneg _ (by omega), Int.emod_lt_of_pos _ hb⟩
    rw [← hd]
    generalize ns.getLast hns = z at *
    generalize ns.map PyData.int = L at *
    have hl2 : ¬ (L = []) := by
      intro e
      subst e
      exact hl rfl
    simp [lawTake, startE, hl2, hg, bin_mod_i hb]
def kB : List S := [
      .iff (.cmp .gt (.var 3) (.int 0)) [
        .app 1 (.bin .mod (.bi .int [(.var 3)]) (.int 997)),
        .set (.name 3) (.bin .fdiv (.var 3) (.int 997))] []]
def ED (scr : D) (ds : List Int) (s2 s3 s4 s5 s6 : Sl) : Env := [.fz scr, .ow (.list (ds.map .int)), s2, s3, s4, s5, s6]
theorem sl_big : (1000000 : Nat) ≤ sizeLine := by decide
theorem k_loop (g : CE) (scr : D) (s2 s4 s6 : Sl) : ∀ (ks : List Nat) (ds : List Int) (m : Int) (s5 : Sl), ds.length + ks.length ≤ 100000 → ∃ ds' m' s5', forL (bodyE G g (.name 5) kB) (ks.map fun k : Nat => PyData.int k) (ED scr ds s2 (.fz (.int m)) s4 s5 s6) = .ok .nx (ED scr ds' s2 (.fz (.int m')) s4 s5' s6) ∧ ds'.length ≤ ds.length + ks.length
  | [], ds, m, s5, _ => ⟨ds, m, s5, rfl, by simp⟩
  | k :: ks, ds, m, s5, h => by
    rw [List.length_cons] at h
    have z : ds.length < sizeLine := by have := sl_big; omega
    by_cases hm : 0 < m
    · obtain ⟨ds', m', s5', e, l⟩ := k_loop g scr s2 s4 s6 ks (ds ++ [m % 997]) (m / 997) (.fz (.int k)) (by simp; omega)
      refine ⟨ds', m', s5', ?_, by simp at l ⊢; omega⟩
      simp only [ED, List.map_append, List.map_cons, List.map_nil] at e ⊢
      rw [forL_cons, bodyE_ap]
      simp [kB, hm, bin_mod_i (show (0 : Int) < 997 by decide), bin_div_i (show (0 : Int) < 997 by decide) (sm_up (j := 10) (by decide) (by decide)), z, -bodyE_ap]
      simp only [kB] at e
      exact e
    · obtain ⟨ds', m', s5', e, l⟩ := k_loop g scr s2 s4 s6 ks ds m (.fz (.int k)) (by omega)
      refine ⟨ds', m', s5', ?_, by simp at l ⊢; omega⟩
      simp only [ED] at e ⊢
      rw [List.map_cons, forL_cons, bodyE_ap]
      simp [kB, hm, -bodyE_ap]
      simp only [kB] at e
      exact e
def cB1 : List S := [
    .set (.name 3) (.bi .abs [(.var 2)]),
    .iff (.cmp .lt (.var 3) (.bin .pow (.int 10) (.int 18))) [
      .set (.name 4) (.bin .mod (.bi .int [(.bin .add (.bin .mul (.var 3) (.int 48271)) (.int 11))]) (.int 2147483647)),
      .app 1 (.bin .mod (.bi .int [(.bin .add (.bin .mul (.var 4) (.int 69621)) (.var 3))]) (.int 2147483629)),
      .app 1 (.bin .mod (.bi .int [(.bin .add (.var 4) (.bin .fdiv (.var 3) (.int 7)))]) (.int 1000003)),
      .set (.name 3) (.int 0)] [],
    .forS (.name 5) (.rng [(.int 60)]) kB]
theorem cA1 (g : CE) (scr : D) (s4 s5 s6 : Sl) (c m m1 m2 : Int) (ds : List Int) (k1 : binD .mul (.int m) (.int 48271) = some (.val (.int m1))) (k2 : binD .mod (.int (m1 + 11)) (.int 2147483647) = some (.val (.int m2))) : ex G g (.set (.name 4) (.bin .mod (.bi .int [(.bin .add (.bin .mul (.var 3) (.int 48271)) (.int 11))]) (.int 2147483647))) (ED scr ds (.fz (.int c)) (.fz (.int m)) s4 s5 s6) = .ok .nx (ED scr ds (.fz (.int c)) (.fz (.int m)) (.fz (.int m2)) s5 s6) := by
  simp [ED, k1, k2]
theorem cA2 (g : CE) (scr : D) (s5 s6 : Sl) (c m m2 m3 m4 : Int) (ds : List Int) (z : ds.length < sizeLine) (k1 : binD .mul (.int m2) (.int 69621) = some (.val (.int m3))) (k2 : binD .mod (.int (m3 + m)) (.int 2147483629) = some (.val (.int m4))) : ex G g (.app 1 (.bin .mod (.bi .int [(.bin .add (.bin .mul (.var 4) (.int 69621)) (.var 3))]) (.int 2147483629))) (ED scr ds (.fz (.int c)) (.fz (.int m)) (.fz (.int m2)) s5 s6) = .ok .nx (ED scr (ds ++ [m4]) (.fz (.int c)) (.fz (.int m)) (.fz (.int m2)) s5 s6) := by
  simp [ED, k1, k2, z]
theorem cA3 (g : CE) (scr : D) (s5 s6 : Sl) (c m m2 m5 m6 : Int) (ds : List Int) (z : ds.length < sizeLine) (k1 : binD .fdiv (.int m) (.int 7) = some (.val (.int m5))) (k2 : binD .mod (.int (m2 + m5)) (.int 1000003) = some (.val (.int m6))) : ex G g (.app 1 (.bin .mod (.bi .int [(.bin .add (.var 4) (.bin .fdiv (.var 3) (.int 7)))]) (.int 1000003))) (ED scr ds (.fz (.int c)) (.fz (.int m)) (.fz (.int m2)) s5 s6) = .ok .nx (ED scr (ds ++ [m6]) (.fz (.int c)) (.fz (.int m)) (.fz (.int m2)) s5 s6) := by
  simp [ED, k1, k2, z]
theorem cA4 (g : CE) (scr : D) (s4 s5 s6 : Sl) (c m : Int) (ds : List Int) : ex G g (.set (.name 3) (.int 0)) (ED scr ds (.fz (.int c)) (.fz (.int m)) s4 s5 s6) = .ok .nx (ED scr ds (.fz (.int c)) (.fz (.int 0)) s4 s5 s6) := by
  simp [ED]
theorem cA0 (g : CE) (scr : D) (s3 s4 s5 s6 : Sl) (c m : Int) (ds : List Int) (hb : biD .abs [.int c] = some (.val (.int m))) : ex G g (.set (.name 3) (.bi .abs [(.var 2)])) (ED scr ds (.fz (.int c)) s3 s4 s5 s6) = .ok .nx (ED scr ds (.fz (.int c)) (.fz (.int m)) s4 s5 s6) := by
  simp [ED, hb, -bi_abs]
theorem cAc (g : CE) (scr : D) (s4 s5 s6 : Sl) (c m : Int) (ds : List Int) : tsM (ev G g (.cmp .lt (.var 3) (.bin .pow (.int 10) (.int 18)))) (ED scr ds (.fz (.int c)) (.fz (.int m)) s4 s5 s6) = .ok (decide (m < 1000000000000000000)) (ED scr ds (.fz (.int c)) (.fz (.int m)) s4 s5 s6) := by
  simp [ED]
theorem c_turn0 (g : CE) (scr : D) (s3 s4 s5 s6 : Sl) (c : Int) (ds : List Int) (hl : ds.length ≤ 50000) : ∃ v1 v2 s4', exs G g (cB1.take 2) (ED scr ds (.fz (.int c)) s3 s4 s5 s6) = .ok .nx (ED scr (ds ++ [v1, v2]) (.fz (.int c)) (.fz (.int 0)) s4' s5 s6) ∨ exs G g (cB1.take 2) (ED scr ds (.fz (.int c)) s3 s4 s5 s6) = .ok .nx (ED scr ds (.fz (.int c)) (.fz (.int (c.natAbs : Nat))) s4 s5 s6) := by
  have z1 : ds.length < sizeLine := by have := sl_big; omega
  have z2 : ∀ v : Int, (ds ++ [v]).length < sizeLine := fun v => by
    have := sl_big
    rw [List.length_append, List.length_singleton]
    omega
  have e0 := cA0 (G := G) g scr s3 s4 s5 s6 c _ ds (bi_abs c)
  have ec := cAc (G := G) g scr s4 s5 s6 c ((c.natAbs : Nat) : Int) ds
  have e1 := cA1 (G := G) g scr s4 s5 s6 c ((c.natAbs : Nat) : Int) _ _ ds (bin_mul_sr (show (48271 : Int).natAbs < 2 ^ 63 by decide)) (bin_mod_i (show (0 : Int) < 2147483647 by decide))
  have e2 := fun m2 => cA2 (G := G) g scr s5 s6 c ((c.natAbs : Nat) : Int) m2 _ _ ds z1 (bin_mul_sr (show (69621 : Int).natAbs < 2 ^ 63 by decide)) (bin_mod_i (show (0 : Int) < 2147483629 by decide))
  have e3 := fun m2 v => cA3 (G := G) g scr s5 s6 c ((c.natAbs : Nat) : Int) m2 _ _ (ds ++ [v]) (z2 v) (bin_div_i (show (0 : Int) < 7 by decide) (sm_up (j := 10) (by decide) (by decide))) (bin_mod_i (show (0 : Int) < 1000003 by decide))
  have e4 := fun ds s4 => cA4 (G := G) g scr s4 s5 s6 c ((c.natAbs : Nat) : Int) ds
  rw [show cB1.take 2 = [.set (.name 3) (.bi .abs [(.var 2)]),
    .iff (.cmp .lt (.var 3) (.bin .pow (.int 10) (.int 18))) [
      .set (.name 4) (.bin .mod (.bi .int [(.bin .add (.bin .mul (.var 3) (.int 48271)) (.int 11))]) (.int 2147483647)),
      .app 1 (.bin .mod (.bi .int [(.bin .add (.bin .mul (.var 4) (.int 69621)) (.var 3))]) (.int 2147483629)),
      .app 1 (.bin .mod (.bi .int [(.bin .add (.var 4) (.bin .fdiv (.var 3) (.int 7)))]) (.int 1000003)),
      .set (.name 3) (.int 0)] []] from rfl]
  rw [exs_cons, e0, bd_ok, thenE_nx, exs_cons, ex_iff, ec, bd_ok]
  generalize ((c.natAbs : Nat) : Int) = m at *
  by_cases hc : m < 1000000000000000000
  · refine ⟨((((m * 48271 + 11) % 2147483647) * 69621 + m) % 2147483629), (((m * 48271 + 11) % 2147483647 + m / 7) % 1000003), .fz (.int ((m * 48271 + 11) % 2147483647)), .inl ?_⟩
    rw [if_pos (by simpa using hc), exs_cons, e1, bd_ok, thenE_nx, exs_cons, e2, bd_ok, thenE_nx, exs_cons, e3, bd_ok, thenE_nx, exs_cons, e4, bd_ok, thenE_nx, exs_nil, bd_ok, thenE_nx, exs_nil, List.append_assoc]
    rfl
  · refine ⟨0, 0, s4, .inr ?_⟩
    rw [if_neg (by simpa using hc), exs_nil, bd_ok, thenE_nx, exs_nil]
theorem c_turn (g : CE) (scr : D) (s2 s3 s4 s5 s6 : Sl) (c : Int) (ds : List Int) (hl : ds.length ≤ 50000) : ∃ ds' s3' s4' s5', bodyE G g (.name 2) cB1 (.int c) (ED scr ds s2 s3 s4 s5 s6) = .ok .nx (ED scr ds' (.fz (.int c)) s3' s4' s5' s6) ∧ ds'.length ≤ ds.length + 62 := by
  have ea : asgM (.name 2) (.int c) (ED scr ds s2 s3 s4 s5 s6) = .ok () (ED scr ds (.fz (.int c)) s3 s4 s5 s6) := by simp [ED]
  have z60 : (60 : Int) ≤ sizeLine := by decide
  have last : ∀ (ds1 : List Int) (m : Int) (s4 s5 : Sl), ds1.length ≤ 60000 → ∃ ds' m' s5', exs G g (cB1.drop 2) (ED scr ds1 (.fz (.int c)) (.fz (.int m)) s4 s5 s6) = .ok .nx (ED scr ds' (.fz (.int c)) (.fz (.int m')) s4 s5' s6) ∧ ds'.length ≤ ds1.length + 60 := by
    intro ds1 m s4 s5 hl
    obtain ⟨ds', m', s5', e1, l1⟩ := k_loop (G := G) g scr (.fz (.int c)) s4 s6 (List.range 60) ds1 m s5 (by rw [List.length_range]; omega)
    rw [List.length_range] at l1
    refine ⟨ds', m', s5', ?_, l1⟩
    simp only [ED] at e1
    simp [cB1, ED, z60, e1, -bodyE_ap]
  obtain ⟨v1, v2, s4', h | h⟩ := c_turn0 (G := G) g scr s3 s4 s5 s6 c ds hl
  · obtain ⟨ds', m', s5', e, l⟩ := last (ds ++ [v1, v2]) 0 s4' s5 (by rw [List.length_append]; simp only [List.length_cons, List.length_nil]; omega)
    refine ⟨ds', .fz (.int m'), s4', s5', ?_, by rw [List.length_append] at l; simp only [List.length_cons, List.length_nil] at l; omega⟩
    rw [bodyE_ap, ea, bd_ok, exs_next h]
    exact e
  · obtain ⟨ds', m', s5', e, l⟩ := last ds (c.natAbs : Nat) s4 s5 (by omega)
    refine ⟨ds', .fz (.int m'), s4, s5', ?_, by omega⟩
    rw [bodyE_ap, ea, bd_ok, exs_next h]
    exact e
theorem c_loop (g : CE) (scr : D) (s6 : Sl) : ∀ (cs : List Int) (ds : List Int) (s2 s3 s4 s5 : Sl), ds.length + 62 * cs.length ≤ 50000 → ∃ ds' s2' s3' s4' s5', forL (bodyE G g (.name 2) cB1) (cs.map .int) (ED scr ds s2 s3 s4 s5 s6) = .ok .nx (ED scr ds' s2' s3' s4' s5' s6) ∧ ds'.length ≤ ds.length + 62 * cs.length
  | [], ds, s2, s3, s4, s5, _ => ⟨ds, s2, s3, s4, s5, rfl, by simp⟩
  | c :: cs, ds, s2, s3, s4, s5, h => by
    rw [List.length_cons] at h
    obtain ⟨ds1, s31, s41, s51, e1, l1⟩ := c_turn (G := G) g scr s2 s3 s4 s5 s6 c ds (by omega)
    obtain ⟨ds', s2', s3', s4', s5', e, l⟩ := c_loop g scr s6 cs ds1 (.fz (.int c)) s31 s41 s51 (by omega)
    refine ⟨ds', s2', s3', s4', s5', ?_, by rw [List.length_cons]; omega⟩
    rw [List.map_cons, forL_cons, e1, bd_ok]
    exact e
def sB : List S := [
    .set (.name 6) (.bin .mod (.bi .int [(.bin .add (.bin .mul (.var 6) (.int 48271)) (.int 69621))]) (.int 2147483647)),
    .app 1 (.bin .fdiv (.var 6) (.int 5))]
theorem s_loop (g : CE) (scr : D) (s2 s3 s4 : Sl) : ∀ (ks : List Nat) (ds : List Int) (m : Int) (s5 : Sl), ds.length + ks.length ≤ 100000 → ∃ ds' m' s5', forL (bodyE G g (.name 5) sB) (ks.map fun k : Nat => PyData.int k) (ED scr ds s2 s3 s4 s5 (.fz (.int m))) = .ok .nx (ED scr ds' s2 s3 s4 s5' (.fz (.int m')))
  | [], ds, m, s5, _ => ⟨ds, m, s5, rfl⟩
  | k :: ks, ds, m, s5, h => by
    rw [List.length_cons] at h
    have z : ds.length < sizeLine := by have := sl_big; omega
    obtain ⟨ds', m', s5', e⟩ := s_loop g scr s2 s3 s4 ks (ds ++ [((m * 48271 + 69621) % 2147483647) / 5]) ((m * 48271 + 69621) % 2147483647) (.fz (.int k)) (by simp; omega)
    refine ⟨ds', m', s5', ?_⟩
    have k1 := bin_mul_sr (i := m) (show (48271 : Int).natAbs < 2 ^ 63 by decide)
    generalize m * 48271 = m1 at *
    have k2 := bin_mod_i (i := m1 + 69621) (show (0 : Int) < 2147483647 by decide)
    generalize (m1 + 69621) % 2147483647 = m2 at *
    have k3 := bin_div_i (i := m2) (show (0 : Int) < 5 by decide) (sm_up (j := 10) (by decide) (by decide))
    generalize m2 / 5 = m3 at *
    rw [List.map_cons, forL_cons, bodyE_ap]
    simp only [ED, List.map_append, List.map_cons, List.map_nil] at e ⊢
    simp [sB, k1, k2, k3, z, -bodyE_ap]
    simp only [sB] at e
    exact e
theorem rg_open (n : Nat) (h : n ≤ 100000) : ∃ R : List Nat, R.length = n ∧ rangeOf [.int (n : Int)] = some (R.map fun k : Nat => PyData.int k) := by
  refine ⟨List.range n, List.length_range, ?_⟩
  have z := sl_big
  rw [range_1, if_pos ⟨by omega, by omega⟩, Int.toNat_natCast]
theorem s_draws {n k : Nat} (hP : P[k]? = some lawDraws) (ns : List Int) (hn : ns.length ≤ 63) : ∃ ds : List Int, cv (callP G P (n + 1) k [.list (ns.map .int)]) = some (.new (.list (ds.map .int))) := by
  rw [callP_s (d := lawDraws) hP rfl]
  obtain ⟨ds1, s2, s3, s4, s5, e1, l1⟩ := c_loop (G := G) (callP G P n) (.list (ns.map .int)) .no ns [] .no .no .no .no (by rw [List.length_nil]; omega)
  obtain ⟨R, hR, r9⟩ := rg_open 900 (by decide)
  have r9 : rangeOf [.int 900] = some (R.map fun k : Nat => PyData.int k) := r9
  rw [List.length_nil] at l1
  have head : ∃ m : Int, exs G (callP G P n) (lawDraws.body.take 4) (startE lawDraws [.list (ns.map .int)]) = .ok .nx (ED (.list (ns.map .int)) ds1 s2 s3 s4 s5 (.fz (.int m))) := by
    simp only [ED, cB1, kB, List.map_nil] at e1
    cases ns with
    | nil =>
      rw [List.map_nil] at e1
      exact ⟨1, by simp [lawDraws, startE, e1, ED, -bodyE_ap, -range_1]⟩
    | cons x xs =>
      have hp : (0 : Int) < (xs.length : Int) + 1 := by omega
      rw [List.map_cons] at e1
      exact ⟨1 + (x.natAbs : Int), by simp [lawDraws, startE, e1, ED, hp, -bodyE_ap, -range_1, -forL_cons]⟩
  obtain ⟨m, hd⟩ := head
  obtain ⟨ds2, m2, s52, e2⟩ := s_loop (G := G) (callP G P n) (.list (ns.map .int)) s2 s3 s4 R ds1 m s5 (by omega)
  refine ⟨ds2.reverse, ?_⟩
  have tl : exs G (callP G P n) (lawDraws.body.drop 4) (ED (.list (ns.map .int)) ds1 s2 s3 s4 s5 (.fz (.int m))) = .ok (.rt (.new (.list (ds2.reverse.map .int)))) (ED (.list (ns.map .int)) ds2 s2 s3 s4 s52 (.fz (.int m2))) := by
    simp only [ED, sB] at e2
    simp [lawDraws, ED, r9, e2, -bodyE_ap, -range_1]
  have st := (exs_next hd).trans tl
  rw [st]
  rfl
end Fw

/-! Fw: are two data alike -/
namespace Fw
open PySem
variable {G : Nat → Option D} {P : List Def}
def lawAlike (k : Nat) : Def := { np := 2, nn := 3, io := false, body := [
  .iff (.or (.isi (.var 1) .list) (.isi (.var 1) .tuple)) [
    .iff (.or (.cmp .ne (.isi (.var 0) .list) (.isi (.var 1) .list)) (.cmp .ne (.isi (.var 0) .tuple) (.isi (.var 1) .tuple))) [
      .ret false (.bl false)] [
],
    .ret false (.and (.cmp .eq (.bi .len [(.var 0)]) (.bi .len [(.var 1)])) (.cmp .eq (.lc (.var 2) (.name 2) (.rng [(.bi .len [(.var 1)])]) (some (.not (.call k [(.ix (.var 0) (.var 2)), (.ix (.var 1) (.var 2))]))) [2]) (.lst [])))] [
],
  .iff (.cmp .is (.var 1) .non) [
    .ret false (.cmp .is (.var 0) .non)] [
],
  .iff (.or (.isi (.var 1) .bool) (.isi (.var 0) .bool)) [
    .ret false (.and (.isi (.var 0) .bool) (.and (.isi (.var 1) .bool) (.cmp .eq (.var 0) (.var 1))))] [
],
  .iff (.isi (.var 1) .int) [
    .ret false (.and (.isi (.var 0) .int) (.cmp .eq (.var 0) (.var 1)))] [
],
  .ret false (.and (.isi (.var 0) .str) (.cmp .eq (.var 0) (.var 1)))] }
/-- data of scalars, lists, tuples, n deep -/
def alD : Nat → D → Bool
  | n + 1, .list xs => decide (xs.length ≤ 100000) && xs.all (alD n)
  | n + 1, .tuple xs => decide (xs.length ≤ 100000) && xs.all (alD n)
  | _, d => isScal d
theorem eqD_bool (b c : Bool) : eqD (.bool b) (.bool c) = some (b == c) := by
  cases b <;> cases c <;> rfl
theorem eqD_str (x : Str) : eqD (.str x) (.str x) = some true := by
  refine eqD_self rfl ?_
  rw [PyData.plain]
  all_goals first | rfl | (intros; contradiction)
theorem rng_all (f : CE) (xs : List D) (hz : xs.length ≤ 100000) (k : Nat) (r0 : D) (hr : seqOf r0 = some xs) (hix : ∀ i : Nat, i < xs.length → ixD r0 (.int i) = xs[i]?) (h : ∀ x ∈ xs, ∀ r, getCall f k [.val x, .val x] [x, x] r = .ok (.val (.bool true)) r) : ∃ r', lcFix (turnE G f (.var 2) (.name 2) (some (.not (.call k [(.ix (.var 0) (.var 2)), (.ix (.var 1) (.var 2))]))) [2]) ((List.range xs.length).map fun i : Nat => .int i) [] [.fz r0, .fz r0, .no] = .ok [] r' ∧ wipe [2] r' = [.fz r0, .fz r0, .no] := by
  obtain ⟨r', e, w⟩ := lc_mapF (G := G) (f := f) (elt := .var 2) (tg := .name 2) (c := some (.not (.call k [(.ix (.var 0) (.var 2)), (.ix (.var 1) (.var 2))]))) (own := [2]) (acc := []) (inj := fun i : Nat => PyData.int i) (xs := List.range xs.length) (r := [.fz r0, .fz r0, .no]) (fun _ => none) (fun i hi => by
    have hi := List.mem_range.mp hi
    have e1 := hix i hi
    rw [List.getElem?_eq_getElem hi] at e1
    have e2 := h xs[i] (List.getElem_mem hi)
    exact ⟨[.fz r0, .fz r0, .fz (.int i)], by simp [e1, e2, -getCall_P, -ix_l, -ix_t], by simp⟩)
  have fn : ∀ xs : List Nat, xs.filterMap (fun _ => (none : Option D)) = [] := by
    intro xs
    induction xs <;> simp_all
  rw [fn] at e
  exact ⟨r', e, by simpa using w⟩
theorem s_alike {k : Nat} (hP : P[k]? = some (lawAlike k)) : ∀ (m n : Nat) (d : D), alD m d = true → cv (callP G P (n + m + 1) k [d, d]) = some (.val (.bool true)) := by
  intro m
  induction m with
  | zero =>
    intro n d hd
    rw [callP_s (d := lawAlike k) hP rfl]
    cases d <;> simp [alD, isScal] at hd <;> simp [lawAlike, startE, isiD, eqD_bool, eqD_str]
  | succ m ih =>
    intro n d hd
    rw [callP_s (d := lawAlike k) hP rfl]
    have go : ∀ (xs : List D), xs.all (alD m) = true → ∀ x ∈ xs, ∀ r, getCall (callP G P (n + m + 1)) k [.val x, .val x] [x, x] r = .ok (.val (.bool true)) r := fun xs h x hx r => by
      have := ih n x (List.all_eq_true.mp h x hx)
      rw [getCall_P, this]
      rfl
    cases d with
    | list xs =>
      simp only [alD, Bool.and_eq_true, decide_eq_true_eq] at hd
      obtain ⟨r', e, w⟩ := rng_all (G := G) (callP G P (n + m + 1)) xs hd.1 k (.list xs) rfl (fun i hi => by simp [place_nat, hi]) (go xs hd.2)

      have z := sl_big
      have rg : rangeOf [.int (xs.length : Int)] = some ((List.range xs.length).map fun i : Nat => PyData.int i) := by
        rw [range_1, if_pos ⟨by omega, by omega⟩, Int.toNat_natCast]
      simp only [wipe_cons, wipe_nil] at w
      have e' : n + (m + 1) = n + m + 1 := by omega
      rw [e']
      simp [inOwn_ap, lawAlike, startE, isiD, eqD_bool, rg, -range_1, e, back_wipe (r := r'), w]
    | tuple xs =>
      simp only [alD, Bool.and_eq_true, decide_eq_true_eq] at hd
      obtain ⟨r', e, w⟩ := rng_all (G := G) (callP G P (n + m + 1)) xs hd.1 k (.tuple xs) rfl (fun i hi => by simp [place_nat, hi]) (go xs hd.2)
      have z := sl_big
      have rg : rangeOf [.int (xs.length : Int)] = some ((List.range xs.length).map fun i : Nat => PyData.int i) := by
        rw [range_1, if_pos ⟨by omega, by omega⟩, Int.toNat_natCast]
      simp only [wipe_cons, wipe_nil] at w
      have e' : n + (m + 1) = n + m + 1 := by omega
      rw [e']
      simp [inOwn_ap, lawAlike, startE, isiD, eqD_bool, rg, -range_1, e, back_wipe (r := r'), w]
    | dict _ => simp [alD, isScal] at hd
    | _ => simp [lawAlike, startE, isiD, eqD_bool, eqD_str]
end Fw

/-! Fw: rows of integers, put in order, told apart -/
namespace Fw
open PySem
theorem alike_is (is : List Int) : alikeL (is.map .int) = true := by
  unfold alikeL
  rw [List.all_map, List.all_eq_true]
  intro j _
  simp only [Function.comp_apply, List.all_map, Bool.and_eq_true, List.all_eq_true]
  exact ⟨rfl, fun k _ => rfl⟩
theorem none_is (is : List Int) : noneAny (is.map .int) = false := by
  unfold noneAny
  rw [List.any_map, List.any_eq_false]
  intro j _
  simp
theorem leB_int (a b : Int) : leB (.int a) (.int b) = decide (a ≤ b) := by
  unfold leB
  rw [PySem.W.dataLt_int]
  rw [Bool.eq_iff_iff]
  simp
theorem sortL_is (is : List Int) : sortL (is.map .int) = some ((is.mergeSort fun a b => decide (a ≤ b)).map .int) := by
  unfold sortL
  rw [alike_is, none_is, if_pos, ← List.map_mergeSort (r := fun a b => decide (a ≤ b)) (s := leB) (f := PyData.int) (fun a _ b _ => (leB_int a b).symm)]
  rw [Bool.true_and, Bool.not_false, Bool.true_and, Bool.not_eq_true', List.any_map, List.any_eq_false]
  intro j _
  simp
theorem bi_sorted_t (is : List Int) : biD .sorted [.tuple (is.map .int)] = some (.new (.list ((is.mergeSort fun a b => decide (a ≤ b)).map .int))) := by
  show ((some (is.map PyData.int)).bind fun xs => (sortL xs).map fun ys => Rv.new (.list ys)) = _
  rw [Option.bind_some, sortL_is]
  rfl
theorem bi_sorted_l (is : List Int) : biD .sorted [.list (is.map .int)] = some (.new (.list ((is.mergeSort fun a b => decide (a ≤ b)).map .int))) := by
  show ((some (is.map PyData.int)).bind fun xs => (sortL xs).map fun ys => Rv.new (.list ys)) = _
  rw [Option.bind_some, sortL_is]
  rfl
theorem eqvAll_is : ∀ (a b : List Int), PyData.eqvAll (a.map .int) (b.map .int) = decide (a = b)
  | [], [] => rfl
  | [], _ :: _ => rfl
  | _ :: _, [] => rfl
  | x :: a, y :: b => by
    rw [List.map_cons, List.map_cons, PyData.eqvAll, eqvAll_is a b, Bool.eq_iff_iff]
    have : PyData.eqv (.int x) (.int y) = decide (x = y) := rfl
    simp [this]
theorem ok_is (n : Nat) (a : List Int) : (a.map PyData.int).all (okN n) = true := by
  rw [List.all_map, List.all_eq_true]
  intro i _
  cases n <;> rfl
theorem eqD_li (a b : List Int) : eqD (.list (a.map .int)) (.list (b.map .int)) = some (decide (a = b)) := by
  unfold eqD
  rw [okN_list, okN_list, ok_is, ok_is, ← eqvAll_is]
  simp [PyData.eqv]
theorem eqD_ti (a b : List Int) : eqD (.tuple (a.map .int)) (.tuple (b.map .int)) = some (decide (a = b)) := by
  unfold eqD
  rw [okN_tup, okN_tup, ok_is, ok_is, ← eqvAll_is]
  simp [PyData.eqv]
/-- two rows are the same in order just if one is the other in some order -/
theorem sort_eq (a b : List Int) (h : b.Pairwise (· ≤ ·)) : (a.mergeSort (fun x y => decide (x ≤ y)) = b) ↔ a.Perm b := by
  constructor
  · rintro rfl
    exact (List.mergeSort_perm _ _).symm
  · intro p
    have s := List.pairwise_mergeSort (le := fun x y : Int => decide (x ≤ y)) (fun a b c h1 h2 => by simp at *; omega) (fun a b => by simp; omega) a
    refine List.Perm.eq_of_pairwise (le := fun x y : Int => x ≤ y) (fun a b _ _ h1 h2 => by omega) ?_ h ((List.mergeSort_perm _ _).trans p)
    exact s.imp (by simp)
@[simp] theorem bi_int_b (b : Bool) : biD .int [.bool b] = some (.val (.int (if b then 1 else 0))) := rfl
@[simp] theorem cut_but1 (xs : List D) : cutL xs none (some (-1)) = xs.dropLast := by
  unfold cutL
  have h : HT.sIx xs.length xs.length (some (-1)) = xs.length - 1 := by
    show (if (-1 : Int) < 0 then ((-1 : Int) + (xs.length : Int)).toNat else min (-1 : Int).toNat xs.length) = _
    rw [if_pos (by decide)]
    omega
  rw [HT.sIx_none, h, List.dropLast_eq_take]
  rfl
@[simp] theorem cut_from1 (xs : List D) : cutL xs (some 1) none = xs.drop 1 := by
  unfold cutL
  rw [HT.sIx_none, show (some 1 : Option Int) = some ((1 : Nat) : Int) from rfl, HT.sIx_nat, List.take_of_length_le (by rw [List.length_drop]; omega)]
  cases xs with
  | nil => rfl
  | cons x xs =>
    rw [Nat.min_eq_left (by rw [List.length_cons]; omega)]
/-- the row of nought to m less one -/
def rowTo (m : Nat) : List Int := (List.range m).map fun k : Nat => (k : Int)
theorem rowTo_inc (m : Nat) : (rowTo m).Pairwise (· ≤ ·) := by
  unfold rowTo
  rw [List.pairwise_map]
  exact List.pairwise_lt_range.imp (by omega)
theorem rowTo_nodup (m : Nat) : (rowTo m).Nodup := by
  unfold rowTo List.Nodup
  rw [List.pairwise_map]
  exact List.pairwise_lt_range.imp (by omega)
theorem rowTo_map (m : Nat) : (List.range m).map (fun k : Nat => PyData.int k) = (rowTo m).map .int := by
  unfold rowTo
  rw [List.map_map]
  rfl
end Fw

/-! Fw: what holds behind a run, step by step -/
namespace Fw
open PySem
def Ho {α : Type} (x : Res α) (Q : Res α → Prop) : Prop := Q x
section
variable {α β : Type} {Q : Res α → Prop}
@[simp] theorem ho_ok (a : α) (r : Env) : Ho (.ok a r) Q = Q (.ok a r) := rfl
@[simp] theorem ho_ex (c : Nat) (r : Env) : Ho (.ex c r) Q = Q (.ex c r) := rfl
@[simp] theorem ho_no : Ho .no Q = Q .no := rfl
theorem ho_mono {x : Res α} {Q' : Res α → Prop} (h : Ho x Q) (f : ∀ y, Q y → Q' y) : Ho x Q' := f _ h
def bdQ (k : α → M β) (Q : Res β → Prop) (y : Res α) : Prop := Ho (y.bd k) Q
@[simp] theorem ho_bd (x : Res α) (k : α → M β) (Q : Res β → Prop) : Ho (x.bd k) Q = Ho x (bdQ k Q) := rfl
@[simp] theorem bdQ_ok (k : α → M β) (Q : Res β → Prop) (a : α) (r : Env) : bdQ k Q (.ok a r) = Ho (k a r) Q := rfl
@[simp] theorem bdQ_ex (k : α → M β) (Q : Res β → Prop) (c : Nat) (r : Env) : bdQ k Q (.ex c r) = Q (.ex c r) := rfl
@[simp] theorem bdQ_no (k : α → M β) (Q : Res β → Prop) : bdQ k Q .no = Q .no := rfl
theorem ho_ite (c : Prop) [Decidable c] (x y : Res α) : Ho (if c then x else y) Q = if c then Ho x Q else Ho y Q := by split <;> rfl
end
section
variable {G : Nat → Option D} {f : CE} {r : Env} {Q : Res Out → Prop}
/-- behind a statement: the rest -/
def nxQ (G : Nat → Option D) (f : CE) (ss : List S) (Q : Res Out → Prop) : Res Out → Prop
  | .ok .nx r => Ho (exs G f ss r) Q
  | y => Q y
@[simp] theorem nxQ_nx (ss : List S) (r : Env) : nxQ G f ss Q (.ok .nx r) = Ho (exs G f ss r) Q := rfl
@[simp] theorem nxQ_bk (ss : List S) (r : Env) : nxQ G f ss Q (.ok .bk r) = Q (.ok .bk r) := rfl
@[simp] theorem nxQ_ct (ss : List S) (r : Env) : nxQ G f ss Q (.ok .ct r) = Q (.ok .ct r) := rfl
@[simp] theorem nxQ_rt (ss : List S) (v : Rv) (r : Env) : nxQ G f ss Q (.ok (.rt v) r) = Q (.ok (.rt v) r) := rfl
@[simp] theorem nxQ_ex (ss : List S) (c : Nat) (r : Env) : nxQ G f ss Q (.ex c r) = Q (.ex c r) := rfl
@[simp] theorem nxQ_no (ss : List S) : nxQ G f ss Q .no = Q .no := rfl
theorem ho_st {s : S} {ss : List S} (h : Ho (ex G f s r) (nxQ G f ss Q)) : Ho (exs G f (s :: ss) r) Q := by
  show Q ((ex G f s r).bd (thenE G f ss))
  have h : nxQ G f ss Q (ex G f s r) := h
  revert h
  cases ex G f s r with
  | no => exact id
  | ex c r => exact id
  | ok o r => cases o <;> exact id
/-- the statements from a number on -/
def rest (d : Def) (k : Nat) : List S := d.body.drop k
theorem ho_at {d : Def} {k : Nat} {s : S} (hs : rest d k = s :: rest d (k + 1)) (h : Ho (ex G f s r) (nxQ G f (rest d (k + 1)) Q)) : Ho (exs G f (rest d k) r) Q := by
  rw [hs]
  exact ho_st h
theorem ho_b (d : Def) {s : S} (hs : d.body = s :: rest d 1) (h : Ho (ex G f s r) (nxQ G f (rest d 1) Q)) : Ho (exs G f d.body r) Q := by
  rw [hs]
  exact ho_st h
/-- a list of statements from a number on -/
def restL (L : List S) (k : Nat) : List S := L.drop k
theorem ho_lb (L : List S) {s : S} (hs : L = s :: restL L 1) (h : Ho (ex G f s r) (nxQ G f (restL L 1) Q)) : Ho (exs G f L r) Q := by
  rw [hs]
  exact ho_st h
theorem ho_la {L : List S} {k : Nat} {s : S} (hs : restL L k = s :: restL L (k + 1)) (h : Ho (ex G f s r) (nxQ G f (restL L (k + 1)) Q)) : Ho (exs G f (restL L k) r) Q := by
  rw [hs]
  exact ho_st h
theorem nxQ_nil (y : Res Out) (h : Q y) : nxQ G f [] Q y := by
  cases y with
  | no => exact h
  | ex c r => exact h
  | ok o r => cases o <;> exact h
/-- the last statement -/
theorem ho_le {L : List S} {k : Nat} {s : S} (hs : restL L k = [s]) (h : Ho (ex G f s r) Q) : Ho (exs G f (restL L k) r) Q := by
  rw [hs]
  exact ho_st (nxQ_nil _ h)
/-- what a turn of a loop leads to -/
def loopQ (J : Env → Prop) (Q : Res Out → Prop) : Res Out → Prop
  | .ok .nx r => J r
  | .ok .ct r => J r
  | .ok .bk r => Q (.ok .nx r)
  | .ok (.rt v) r => Q (.ok (.rt v) r)
  | .ex c r => Q (.ex c r)
  | .no => False
variable {J : Env → Prop}
@[simp] theorem loopQ_nx (r : Env) : loopQ J Q (.ok .nx r) = J r := rfl
@[simp] theorem loopQ_ct (r : Env) : loopQ J Q (.ok .ct r) = J r := rfl
@[simp] theorem loopQ_bk (r : Env) : loopQ J Q (.ok .bk r) = Q (.ok .nx r) := rfl
@[simp] theorem loopQ_rt (v : Rv) (r : Env) : loopQ J Q (.ok (.rt v) r) = Q (.ok (.rt v) r) := rfl
@[simp] theorem loopQ_ex (c : Nat) (r : Env) : loopQ J Q (.ex c r) = Q (.ex c r) := rfl
@[simp] theorem loopQ_no : loopQ J Q .no = False := rfl
theorem loop_next {x : Res Out} {m : M Out} (h : loopQ (fun r => Ho (m r) Q) Q x) : Ho (x.bd (afterL m)) Q := by
  cases x with
  | no => exact h.elim
  | ex c r => exact h
  | ok o r => cases o <;> exact h
theorem loopQ_mono {J' : Env → Prop} {x : Res Out} (h : loopQ J Q x) (k : ∀ r, J r → J' r) : loopQ J' Q x := by
  cases x with
  | no => exact h.elim
  | ex c r => exact h
  | ok o r => cases o <;> first | exact k _ h | exact h
theorem ho_forF {α : Type} {body : D → M Out} {inj : α → D} (I : List α → Env → Prop) : ∀ {xs pre : List α} {r : Env}, (∀ p x q r, pre ++ xs = p ++ x :: q → I p r → Ho (body (inj x) r) (loopQ (I (p ++ [x])) Q)) → I pre r → (∀ r', I (pre ++ xs) r' → Q (.ok .nx r')) → Ho (forL body (xs.map inj) r) Q
  | [], pre, r, _, h, hQ => hQ r (by rw [List.append_nil]; exact h)
  | x :: xs, pre, r, st, h, hQ => by
    rw [List.map_cons, forL_cons]
    refine loop_next (loopQ_mono (st pre x xs r rfl h) fun r' h' => ?_)
    exact ho_forF I (xs := xs) (pre := pre ++ [x]) (by simpa using st) h' (by simpa using hQ)
theorem ho_for {α : Type} {body : D → M Out} {inj : α → D} {xs : List α} {ds : List D} (I : List α → Env → Prop) (hds : ds = xs.map inj) (h0 : I [] r) (st : ∀ p x q r, xs = p ++ x :: q → I p r → Ho (body (inj x) r) (loopQ (I (p ++ [x])) Q)) (hQ : ∀ r', I xs r' → Q (.ok .nx r')) : Ho (forL body ds r) Q := by
  subst hds
  exact ho_forF I (pre := []) st h0 hQ
theorem ho_forRF {α : Type} {body : D → M Out} {inj : α → D} {i : Nat} {xs : List α} (I : List α → Env → Prop) (hd : ∀ p r, I p r → dataAt r i = some (.list (xs.map inj))) (st : ∀ p x q r, xs = p ++ x :: q → I p r → Ho (body (inj x) r) (loopQ (I (p ++ [x])) Q)) (hQ : ∀ r', I xs r' → Q (.ok .nx r')) : ∀ {n k : Nat} {r : Env}, k ≤ xs.length → xs.length < n + k → I (xs.take k) r → Ho (forRL body i n k r) Q
  | 0, k, r, hk, hn, h => by omega
  | n + 1, k, r, hk, hn, h => by
    by_cases hk2 : k < xs.length
    · have e0 : (xs.map inj)[k]? = some (inj xs[k]) := by rw [List.getElem?_map, List.getElem?_eq_getElem hk2]; rfl
      have es : xs = xs.take k ++ xs[k] :: xs.drop (k + 1) := by rw [← List.drop_eq_getElem_cons hk2, List.take_append_drop]
      have h1 := st _ _ _ _ es h
      rw [← List.take_succ_eq_append_getElem hk2] at h1
      rw [forRL_some (hd _ _ h) e0]
      exact loop_next (loopQ_mono h1 fun r' h' => ho_forRF I hd st hQ (by omega) (by omega) h')
    · have e0 : (xs.map inj)[k]? = none := by rw [List.getElem?_eq_none]; simp; omega
      rw [List.take_of_length_le (by omega)] at h
      rw [forRL_none (hd _ _ h) e0]
      exact hQ _ h
theorem ho_forR {α : Type} {body : D → M Out} {inj : α → D} {i : Nat} {xs : List α} (I : List α → Env → Prop) (hz : xs.length ≤ 1000000) (hd : ∀ p r, I p r → dataAt r i = some (.list (xs.map inj))) (h0 : I [] r) (st : ∀ p x q r, xs = p ++ x :: q → I p r → Ho (body (inj x) r) (loopQ (I (p ++ [x])) Q)) (hQ : ∀ r', I xs r' → Q (.ok .nx r')) : Ho (forRL body i FUEL 0 r) Q :=
  ho_forRF I hd st hQ (Nat.zero_le _) (Nat.lt_of_le_of_lt hz (by decide)) h0
/-- behind a loop's test -/
def whQ (body : M Out) (J : Env → Prop) (Q : Res Out → Prop) : Res Bool → Prop
  | .ok t r => if t = true then Ho (body r) (loopQ J Q) else Q (.ok .nx r)
  | .ex c r => Q (.ex c r)
  | .no => False
@[simp] theorem whQ_ok (body : M Out) (t : Bool) (r : Env) : whQ body J Q (.ok t r) = if t = true then Ho (body r) (loopQ J Q) else Q (.ok .nx r) := rfl
@[simp] theorem whQ_no (body : M Out) : whQ body J Q .no = False := rfl
theorem ho_whF {c : M Bool} {body : M Out} (I : Nat → Env → Prop) (st : ∀ n r, I n r → Ho (c r) (whQ body (fun r' => ∃ m, m < n ∧ I m r') Q)) : ∀ {N n : Nat} {r : Env}, n < N → I n r → Ho (whileL c body N r) Q
  | 0, n, r, hn, h => by omega
  | N + 1, n, r, hn, h => by
    have h1 : whQ body (fun r' => ∃ m, m < n ∧ I m r') Q (c r) := st n r h
    rw [whileL_ap]
    revert h1
    cases c r with
    | no => exact False.elim
    | ex c r => exact id
    | ok t r' =>
      intro h1
      rw [whQ_ok] at h1
      cases t with
      | false => exact h1
      | true =>
        rw [if_pos rfl] at h1
        show Ho ((body r').bd (afterL (whileL c body N))) Q
        exact loop_next (loopQ_mono h1 fun r2 ⟨m, hm, h2⟩ => ho_whF I st (by omega) h2)
theorem ho_while {c : M Bool} {body : M Out} (I : Nat → Env → Prop) (n : Nat) (hn : n ≤ 1000000) (h0 : I n r) (st : ∀ n r, I n r → Ho (c r) (whQ body (fun r' => ∃ m, m < n ∧ I m r') Q)) : Ho (whileL c body FUEL r) Q :=
  ho_whF I st (Nat.lt_of_le_of_lt hn (by decide)) h0
end
section
variable {G : Nat → Option D} {f : CE} {r : Env} {Q : Res Op → Prop} {elt : E} {tg : Tg} {c : Option E} {own : List Nat}
/-- behind a comprehension's turn that leaves the rest as it is -/
def endT (own : List Nat) (r : Env) (o : Option D) : Res (Option D) → Prop
  | .ok o' r' => o' = o ∧ wipe own r' = wipe own r
  | _ => False
@[simp] theorem endT_ok (o o' : Option D) (r r' : Env) : endT own r o (.ok o' r') = (o' = o ∧ wipe own r' = wipe own r) := rfl
@[simp] theorem endT_ex (o : Option D) (c : Nat) (r r' : Env) : endT own r o (.ex c r') = False := rfl
@[simp] theorem endT_no (o : Option D) (r : Env) : endT own r o .no = False := rfl
def Turn (G : Nat → Option D) (f : CE) (elt : E) (tg : Tg) (c : Option E) (own : List Nat) (d : D) (r : Env) (o : Option D) : Prop := Ho (turnE G f elt tg c own d (wipe own r)) (endT own r o)
theorem Turn.ex {d : D} {o : Option D} (h : Turn G f elt tg c own d r o) : ∃ r', turnE G f elt tg c own d (wipe own r) = .ok o r' ∧ wipe own r' = wipe own r := by
  have h : endT own r o (turnE G f elt tg c own d (wipe own r)) := h
  revert h
  cases turnE G f elt tg c own d (wipe own r) with
  | no => exact False.elim
  | ex c r => exact False.elim
  | ok o' r' =>
    intro q
    obtain ⟨q1, q2⟩ := q
    rw [q1]
    exact ⟨_, rfl, q2⟩
theorem inOwn_ok {m : M Op} {a : Op} {r' : Env} (h : m r = .ok a r') (w : wipe own r' = wipe own r) : inOwn own m r = .ok a r := by
  rw [inOwn_ap, h]
  show Res.ok a (back own r r') = _
  rw [back_eq w]
theorem ho_lcF {α : Type} {inj : α → D} {xs : List α} {ds : List D} (g : α → Option D) (hds : ds = xs.map inj) (ht : ∀ x ∈ xs, Turn G f elt tg c own (inj x) r (g x)) (hQ : Q (.ok (.new (.list (xs.filterMap g))) r)) :
    Ho (inOwn own (bd (lcRun (turnE G f elt tg c own) (.fixed ds)) fun ds => ret (.new (.list ds))) r) Q := by
  subst hds
  obtain ⟨r', e, w⟩ := lc_mapF (acc := []) (inj := inj) g fun x hx => (ht x hx).ex
  rw [inOwn_ok (a := .new (.list (xs.filterMap g))) (r' := r') ?_ w]
  · exact hQ
  · rw [bd_ap, lcRun_fixed, e]; rfl
theorem ho_lc {α : Type} {inj : α → D} {xs : List α} {ds : List D} (g : α → D) (hds : ds = xs.map inj) (ht : ∀ x ∈ xs, Turn G f elt tg c own (inj x) r (some (g x))) (hQ : Q (.ok (.new (.list (xs.map g))) r)) :
    Ho (inOwn own (bd (lcRun (turnE G f elt tg c own) (.fixed ds)) fun ds => ret (.new (.list ds))) r) Q := by
  refine ho_lcF (fun x => some (g x)) hds ht ?_
  have e : xs.filterMap (fun x => some (g x)) = xs.map g := by simp
  rw [e]; exact hQ
theorem ho_lcRF {α : Type} {inj : α → D} {xs : List α} {i : Nat} (g : α → Option D) (hd : dataAt r i = some (.list (xs.map inj))) (hi : own.contains i = false) (hn : xs.length < sizeLine) (ht : ∀ x ∈ xs, Turn G f elt tg c own (inj x) r (g x)) (hQ : Q (.ok (.new (.list (xs.filterMap g))) r)) :
    Ho (inOwn own (bd (lcRun (turnE G f elt tg c own) (.byref i)) fun ds => ret (.new (.list ds))) r) Q := by
  obtain ⟨r', e, w⟩ := lcRef_map (inj := inj) g (fun z => by rw [List.contains_iff_mem.mpr z] at hi; cases hi) hd hn fun x hx => (ht x hx).ex
  rw [inOwn_ok (a := .new (.list (xs.filterMap g))) (r' := r') ?_ w]
  · exact hQ
  · rw [bd_ap, lcRun_byref, e]; rfl
theorem ho_lcR {α : Type} {inj : α → D} {xs : List α} {i : Nat} (g : α → D) (hd : dataAt r i = some (.list (xs.map inj))) (hi : own.contains i = false) (hn : xs.length < sizeLine) (ht : ∀ x ∈ xs, Turn G f elt tg c own (inj x) r (some (g x))) (hQ : Q (.ok (.new (.list (xs.map g))) r)) :
    Ho (inOwn own (bd (lcRun (turnE G f elt tg c own) (.byref i)) fun ds => ret (.new (.list ds))) r) Q := by
  refine ho_lcRF (fun x => some (g x)) hd hi hn ht ?_
  have e : xs.filterMap (fun x => some (g x)) = xs.map g := by simp
  rw [e]; exact hQ
theorem filt_none {α : Type} (xs : List α) : xs.filterMap (fun _ => (none : Option D)) = [] := by
  induction xs <;> simp_all
/-- nothing comes through -/
theorem ho_lcR0 {xs : List D} {i : Nat} (hd : dataAt r i = some (.list xs)) (hi : own.contains i = false) (hn : xs.length < sizeLine) (ht : ∀ x ∈ xs, Turn G f elt tg c own x r none) (hQ : Q (.ok (.new (.list [])) r)) :
    Ho (inOwn own (bd (lcRun (turnE G f elt tg c own) (.byref i)) fun ds => ret (.new (.list ds))) r) Q := by
  refine ho_lcRF (inj := id) (xs := xs) (fun _ => none) (by rw [hd, List.map_id]) hi hn ht ?_
  rw [filt_none]; exact hQ
theorem ho_lc0 {xs : List D} (ht : ∀ x ∈ xs, Turn G f elt tg c own x r none) (hQ : Q (.ok (.new (.list [])) r)) :
    Ho (inOwn own (bd (lcRun (turnE G f elt tg c own) (.fixed xs)) fun ds => ret (.new (.list ds))) r) Q := by
  refine ho_lcF (inj := id) (xs := xs) (fun _ => none) (by rw [List.map_id]) ht ?_
  rw [filt_none]; exact hQ
def accQ (J : List D → Env → Prop) (a : List D) : Res (Option D) → Prop
  | .ok o r => J (a ++ o.toList) r
  | _ => False
@[simp] theorem accQ_ok (J : List D → Env → Prop) (a : List D) (o : Option D) (r : Env) : accQ J a (.ok o r) = J (a ++ o.toList) r := rfl
@[simp] theorem accQ_no (J : List D → Env → Prop) (a : List D) : accQ J a .no = False := rfl
@[simp] theorem accQ_ex (J : List D → Env → Prop) (a : List D) (c : Nat) (r : Env) : accQ J a (.ex c r) = False := rfl
theorem lc_accF {α : Type} {turn : D → M (Option D)} {inj : α → D} (I : List α → List D → Env → Prop) : ∀ {xs pre : List α} {acc : List D} {r : Env}, (∀ p x q a r, pre ++ xs = p ++ x :: q → I p a r → Ho (turn (inj x) r) (accQ (I (p ++ [x])) a)) → I pre acc r → ∃ acc' r', lcFix turn (xs.map inj) acc r = .ok acc' r' ∧ I (pre ++ xs) acc' r'
  | [], pre, acc, r, _, h => ⟨acc, r, rfl, by rw [List.append_nil]; exact h⟩
  | x :: xs, pre, acc, r, st, h => by
    have h1 : accQ (I (pre ++ [x])) acc (turn (inj x) r) := st pre x xs acc r rfl h
    rw [List.map_cons, lcFix_cons]
    revert h1
    cases e : turn (inj x) r with
    | no => exact False.elim
    | ex c r => exact False.elim
    | ok o r' =>
      intro h1
      obtain ⟨acc2, r2, e2, h2⟩ := lc_accF I (xs := xs) (pre := pre ++ [x]) (by simpa using st) h1
      refine ⟨acc2, r2, ?_, by simpa using h2⟩
      rw [bd_ok]
      cases o with
      | none => rw [Option.toList_none, List.append_nil] at e2; exact e2
      | some d => exact e2
/-- a comprehension whose turns change something -/
theorem ho_lcI {α : Type} {inj : α → D} {xs : List α} {ds : List D} (I : List α → List D → Env → Prop) (hds : ds = xs.map inj) (h0 : I [] [] r) (st : ∀ p x q a r, xs = p ++ x :: q → I p a r → Ho (turnE G f elt tg c own (inj x) r) (accQ (I (p ++ [x])) a)) (hQ : ∀ a r', I xs a r' → Q (.ok (.new (.list a)) (back own r r'))) :
    Ho (inOwn own (bd (lcRun (turnE G f elt tg c own) (.fixed ds)) fun ds => ret (.new (.list ds))) r) Q := by
  subst hds
  obtain ⟨a, r', e, h⟩ := lc_accF (turn := turnE G f elt tg c own) I (pre := []) st h0
  show Q (inOwn own _ r)
  rw [inOwn_ap, bd_ap, lcRun_fixed, e]
  exact hQ a r' h
theorem ho_quick {α : Type} {inj : α → D} {xs : List α} {ds : List D} (b : Bool) (g : α → Bool) (hds : ds = xs.map inj) (ht : ∀ x ∈ xs, Turn G f elt tg c own (inj x) r (some (.bool (g x)))) (hQ : Q (.ok (.val (.bool (if b then xs.any g else xs.all g))) r)) :
    Ho (inOwn own (genRun (if b then .any else .all) (turnE G f elt tg c own) (.fixed ds)) r) Q := by
  subst hds
  obtain ⟨r', e, w⟩ := quick_map (b := b) (inj := inj) g fun x hx => (ht x hx).ex
  rw [inOwn_ok (a := .val (.bool (if b then xs.any g else xs.all g))) (r' := r') ?_ w]
  · exact hQ
  · cases b
    · show (quickRun false _ (.fixed (xs.map inj)) r).bd _ = _
      rw [quickRun_fixed, e]; rfl
    · show (quickRun true _ (.fixed (xs.map inj)) r).bd _ = _
      rw [quickRun_fixed, e]; rfl
theorem ho_all {α : Type} {inj : α → D} {xs : List α} {ds : List D} (g : α → Bool) (hds : ds = xs.map inj) (ht : ∀ x ∈ xs, Turn G f elt tg c own (inj x) r (some (.bool (g x)))) (hQ : Q (.ok (.val (.bool (xs.all g))) r)) :
    Ho (inOwn own (genRun .all (turnE G f elt tg c own) (.fixed ds)) r) Q := ho_quick false g hds ht hQ
theorem ho_any {α : Type} {inj : α → D} {xs : List α} {ds : List D} (g : α → Bool) (hds : ds = xs.map inj) (ht : ∀ x ∈ xs, Turn G f elt tg c own (inj x) r (some (.bool (g x)))) (hQ : Q (.ok (.val (.bool (xs.any g))) r)) :
    Ho (inOwn own (genRun .any (turnE G f elt tg c own) (.fixed ds)) r) Q := ho_quick true g hds ht hQ
/-- sum, max, min, tuple of a generator's items -/
theorem ho_gen {α : Type} {inj : α → D} {xs : List α} {ds : List D} {gc : Gc} {v : Rv} (hgc : gc ≠ .all ∧ gc ≠ .any) (g : α → D) (hds : ds = xs.map inj) (ht : ∀ x ∈ xs, Turn G f elt tg c own (inj x) r (some (g x))) (hv : genFin gc (xs.map g) = some v) (hQ : Q (.ok v.op r)) :
    Ho (inOwn own (genRun gc (turnE G f elt tg c own) (.fixed ds)) r) Q := by
  subst hds
  obtain ⟨r', e, w⟩ := lc_map (inj := inj) g fun x hx => (ht x hx).ex
  rw [inOwn_ok (a := v.op) (r' := r') ?_ w]
  · exact hQ
  · cases gc <;> first | exact absurd rfl hgc.1 | exact absurd rfl hgc.2 | (show (lcRun _ (.fixed (xs.map inj)) r).bd _ = _; rw [lcRun_fixed, e, bd_ok, bd_ap, hv]; rfl)
end
/-! ### calls -/
section
variable {G : Nat → Option D} {P : List Def} {n k : Nat} {ds : List D} {d : Def}
theorem cv_ho {v : Rv} (hP : P[k]? = some d) (hl : ds.length = d.np) (h : Ho (exs G (callP G P n) d.body (startE d ds)) fun y => cv (outP d.io y) = some v) : cv (callP G P (n + 1) k ds) = some v := by
  rw [callP_s hP hl]; exact h
theorem cx_ho {c : Nat} (hP : P[k]? = some d) (hl : ds.length = d.np) (h : Ho (exs G (callP G P n) d.body (startE d ds)) fun y => cv (outP d.io y) = none ∧ cx (outP d.io y) = some c) : cv (callP G P (n + 1) k ds) = none ∧ cx (callP G P (n + 1) k ds) = some c := by
  rw [callP_s hP hl]; exact h
theorem cw_ho {R : Rv × D → Prop} (hP : P[k]? = some d) (hl : ds.length = d.np) (h : Ho (exs G (callP G P n) d.body (startE d ds)) fun y => ∃ v, cw (outP d.io y) = some v ∧ R v) : ∃ v, cw (callP G P (n + 1) k ds) = some v ∧ R v := by
  rw [callP_s hP hl]; exact h
theorem call_ho {v : Rv} (hP : P[k]? = some d) (hl : ds.length = d.np) (h : Ho (exs G (callP G P n) d.body (startE d ds)) fun y => ∃ e, outP d.io y = .ret v e) : ∃ e, callP G P (n + 1) k ds = .ret v e := by
  rw [callP_s hP hl]; exact h
end
end Fw

/-! Fw: more that laws have in common -/
namespace Fw
open PySem
variable {G : Nat → Option D} {P : List Def}
def lawSame (k : Nat) : Def := { np := 2, nn := 3, io := false, body := [
  .iff (.or (.cmp .is (.var 1) .non) (.cmp .is (.var 0) .non)) [
    .ret false (.and (.cmp .is (.var 1) .non) (.cmp .is (.var 0) .non))] [
],
  .iff (.or (.isi (.var 1) .tuple) (.isi (.var 1) .list)) [
    .iff (.or (.cmp .ne (.isi (.var 1) .tuple) (.isi (.var 0) .tuple)) (.cmp .ne (.isi (.var 1) .list) (.isi (.var 0) .list))) [
      .ret false (.bl false)] [
],
    .iff (.cmp .ne (.bi .len [(.var 0)]) (.bi .len [(.var 1)])) [
      .ret false (.bl false)] [
],
    .forS (.name 2) (.rng [(.bi .len [(.var 1)])]) [
      .iff (.not (.call k [(.ix (.var 0) (.var 2)), (.ix (.var 1) (.var 2))])) [
        .ret false (.bl false)] [
]],
    .ret false (.bl true)] [
],
  .iff (.cmp .ne (.isi (.var 1) .bool) (.isi (.var 0) .bool)) [
    .ret false (.bl false)] [
],
  .iff (.or (.cmp .ne (.isi (.var 1) .int) (.isi (.var 0) .int)) (.cmp .ne (.isi (.var 1) .str) (.isi (.var 0) .str))) [
    .ret false (.bl false)] [
],
  .ret false (.cmp .eq (.var 0) (.var 1))] }
theorem rg_int {n : Nat} (h : n ≤ 1000000) : rangeOf [.int (n : Int)] = some ((List.range n).map fun k : Nat => PyData.int k) := by
  have z := sl_big
  rw [range_1, if_pos ⟨by omega, by omega⟩, Int.toNat_natCast]
theorem s_same {k : Nat} (hP : P[k]? = some (lawSame k)) : ∀ (m n : Nat) (d : D), alD m d = true → cv (callP G P (n + m + 1) k [d, d]) = some (.val (.bool true)) := by
  intro m
  induction m with
  | zero =>
    intro n d hd
    refine cv_ho hP rfl ?_
    cases d <;> simp [alD, isScal] at hd <;> simp [lawSame, startE, isiD, eqD_bool, eqD_str]
  | succ m ih =>
    intro n d hd
    have e' : n + (m + 1) = n + m + 1 := by omega
    rw [e']
    refine cv_ho hP rfl ?_
    cases d with
    | list xs =>
      simp only [alD, Bool.and_eq_true, decide_eq_true_eq] at hd
      have rg := rg_int (n := xs.length) (by omega)
      simp [lawSame, startE, isiD, rg, eqD_bool, -range_1]
      refine ho_for (fun _ r => ∃ s, r = [.fz (.list xs), .fz (.list xs), s]) rfl ⟨_, rfl⟩ (fun p x q r hx hr => ?_) (fun r hr => ?_)
      · obtain ⟨s, rfl⟩ := hr
        have hxl : x < xs.length := by
          have : x ∈ List.range xs.length := by rw [hx]; simp
          simpa using this
        have := ih n xs[x] (List.all_eq_true.mp hd.2 _ (List.getElem_mem hxl))
        simp [place_nat, hxl, this]
      · obtain ⟨s, rfl⟩ := hr
        simp
    | tuple xs =>
      simp only [alD, Bool.and_eq_true, decide_eq_true_eq] at hd
      have rg := rg_int (n := xs.length) (by omega)
      simp [lawSame, startE, isiD, rg, eqD_bool, -range_1]
      refine ho_for (fun _ r => ∃ s, r = [.fz (.tuple xs), .fz (.tuple xs), s]) rfl ⟨_, rfl⟩ (fun p x q r hx hr => ?_) (fun r hr => ?_)
      · obtain ⟨s, rfl⟩ := hr
        have hxl : x < xs.length := by
          have : x ∈ List.range xs.length := by rw [hx]; simp
          simpa using this
        have := ih n xs[x] (List.all_eq_true.mp hd.2 _ (List.getElem_mem hxl))
        simp [place_nat, hxl, this]
      · obtain ⟨s, rfl⟩ := hr
        simp
    | dict _ => simp [alD, isScal] at hd
    | _ => simp [lawSame, startE, isiD, eqD_bool, eqD_str]
/-- an item of a row, by an integer -/
def nth (hs : List Int) (j : Int) : Int := hs.getD j.toNat 0
theorem nth_n (hs : List Int) (i : Nat) : nth hs i = hs.getD i 0 := rfl
theorem nth_p (hs : List Int) (i : Nat) (a : Int) : nth (a :: hs) ((i : Int) + 1) = nth hs i := rfl
theorem place_in {j : Int} {n : Nat} (h0 : 0 ≤ j) (h : j < n) : place j n = some j.toNat := by
  have := place_nat j.toNat n
  rw [Int.toNat_of_nonneg h0] at this
  rw [this, if_pos (by omega)]
theorem ix_ti (hs : List Int) {j : Int} (h0 : 0 ≤ j) (h : j < hs.length) : ixD (.tuple (hs.map .int)) (.int j) = some (.int (nth hs j)) := by
  rw [ix_t, place_in h0 (by simpa using h), Option.bind_some, List.getElem?_map, List.getElem?_eq_getElem (by omega)]
  unfold nth
  rw [List.getD_eq_getElem?_getD, List.getElem?_eq_getElem (by omega)]
  rfl
theorem ix_li (hs : List Int) {j : Int} (h0 : 0 ≤ j) (h : j < hs.length) : ixD (.list (hs.map .int)) (.int j) = some (.int (nth hs j)) := by
  rw [ix_l, place_in h0 (by simpa using h), Option.bind_some, List.getElem?_map, List.getElem?_eq_getElem (by omega)]
  unfold nth
  rw [List.getD_eq_getElem?_getD, List.getElem?_eq_getElem (by omega)]
  rfl
theorem place_last {n : Nat} (h : 0 < n) : place (-1) n = some (n - 1) := by
  unfold place L2.ixN
  rw [if_neg (by decide), if_pos (by omega)]
  congr 1
  omega
theorem ix_tlast (hs : List Int) (h : hs ≠ []) : ixD (.tuple (hs.map .int)) (.int (-1)) = some (.int (hs.getLast h)) := by
  have hl : 0 < hs.length := List.length_pos_iff.mpr h
  rw [ix_t, place_last (by simpa using hl), Option.bind_some, List.getElem?_map, List.length_map, ← List.getLast?_eq_getElem?, List.getLast?_eq_some_getLast h]
  rfl
theorem fin_sum {α : Type} (xs : List α) (g : α → Int) : genFin .sum (xs.map fun x => .int (g x)) = some (.val (.int (xs.map g).sum)) := bi_sum xs g
theorem rg_ab {a b : Int} (ha : -100000 ≤ a ∧ a ≤ 100000) (hb : -100000 ≤ b ∧ b ≤ 100000) : rangeOf [.int a, .int b] = some ((List.range (b - a).toNat).map fun k : Nat => PyData.int (a + k)) := by
  have z := sl_big
  rw [range_2, if_pos ⟨by omega, by omega, by omega⟩]
theorem pick2 (a b : Int) {v : Int} (h0 : 0 ≤ v) (h : v < 2) : ∃ w, ixD (.list [.int a, .int b]) (.int v) = some (.int w) ∧ (w = a ∨ w = b) := by
  have : v = 0 ∨ v = 1 := by omega
  rcases this with rfl | rfl
  · exact ⟨a, rfl, .inl rfl⟩
  · exact ⟨b, rfl, .inr rfl⟩
theorem pick3 (a b c : Int) {v : Int} (h0 : 0 ≤ v) (h : v < 3) : ∃ w, ixD (.list [.int a, .int b, .int c]) (.int v) = some (.int w) ∧ (w = a ∨ w = b ∨ w = c) := by
  have : v = 0 ∨ v = 1 ∨ v = 2 := by omega
  rcases this with rfl | rfl | rfl
  · exact ⟨a, rfl, .inl rfl⟩
  · exact ⟨b, rfl, .inr (.inl rfl)⟩
  · exact ⟨c, rfl, .inr (.inr rfl)⟩
theorem mem_range_of {n x : Nat} {p q : List Nat} (h : List.range n = p ++ x :: q) : x < n ∧ p.length = x ∧ x = p.length := by
  have h1 : (List.range n)[p.length]? = some x := by rw [h]; simp
  rw [List.getElem?_range] at h1
  · cases h1
    have := congrArg List.length h
    simp at this
    omega
  · have := congrArg List.length h
    simp at this
    omega
theorem bi_max_l (x : Int) (xs : List Int) : biD .max [.list ((x :: xs).map .int)] = some (.val (.int (xs.foldl max x))) := by
  have h : bestL true ((x :: xs).map .int) = some (.int (xs.foldl max x)) := by
    rw [List.map_cons, bestL, ← List.map_cons, alike_is, none_is, ← maxL_int]
    rfl
  show (bestL true ((x :: xs).map .int)).map Rv.val = _
  rw [h]
  rfl
theorem al_ints {n : Nat} (hs : List Int) (h : hs.length ≤ 100000) : alD (n + 1) (.tuple (hs.map .int)) = true ∧ alD (n + 1) (.list (hs.map .int)) = true := by
  have e : (hs.map PyData.int).all (alD n) = true := by
    rw [List.all_map, List.all_eq_true]
    intro x _
    cases n <;> rfl
  simp only [alD, e, List.length_map, Bool.and_true, decide_eq_true_eq]
  exact ⟨h, h⟩
theorem di_cross {a b : Int} (hb : 0 < b) : (Rat.divInt a b).num * b = a * (Rat.divInt a b).den := by
  have h := di_self (Rat.divInt a b)
  have hd := den_pos (Rat.divInt a b)
  rwa [Rat.divInt_eq_divInt_iff (by omega) (by omega)] at h
theorem di_lt {a b c d : Int} (hb : 0 < b) (hd : 0 < d) : Rat.divInt a b < Rat.divInt c d ↔ a * d < c * b := by
  rw [Rat.lt_iff]
  have h1 := di_cross (a := a) hb
  have h2 := di_cross (a := c) hd
  have p1 := den_pos (Rat.divInt a b)
  have p2 := den_pos (Rat.divInt c d)
  generalize (Rat.divInt a b).num = n1 at *
  generalize ((Rat.divInt a b).den : Int) = e1 at *
  generalize (Rat.divInt c d).num = n2 at *
  generalize ((Rat.divInt c d).den : Int) = e2 at *
  have k1 : (n1 * e2) * (b * d) = (a * d) * (e1 * e2) := by
    calc (n1 * e2) * (b * d) = (n1 * b) * (d * e2) := by ac_rfl
      _ = (a * e1) * (d * e2) := by rw [h1]
      _ = _ := by ac_rfl
  have k2 : (n2 * e1) * (b * d) = (c * b) * (e1 * e2) := by
    calc (n2 * e1) * (b * d) = (n2 * d) * (b * e1) := by ac_rfl
      _ = (c * e2) * (b * e1) := by rw [h2]
      _ = _ := by ac_rfl
  have hbd : 0 < b * d := Int.mul_pos hb hd
  have hee : 0 < e1 * e2 := Int.mul_pos p1 p2
  constructor
  · intro h
    have := Int.mul_lt_mul_of_pos_right h hbd
    rw [k1, k2] at this
    exact Int.lt_of_mul_lt_mul_right this (by omega)
  · intro h
    have := Int.mul_lt_mul_of_pos_right h hee
    rw [← k1, ← k2] at this
    exact Int.lt_of_mul_lt_mul_right this (by omega)
def pLess : Def := { np := 2, nn := 2, io := false, body := [
  .ret false (.cmp .lt (.bin .mul (.ix (.var 0) (.int 0)) (.ix (.var 1) (.int 1))) (.bin .mul (.ix (.var 1) (.int 0)) (.ix (.var 0) (.int 1))))] }
theorem s_less {n k : Nat} (hP : P[k]? = some pLess) {a b : Rat} {i j : Nat} (ha : Bd i a) (hb : Bd j b) (hi : i ≤ 100000) (hj : j ≤ 100000) : cv (callP G P (n + 1) k [fr a, fr b]) = some (.val (.bool (decide (a < b)))) := by
  refine cv_ho hP rfl ?_
  have m1 := bin_mul_i (sm_big ha.1 hi) (sm_big (a := (b.den : Int)) (by simpa using hb.2) hj)
  have m2 := bin_mul_i (sm_big hb.1 hj) (sm_big (a := (a.den : Int)) (by simpa using ha.2) hi)
  have e : decide (a < b) = decide (a.num * b.den < b.num * a.den) := by
    rw [decide_eq_decide]
    exact Rat.lt_iff a b
  rw [e]
  simp [pLess, startE, fr, m1, m2]
theorem fr_0 {w : Int} (h : 0 < w) : fr (Rat.divInt 0 w) = .tuple [.int 0, .int 1] := by
  have e : Rat.divInt 0 w = 0 := Rat.zero_divInt w
  rw [e]
  rfl
theorem DrOk.up {c c' : Nat} {d : D} (h : DrOk c d) (hc : c ≤ c') : DrOk c' d := by
  obtain ⟨t, l, cs, e, h1, h2, r⟩ := h.ex
  exact ⟨t, l, cs, e, h1, by omega, r⟩
theorem cut_drop (xs : List D) (g : Nat) : cutL xs (some (g : Int)) none = xs.drop g := by
  unfold cutL
  rw [HT.sIx_none, HT.sIx_nat, List.take_of_length_le (by rw [List.length_drop]; omega)]
  rcases Nat.le_total g xs.length with h | h
  · rw [Nat.min_eq_left h]
  · rw [Nat.min_eq_right h, List.drop_length, List.drop_eq_nil_of_le h]
theorem last_ix (xs : List D) (x : D) : ixD (.list (xs ++ [x])) (.int (-1)) = some x := by
  rw [ix_l, place_last (by simp), Option.bind_some]
  simp
theorem last_place (xs : List D) (x : D) : place (-1) (xs ++ [x]).length = some xs.length := by
  rw [place_last (by simp)]
  simp
theorem last_set (xs : List D) (x y : D) : (xs ++ [x]).set xs.length y = xs ++ [y] := by
  simp
theorem eq_fr (q : Rat) : eqD (fr q) (fr q) = some true := by
  have := eqD_ti [q.num, (q.den : Int)] [q.num, (q.den : Int)]
  simpa [fr] using this
/-- an integer's place in a range is told by a function -/
theorem ix_map {α : Type} (xs : List α) (g : α → D) (k : Nat) : ixD (.list (xs.map g)) (.int k) = (xs[k]?).map g := by
  rw [ix_l, place_nat]
  by_cases h : k < xs.length
  · rw [if_pos (by simpa using h), Option.bind_some, List.getElem?_map]
  · rw [if_neg (by simpa using h), List.getElem?_eq_none (by omega)]
    rfl
end Fw

/-! Fw: fractions, by the program and by the laws -/
namespace Fw
open PySem
variable {G : Nat → Option D} {P : List Def}
theorem di_mul (a b : Rat) : Rat.divInt (a.num * b.num) (a.den * b.den) = a * b := by
  have h1 := di_self a
  have h2 := di_self b
  conv => rhs; rw [← h1, ← h2]
  rw [Rat.divInt_mul_divInt]
theorem Bd.mul {j k : Nat} {a b : Rat} (h1 : Bd j a) (h2 : Bd k b) : Bd (j + k) (a * b) := by
  rw [← di_mul a b]
  have := Int.mul_pos (den_pos a) (den_pos b)
  refine Bd.of this (sm_mul h1.1 h2.1) (sm_mul (by simpa using h1.2) (by simpa using h2.2))
theorem Bd.sub {j k : Nat} {a b : Rat} (h1 : Bd j a) (h2 : Bd k b) : Bd (j + k + 1) (a - b) := by
  have h3 : Bd k (-b) := ⟨by rw [Rat.neg_num]; simpa using h2.1, by rw [Rat.neg_den]; exact h2.2⟩
  have := h1.add h3
  rwa [← Rat.sub_eq_add_neg] at this
theorem Bd.dn {k : Nat} {a : Rat} (h : Bd k a) : ((a.den : Int)).natAbs < 2 ^ k := by simpa using h.2
def pPlus (l : Nat) : Def := { np := 2, nn := 2, io := false, body := [
  .ret false (.call l [(.bin .add (.bin .mul (.ix (.var 0) (.int 0)) (.ix (.var 1) (.int 1))) (.bin .mul (.ix (.var 1) (.int 0)) (.ix (.var 0) (.int 1)))), (.bin .mul (.ix (.var 0) (.int 1)) (.ix (.var 1) (.int 1)))])] }
def pTimes (l : Nat) : Def := { np := 2, nn := 2, io := false, body := [
  .ret false (.call l [(.bin .mul (.ix (.var 0) (.int 0)) (.ix (.var 1) (.int 0))), (.bin .mul (.ix (.var 0) (.int 1)) (.ix (.var 1) (.int 1)))])] }
/-- by any def that brings to lowest terms -/
theorem s_plusG {n k l : Nat} (hP : P[k]? = some (pPlus l)) {a b : Rat} {i j : Nat} (ha : Bd i a) (hb : Bd j b) (hi : i ≤ 100000) (hj : j ≤ 100000) (hl : cv (callP G P n l [.int (a.num * b.den + b.num * a.den), .int (a.den * b.den)]) = some (.val (fr (Rat.divInt (a.num * b.den + b.num * a.den) (a.den * b.den))))) : cv (callP G P (n + 1) k [fr a, fr b]) = some (.val (fr (a + b))) := by
  refine cv_ho hP rfl ?_
  have m1 := bin_mul_i (sm_big ha.1 hi) (sm_big hb.dn hj)
  have m2 := bin_mul_i (sm_big hb.1 hj) (sm_big ha.dn hi)
  have m3 := bin_mul_i (sm_big ha.dn hi) (sm_big hb.dn hj)
  have e := di_add (a := a.num) (c := b.num) (den_pos a) (den_pos b)
  rw [di_self, di_self] at e
  rw [e] at hl
  have fa : fr a = .tuple [.int a.num, .int a.den] := rfl
  have fb : fr b = .tuple [.int b.num, .int b.den] := rfl
  rw [fa, fb]
  simp [pPlus, startE, m1, m2, m3, hl, -bin_add_t]
theorem s_timesG {n k l : Nat} (hP : P[k]? = some (pTimes l)) {a b : Rat} {i j : Nat} (ha : Bd i a) (hb : Bd j b) (hi : i ≤ 100000) (hj : j ≤ 100000) (hl : cv (callP G P n l [.int (a.num * b.num), .int (a.den * b.den)]) = some (.val (fr (Rat.divInt (a.num * b.num) (a.den * b.den))))) : cv (callP G P (n + 1) k [fr a, fr b]) = some (.val (fr (a * b))) := by
  refine cv_ho hP rfl ?_
  have m1 := bin_mul_i (sm_big ha.1 hi) (sm_big hb.1 hj)
  have m3 := bin_mul_i (sm_big ha.dn hi) (sm_big hb.dn hj)
  rw [di_mul] at hl
  have fa : fr a = .tuple [.int a.num, .int a.den] := rfl
  have fb : fr b = .tuple [.int b.num, .int b.den] := rfl
  rw [fa, fb]
  simp [pTimes, startE, m1, m3, hl]
theorem s_plus {n k l : Nat} (hP : P[k]? = some (pPlus l)) (hL : P[l]? = some pLowest) {a b : Rat} {i j : Nat} (ha : Bd i a) (hb : Bd j b) (hij : i + j ≤ 9000) : cv (callP G P (n + 2) k [fr a, fr b]) = some (.val (fr (a + b))) :=
  s_plusG hP ha hb (by omega) (by omega) (s_lowest hL (Int.mul_pos (den_pos a) (den_pos b)) (sm_up (sm_mul ha.dn hb.dn) hij))
theorem s_times {n k l : Nat} (hP : P[k]? = some (pTimes l)) (hL : P[l]? = some pLowest) {a b : Rat} {i j : Nat} (ha : Bd i a) (hb : Bd j b) (hij : i + j ≤ 9000) : cv (callP G P (n + 2) k [fr a, fr b]) = some (.val (fr (a * b))) :=
  s_timesG hP ha hb (by omega) (by omega) (s_lowest hL (Int.mul_pos (den_pos a) (den_pos b)) (sm_up (sm_mul ha.dn hb.dn) hij))
def pMade (l e : Nat) : Def := { np := 2, nn := 2, io := false, body := [
  .iff (.cmp .eq (.var 1) (.int 0)) [
    .raise e] [
],
  .ret false (.call l [(.var 0), (.var 1)])] }
theorem s_made {n k l e : Nat} (hP : P[k]? = some (pMade l e)) (hL : P[l]? = some pLowest) {p w : Int} (hw : 0 < w) (hb : w.natAbs < 2 ^ 9000) : cv (callP G P (n + 2) k [.int p, .int w]) = some (.val (fr (Rat.divInt p w))) := by
  refine cv_ho hP rfl ?_
  have hl := s_lowest (G := G) (n := n) hL (p := p) hw hb
  have hn : ¬ w = 0 := by omega
  simp [pMade, startE, hn, hl]
/-! ### the law's own -/
def lawMade : Def := { np := 2, nn := 5, io := false, body := [
  .par [2, 3] [(.bi .abs [(.var 0)]), (.bi .abs [(.var 1)])],
  .while (.cmp .gt (.var 3) (.int 0)) [
    .par [2, 3] [(.var 3), (.bin .mod (.var 2) (.var 3))]],
  .set (.name 4) (.ite (.cmp .gt (.var 1) (.int 0)) (.int 1) (.neg (.int 1))),
  .ret false (.tup [(.bin .fdiv (.bin .mul (.var 4) (.var 0)) (.var 2)), (.bin .fdiv (.bin .mul (.var 4) (.var 1)) (.var 2))])] }
theorem s_lmade {n k : Nat} (hP : P[k]? = some lawMade) {p w : Int} {i j : Nat} (hw : 0 < w) (hp : p.natAbs < 2 ^ i) (hb : w.natAbs < 2 ^ j) (hi : i ≤ 8000) (hj : j ≤ 8000) : cv (callP G P (n + 1) k [.int p, .int w]) = some (.val (fr (Rat.divInt p w))) := by
  refine cv_ho hP rfl ?_
  simp [lawMade, startE]
  refine ho_while (fun m r => ∃ a b : Nat, r = [.fz (.int p), .fz (.int w), .fz (.int a), .fz (.int b), .no] ∧ Nat.gcd a b = Nat.gcd p.natAbs w.natAbs ∧ ((b ≤ a ∧ a * b < 2 ^ m) ∨ (a < b ∧ 1 ≤ m ∧ a * b < 2 ^ (m - 1)))) (i + j + 1) (by omega) ⟨p.natAbs, w.natAbs, rfl, rfl, ?_⟩ (fun m r hr => ?_)
  · have h := Nat.mul_lt_mul'' hp hb
    rw [← Nat.pow_add] at h
    rcases Nat.lt_or_ge p.natAbs w.natAbs with c | c
    · exact .inr ⟨c, by omega, by simpa using h⟩
    · exact .inl ⟨c, by rw [Nat.pow_succ]; omega⟩
  · obtain ⟨a, b, rfl, hg, hm⟩ := hr
    by_cases hb0 : b = 0
    · subst hb0
      have ga : a = Nat.gcd p.natAbs w.natAbs := by rw [← hg, Nat.gcd_zero_right]
      have gI : gcdI p w = (a : Int) := by rw [ga]; rfl
      have gp := gcdI_pos (p := p) hw
      have gl := gcdI_le (p := p) hw
      have hd : a < 2 ^ 9000 := by
        have h1 : a ≤ w.natAbs := by omega
        exact Nat.lt_of_le_of_lt h1 (Nat.lt_of_lt_of_le hb (Nat.pow_le_pow_right (by decide) (by omega)))
      have ap : (0 : Int) < a := by omega
      have d1 := bin_div_i (i := p) (j := a) ap (by simpa using hd)
      have d2 := bin_div_i (i := w) (j := a) ap (by simpa using hd)
      have m1 := bin_mul_sl (i := 1) (j := p) (by decide)
      have m2 := bin_mul_sl (i := 1) (j := w) (by decide)
      rw [Int.one_mul] at m1 m2
      have e1 := lo_num (p := p) hw
      have e2 := lo_den (p := p) hw
      rw [gI] at e1 e2
      have ef : fr (Rat.divInt p w) = .tuple [.int (p / a), .int (w / a)] := by
        rw [← e1, ← e2]; rfl
      simp [hw, m1, m2, d1, d2, ef]
    · have hb1 : (0 : Int) < b := by omega
      have md := bin_mod_i (i := (a : Int)) hb1
      have em : (a : Int) % (b : Int) = ((a % b : Nat) : Int) := by simp
      rw [em] at md
      simp [hb1, md, Nat.pos_of_ne_zero hb0, -Int.natCast_emod]
      refine ⟨m - 1, ?_, b, a % b, ⟨rfl, rfl⟩, ?_, .inl ⟨Nat.le_of_lt (Nat.mod_lt _ (Nat.pos_of_ne_zero hb0)), ?_⟩⟩
      · rcases hm with ⟨h1, h2⟩ | ⟨_, h2, _⟩
        · have : 0 < m := by
            apply Nat.pos_of_ne_zero
            intro z
            subst z
            have := Nat.mul_pos (show 0 < a by omega) (show 0 < b by omega)
            omega
          omega
        · omega
      · rw [← hg, Nat.gcd_comm a b]
        exact (Nat.gcd_rec b a).symm ▸ (by rw [Nat.gcd_comm])
      · rcases hm with ⟨h1, h2⟩ | ⟨h1, h2, h3⟩
        · have h4 : 2 * (a % b) ≤ a := by
            have h5 := Nat.mod_add_div a b
            have h6 := Nat.mod_lt a (Nat.pos_of_ne_zero hb0)
            have h7 : 1 ≤ a / b := Nat.div_pos h1 (by omega)
            have h8 : b * 1 ≤ b * (a / b) := Nat.mul_le_mul_left b h7
            omega
          have h9 : b * (2 * (a % b)) ≤ b * a := Nat.mul_le_mul_left b h4
          have hm0 : m = (m - 1) + 1 := by
            have : 0 < m := by
              apply Nat.pos_of_ne_zero
              intro z
              subst z
              have := Nat.mul_pos (show 0 < a by omega) (show 0 < b by omega)
              omega
            omega
          rw [hm0, Nat.pow_succ] at h2
          have h10 : b * (2 * (a % b)) = 2 * (b * (a % b)) := by rw [Nat.mul_left_comm]
          have h11 : b * a = a * b := Nat.mul_comm _ _
          omega
        · rw [Nat.mod_eq_of_lt h1, Nat.mul_comm]
          exact h3
end Fw

/-! Fw: more plain facts -/
namespace Fw
open PySem
theorem in_any (x : Int) (a : List Int) : ((a.map PyData.int).any fun y => PyData.eqv y (.int x)) = decide (x ∈ a) := by
  rw [Bool.eq_iff_iff, List.any_eq_true, decide_eq_true_eq]
  constructor
  · rintro ⟨y, hy, h⟩
    obtain ⟨z, hz, rfl⟩ := List.mem_map.mp hy
    have : PyData.eqv (.int z) (.int x) = decide (z = x) := rfl
    rw [this, decide_eq_true_eq] at h
    exact h ▸ hz
  · intro h
    refine ⟨.int x, List.mem_map.mpr ⟨x, h, rfl⟩, ?_⟩
    have : PyData.eqv (.int x) (.int x) = decide (x = x) := rfl
    rw [this]; simp
theorem in_t (x : Int) (a : List Int) : inD (.int x) (.tuple (a.map .int)) = some (decide (x ∈ a)) := by
  have h : okN 40 (.int x) = true := rfl
  unfold inD
  rw [okN_tup, ok_is, h, ← in_any]
  rfl
theorem in_l (x : Int) (a : List Int) : inD (.int x) (.list (a.map .int)) = some (decide (x ∈ a)) := by
  have h : okN 40 (.int x) = true := rfl
  unfold inD
  rw [okN_list, ok_is, h, ← in_any]
  rfl
/-! ### list(dict(pairs)) -/
theorem keys_map {α : Type} (xs : List α) (g : α → Int) (h : α → D) : keysOf (xs.map fun x => .tuple [.int (g x), h x]) = some (xs.map g) := by
  induction xs with
  | nil => rfl
  | cons x xs ih =>
    show (keysOf (xs.map fun x => .tuple [.int (g x), h x])).map (g x :: ·) = _
    rw [ih]
    rfl
theorem dkl_map {α : Type} (xs : List α) (g : α → Int) (h : α → D) : dklD (.list (xs.map fun x => .tuple [.int (g x), h x])) = some (.new (.list ((onceI [] (xs.map g)).map .int))) := by
  show (keysOf (xs.map fun x => .tuple [.int (g x), h x])).map _ = _
  rw [keys_map]
  rfl
theorem once_mem (x : Int) : ∀ (ks acc : List Int), x ∈ onceI acc ks ↔ x ∈ acc ∨ x ∈ ks
  | [], acc => by simp [onceI]
  | k :: ks, acc => by
    show x ∈ onceI (if acc.contains k then acc else acc ++ [k]) ks ↔ _
    rw [once_mem x ks]
    split
    · rename_i c
      have c := List.contains_iff_mem.mp c
      constructor
      · rintro (h | h)
        · exact .inl h
        · exact .inr (List.mem_cons_of_mem _ h)
      · rintro (h | h)
        · exact .inl h
        · rcases List.mem_cons.mp h with rfl | h
          · exact .inl c
          · exact .inr h
    · simp only [List.mem_append, List.mem_cons, List.not_mem_nil, or_false]
      constructor
      · rintro ((h | h) | h)
        · exact .inl h
        · exact .inr (.inl h)
        · exact .inr (.inr h)
      · rintro (h | h | h)
        · exact .inl (.inl h)
        · exact .inl (.inr h)
        · exact .inr h
theorem once_nodup : ∀ (ks acc : List Int), acc.Nodup → (onceI acc ks).Nodup
  | [], acc, h => h
  | k :: ks, acc, h => by
    show (onceI (if acc.contains k then acc else acc ++ [k]) ks).Nodup
    apply once_nodup
    split
    · exact h
    · rename_i c
      rw [List.nodup_append]
      refine ⟨h, by simp, fun a ha b hb => ?_⟩
      rw [List.mem_singleton.mp hb]
      rintro rfl
      exact c (List.contains_iff_mem.mpr ha)
theorem once_le : ∀ (ks acc : List Int), (onceI acc ks).length ≤ acc.length + ks.length
  | [], acc => Nat.le_refl _
  | k :: ks, acc => by
    show (onceI (if acc.contains k then acc else acc ++ [k]) ks).length ≤ _
    have h1 := once_le ks acc
    have h2 := once_le ks (acc ++ [k])
    rw [List.length_append, List.length_singleton] at h2
    rw [List.length_cons]
    split <;> omega
/-- in order, each once -/
def upI (ks : List Int) : List Int := (onceI [] ks).mergeSort fun a b => decide (a ≤ b)
theorem up_mem {x : Int} {ks : List Int} : x ∈ upI ks ↔ x ∈ ks := by
  unfold upI
  rw [List.mem_mergeSort, once_mem]
  simp
theorem up_le (ks : List Int) : (upI ks).length ≤ ks.length := by
  unfold upI
  rw [List.length_mergeSort]
  have := once_le ks []
  simpa using this
theorem up_inc (ks : List Int) : (upI ks).Pairwise (· < ·) := by
  have s := List.pairwise_mergeSort (le := fun x y : Int => decide (x ≤ y)) (fun a b c h1 h2 => by simp at *; omega) (fun a b => by simp; omega) (onceI [] ks)
  have n : (upI ks).Nodup := (List.mergeSort_perm _ _).nodup_iff.mpr (once_nodup ks [] List.nodup_nil)
  have s : (upI ks).Pairwise fun a b => a ≤ b := s.imp (by simp)
  refine (List.Pairwise.and s n).imp fun {a b} h => ?_
  have := h.1
  have := h.2
  omega
theorem up_some {ks : List Int} (h : 0 < ks.length) : 0 < (upI ks).length := by
  match ks, h with
  | k :: ks, _ =>
    have : k ∈ upI (k :: ks) := up_mem.mpr List.mem_cons_self
    exact List.length_pos_of_mem this
theorem max_ge : ∀ (xs : List Int) (x : Int), x ≤ xs.foldl max x ∧ (∀ y ∈ xs, y ≤ xs.foldl max x) ∧ (xs.foldl max x = x ∨ xs.foldl max x ∈ xs)
  | [], x => ⟨Int.le_refl x, by simp, .inl rfl⟩
  | y :: xs, x => by
    obtain ⟨h1, h2, h3⟩ := max_ge xs (max x y)
    refine ⟨by rw [List.foldl_cons]; omega, fun z hz => ?_, ?_⟩
    · rw [List.foldl_cons]
      rcases List.mem_cons.mp hz with rfl | hz
      · omega
      · exact h2 z hz
    · rw [List.foldl_cons]
      rcases h3 with h3 | h3
      · rcases Int.le_total x y with c | c
        · right; rw [h3, Int.max_eq_right c]; simp
        · left; rw [h3, Int.max_eq_left c]
      · right; simp [h3]
/-! ### a generator with a condition; zip -/
section
variable {G : Nat → Option D} {f : CE} {r : Env} {Q : Res Op → Prop} {elt : E} {tg : Tg} {c : Option E} {own : List Nat}
theorem ho_genF {α : Type} {inj : α → D} {xs : List α} {ds : List D} {gc : Gc} {v : Rv} (hgc : gc ≠ .all ∧ gc ≠ .any) (g : α → Option D) (hds : ds = xs.map inj) (ht : ∀ x ∈ xs, Turn G f elt tg c own (inj x) r (g x)) (hv : genFin gc (xs.filterMap g) = some v) (hQ : Q (.ok v.op r)) :
    Ho (inOwn own (genRun gc (turnE G f elt tg c own) (.fixed ds)) r) Q := by
  subst hds
  obtain ⟨r', e, w⟩ := lc_mapF (acc := []) (inj := inj) g fun x hx => (ht x hx).ex
  rw [inOwn_ok (a := v.op) (r' := r') ?_ w]
  · exact hQ
  · cases gc <;> first | exact absurd rfl hgc.1 | exact absurd rfl hgc.2 | (show (lcRun _ (.fixed (xs.map inj)) r).bd _ = _; rw [lcRun_fixed, e, bd_ok, bd_ap, List.nil_append, hv]; rfl)
end
theorem nth_get {L : List Int} {k : Nat} (h : k < L.length) : nth L k = L[k] := by
  rw [nth_n, List.getD_eq_getElem?_getD, List.getElem?_eq_getElem h]; rfl
theorem list_nth (L : List Int) : L = (List.range L.length).map fun k : Nat => nth L k := by
  apply List.ext_getElem
  · simp
  · intro k h1 h2
    simp [nth_get h1]
theorem zip_nth (L ds : List Int) : (((L.map PyData.int).zip (ds.map PyData.int)).map fun p => PyData.tuple [p.1, p.2]) = (List.range (min L.length ds.length)).map fun k : Nat => PyData.tuple [.int (nth L k), .int (nth ds k)] := by
  apply List.ext_getElem
  · simp
  · intro k h1 h2
    simp at h1 h2
    simp [nth_get (show k < L.length by omega), nth_get (show k < ds.length by omega)]
/-- a sum over places -/
def sm (L : List Int) (c : Nat → Bool) (m : Nat) : Int := (((List.range m).filter c).map fun k : Nat => nth L k).sum
theorem sm_0 (L : List Int) (c : Nat → Bool) : sm L c 0 = 0 := rfl
theorem sm_s (L : List Int) (c : Nat → Bool) (m : Nat) : sm L c (m + 1) = sm L c m + if c m then nth L m else 0 := by
  unfold sm
  rw [List.range_succ, List.filter_append, List.map_append, List.sum_append]
  congr 1
  cases h : c m <;> simp [h]
theorem sm_congr {L : List Int} {c c' : Nat → Bool} {m : Nat} (h : ∀ k < m, c k = c' k) : sm L c m = sm L c' m := by
  induction m with
  | zero => rfl
  | succ m ih => rw [sm_s, sm_s, ih fun k hk => h k (by omega), h m (by omega)]
theorem sm_le {L : List Int} {c c' : Nat → Bool} {m : Nat} (hL : ∀ k < m, 0 ≤ nth L k) (h : ∀ k < m, c k = true → c' k = true) : sm L c m ≤ sm L c' m := by
  induction m with
  | zero => exact Int.le_refl _
  | succ m ih =>
    have := ih (fun k hk => hL k (by omega)) fun k hk => h k (by omega)
    have h1 := hL m (by omega)
    have h2 := h m (by omega)
    rw [sm_s, sm_s]
    cases e1 : c m with
    | false => cases e2 : c' m <;> simp <;> omega
    | true => rw [h2 e1]; simp; omega
theorem sm_none {L : List Int} {c : Nat → Bool} {m : Nat} (h : ∀ k < m, c k = false) : sm L c m = 0 := by
  induction m with
  | zero => rfl
  | succ m ih => rw [sm_s, ih fun k hk => h k (by omega), h m (by omega)]; rfl
theorem sm_wide {L : List Int} {c : Nat → Bool} {m n : Nat} (hmn : m ≤ n) (h : ∀ k, m ≤ k → k < n → c k = false) : sm L c n = sm L c m := by
  induction n with
  | zero => obtain rfl : m = 0 := by omega
            rfl
  | succ n ih =>
    by_cases e : m = n + 1
    · rw [e]
    · rw [sm_s, ih (by omega) fun k h1 h2 => h k h1 (by omega), h n (by omega) (by omega)]
      simp
theorem bi_sum_f {m : Nat} (L : List Int) (c : Nat → Bool) : biD .sum [.list ((List.range m).filterMap fun k => if c k then some (PyData.int (nth L k)) else none)] = some (.val (.int (sm L c m))) := by
  have e : ((List.range m).filterMap fun k => if c k then some (PyData.int (nth L k)) else none) = (((List.range m).filter c).map fun k : Nat => PyData.int (nth L k)) := by
    induction (List.range m) with
    | nil => rfl
    | cons x xs ih => cases h : c x <;> simp [h, ih]
  rw [e]
  exact bi_sum _ _
/-! ### the greatest, the least of a row -/
theorem bi_max_t (x : Int) (xs : List Int) : biD .max [.tuple ((x :: xs).map .int)] = some (.val (.int (xs.foldl max x))) := by
  have h : bestL true ((x :: xs).map .int) = some (.int (xs.foldl max x)) := by
    rw [List.map_cons, bestL, ← List.map_cons, alike_is, none_is, ← maxL_int]
    rfl
  show (bestL true ((x :: xs).map .int)).map Rv.val = _
  rw [h]
  rfl
theorem minL_int : ∀ (xs : List Int) (x : Int), minL (.int x) (xs.map .int) = .int (xs.foldl min x)
  | [], x => rfl
  | y :: xs, x => by
    have e : (if PySem.W.dataLt (.int y) (.int x) then PyData.int y else .int x) = .int (min x y) := by
      rw [PySem.W.dataLt_int]
      by_cases c : y < x
      · rw [if_pos (by simpa using c), Int.min_eq_right (by omega)]
      · rw [if_neg (by simpa using c), Int.min_eq_left (by omega)]
    show minL (if PySem.W.dataLt (.int y) (.int x) then PyData.int y else .int x) (xs.map .int) = _
    rw [e, minL_int xs]
    rfl
theorem bi_min_t (x : Int) (xs : List Int) : biD .min [.tuple ((x :: xs).map .int)] = some (.val (.int (xs.foldl min x))) := by
  have h : bestL false ((x :: xs).map .int) = some (.int (xs.foldl min x)) := by
    rw [List.map_cons, bestL, ← List.map_cons, alike_is, none_is, ← minL_int]
    rfl
  show (bestL false ((x :: xs).map .int)).map Rv.val = _
  rw [h]
  rfl
theorem min_le : ∀ (xs : List Int) (x : Int), xs.foldl min x ≤ x ∧ (∀ y ∈ xs, xs.foldl min x ≤ y) ∧ (xs.foldl min x = x ∨ xs.foldl min x ∈ xs)
  | [], x => ⟨Int.le_refl x, by simp, .inl rfl⟩
  | y :: xs, x => by
    obtain ⟨h1, h2, h3⟩ := min_le xs (min x y)
    refine ⟨by rw [List.foldl_cons]; omega, fun z hz => ?_, ?_⟩
    · rw [List.foldl_cons]
      rcases List.mem_cons.mp hz with rfl | hz
      · omega
      · exact h2 z hz
    · rw [List.foldl_cons]
      rcases h3 with h3 | h3
      · rcases Int.le_total x y with c | c
        · left; rw [h3, Int.min_eq_left c]
        · right; rw [h3, Int.min_eq_right c]; simp
      · right; simp [h3]
theorem max_row {L : List Int} (h : 1 ≤ L.length) : ∃ M, biD .max [.tuple (L.map .int)] = some (.val (.int M)) ∧ M ∈ L ∧ ∀ x ∈ L, x ≤ M := by
  match L, h with
  | x :: xs, _ =>
    obtain ⟨h1, h2, h3⟩ := max_ge xs x
    refine ⟨_, bi_max_t x xs, ?_, fun y hy => ?_⟩
    · rcases h3 with h3 | h3
      · rw [h3]; simp
      · simp [h3]
    · rcases List.mem_cons.mp hy with rfl | hy
      · exact h1
      · exact h2 y hy
theorem min_row {L : List Int} (h : 1 ≤ L.length) : ∃ M, biD .min [.tuple (L.map .int)] = some (.val (.int M)) ∧ M ∈ L ∧ ∀ x ∈ L, M ≤ x := by
  match L, h with
  | x :: xs, _ =>
    obtain ⟨h1, h2, h3⟩ := min_le xs x
    refine ⟨_, bi_min_t x xs, ?_, fun y hy => ?_⟩
    · rcases h3 with h3 | h3
      · rw [h3]; simp
      · simp [h3]
    · rcases List.mem_cons.mp hy with rfl | hy
      · exact h1
      · exact h2 y hy
theorem nth_snoc {ds : List Int} {d : Int} {j : Nat} (h : j < ds.length) : nth (ds ++ [d]) j = nth ds j := by
  rw [nth_get (by rw [List.length_append]; omega), nth_get h, List.getElem_append_left h]
theorem nth_last (ds : List Int) (d : Int) : nth (ds ++ [d]) ds.length = d := by
  rw [nth_get (by simp)]
  simp
theorem nth_mem {L : List Int} {k : Nat} (h : k < L.length) : nth L k ∈ L := by
  rw [nth_get h]; exact List.getElem_mem h
theorem mem_nth {L : List Int} {x : Int} (h : x ∈ L) : ∃ k, k < L.length ∧ nth L k = x := by
  obtain ⟨k, hk, rfl⟩ := List.getElem_of_mem h
  exact ⟨k, hk, nth_get hk⟩
theorem cv_hoE {G : Nat → Option D} {P : List Def} {n k : Nat} {ds : List D} {d : Def} {R : Rv → Prop} (hP : P[k]? = some d) (hl : ds.length = d.np) (h : Ho (exs G (callP G P n) d.body (startE d ds)) fun y => ∃ v, cv (outP d.io y) = some v ∧ R v) : ∃ v, cv (callP G P (n + 1) k ds) = some v ∧ R v := by
  rw [callP_s hP hl]; exact h
theorem lcRef_accF {α : Type} {turn : D → M (Option D)} {inj : α → D} {i : Nat} {xs : List α} (I : List α → List D → Env → Prop) (hd : ∀ p a r, I p a r → dataAt r i = some (.list (xs.map inj))) (st : ∀ p x q a r, xs = p ++ x :: q → I p a r → Ho (turn (inj x) r) (accQ (I (p ++ [x])) a)) : ∀ {n k : Nat} {acc : List D} {r : Env}, k ≤ xs.length → xs.length < n + k → I (xs.take k) acc r → ∃ acc' r', lcRef turn i n k acc r = .ok acc' r' ∧ I xs acc' r'
  | 0, k, acc, r, hk, hn, h => by omega
  | n + 1, k, acc, r, hk, hn, h => by
    by_cases hk2 : k < xs.length
    · have e0 : (xs.map inj)[k]? = some (inj xs[k]) := by rw [List.getElem?_map, List.getElem?_eq_getElem hk2]; rfl
      have es : xs = xs.take k ++ xs[k] :: xs.drop (k + 1) := by rw [← List.drop_eq_getElem_cons hk2, List.take_append_drop]
      have h1 : accQ (I (xs.take k ++ [xs[k]])) acc (turn (inj xs[k]) r) := st _ _ _ _ _ es h
      rw [← List.take_succ_eq_append_getElem hk2] at h1
      unfold lcRef
      simp only [hd _ _ _ h, e0]
      revert h1
      cases e : turn (inj xs[k]) r with
      | no => exact False.elim
      | ex c r => exact False.elim
      | ok o r' =>
        intro h1
        obtain ⟨acc2, r2, e2, h2⟩ := lcRef_accF I hd st (n := n) (k := k + 1) (by omega) (by omega) h1
        refine ⟨acc2, r2, ?_, h2⟩
        rw [bd_ap, e, bd_ok]
        cases o with
        | none => rw [Option.toList_none, List.append_nil] at e2; exact e2
        | some d => exact e2
    · have e0 : (xs.map inj)[k]? = none := by rw [List.getElem?_eq_none]; simp; omega
      rw [List.take_of_length_le (by omega)] at h
      unfold lcRef
      simp only [hd _ _ _ h, e0]
      exact ⟨acc, r, rfl, h⟩
/-- a comprehension over one's own list, its turns change something else -/
theorem ho_lcIR {G : Nat → Option D} {f : CE} {r : Env} {Q : Res Op → Prop} {elt : E} {tg : Tg} {c : Option E} {own : List Nat} {α : Type} {inj : α → D} {xs : List α} {i : Nat} (I : List α → List D → Env → Prop) (hz : xs.length < sizeLine) (hd : ∀ p a r, I p a r → dataAt r i = some (.list (xs.map inj))) (h0 : I [] [] r) (st : ∀ p x q a r, xs = p ++ x :: q → I p a r → Ho (turnE G f elt tg c own (inj x) r) (accQ (I (p ++ [x])) a)) (hQ : ∀ a r', I xs a r' → Q (.ok (.new (.list a)) (back own r r'))) :
    Ho (inOwn own (bd (lcRun (turnE G f elt tg c own) (.byref i)) fun ds => ret (.new (.list ds))) r) Q := by
  obtain ⟨a, r', e, h⟩ := lcRef_accF (turn := turnE G f elt tg c own) I hd st (n := sizeLine) (k := 0) (Nat.zero_le _) (by omega) h0
  show Q (inOwn own _ r)
  rw [inOwn_ap, bd_ap, lcRun_byref, e]
  exact hQ a r' h
end Fw

set_option maxHeartbeats 4000000
/-! Fw: fractions with one whole, sums over places -/
namespace Fw
open PySem
section
variable {G : Nat → Option D} {P : List Def}
def lawGcd : Def := { np := 2, nn := 2, io := false, body := [
  .par [0, 1] [(.bi .abs [(.var 0)]), (.bi .abs [(.var 1)])],
  .while (.cmp .gt (.var 1) (.int 0)) [
    .par [0, 1] [(.var 1), (.bin .mod (.bi .int [(.var 0)]) (.var 1))]],
  .ret false (.var 0)] }
theorem s_lgcd {n k : Nat} (hP : P[k]? = some lawGcd) {p w : Int} {i j : Nat} (hw : 0 < w) (hp : p.natAbs < 2 ^ i) (hb : w.natAbs < 2 ^ j) (hi : i ≤ 8000) (hj : j ≤ 8000) : cv (callP G P (n + 1) k [.int p, .int w]) = some (.val (.int (gcdI p w))) := by
  refine cv_ho hP rfl ?_
  simp [lawGcd, startE]
  refine ho_while (fun m r => ∃ a b : Nat, r = [.fz (.int a), .fz (.int b)] ∧ Nat.gcd a b = Nat.gcd p.natAbs w.natAbs ∧ ((b ≤ a ∧ a * b < 2 ^ m) ∨ (a < b ∧ 1 ≤ m ∧ a * b < 2 ^ (m - 1)))) (i + j + 1) (by omega) ⟨p.natAbs, w.natAbs, rfl, rfl, ?_⟩ (fun m r hr => ?_)
  · have h := Nat.mul_lt_mul'' hp hb
    rw [← Nat.pow_add] at h
    rcases Nat.lt_or_ge p.natAbs w.natAbs with c | c
    · exact .inr ⟨c, by omega, by simpa using h⟩
    · exact .inl ⟨c, by rw [Nat.pow_succ]; omega⟩
  · obtain ⟨a, b, rfl, hg, hm⟩ := hr
    by_cases hb0 : b = 0
    · subst hb0
      have ga : a = Nat.gcd p.natAbs w.natAbs := by rw [← hg, Nat.gcd_zero_right]
      have gI : gcdI p w = (a : Int) := by rw [ga]; rfl
      simp [gI]
    · have hb1 : (0 : Int) < b := by omega
      have md := bin_mod_i (i := (a : Int)) hb1
      have em : (a : Int) % (b : Int) = ((a % b : Nat) : Int) := by simp
      rw [em] at md
      simp [hb1, md, Nat.pos_of_ne_zero hb0, -Int.natCast_emod]
      refine ⟨m - 1, ?_, b, a % b, ⟨rfl, rfl⟩, ?_, .inl ⟨Nat.le_of_lt (Nat.mod_lt _ (Nat.pos_of_ne_zero hb0)), ?_⟩⟩
      · rcases hm with ⟨h1, h2⟩ | ⟨_, h2, _⟩
        · have : 0 < m := by
            apply Nat.pos_of_ne_zero
            intro z
            subst z
            have := Nat.mul_pos (show 0 < a by omega) (show 0 < b by omega)
            omega
          omega
        · omega
      · rw [← hg, Nat.gcd_comm a b, Nat.gcd_rec b a, Nat.gcd_comm]
      · have hlt : a % b < b := Nat.mod_lt _ (Nat.pos_of_ne_zero hb0)
        rcases hm with ⟨h1, h2⟩ | ⟨h1, h2, h3⟩
        · have hm1 : 0 < m := by
            apply Nat.pos_of_ne_zero
            intro z
            subst z
            have := Nat.mul_pos (show 0 < a by omega) (show 0 < b by omega)
            omega
          have h4 : 2 * (a % b) ≤ a := by
            have := Nat.mod_add_div a b
            have h5 : 1 ≤ a / b := Nat.div_pos h1 (Nat.pos_of_ne_zero hb0)
            have h6 : b * 1 ≤ b * (a / b) := Nat.mul_le_mul_left b h5
            omega
          have h7 : 2 * (b * (a % b)) ≤ a * b := by
            have := Nat.mul_le_mul_left b h4
            rw [Nat.mul_left_comm, Nat.mul_comm b a] at this
            exact this
          have h8 : 2 ^ m = 2 * 2 ^ (m - 1) := by
            rw [show m = (m - 1) + 1 by omega, Nat.pow_succ]; simp; omega
          omega
        · rw [Nat.mod_eq_of_lt h1, Nat.mul_comm]
          exact h3
def lawPart (g : Nat) : Def := { np := 2, nn := 3, io := false, body := [
  .set (.name 2) (.call g [(.var 0), (.var 1)]),
  .ret false (.tup [(.bin .fdiv (.var 0) (.var 2)), (.bin .fdiv (.var 1) (.var 2))])] }
theorem s_lpart {n k g : Nat} (hP : P[k]? = some (lawPart g)) (hG : P[g]? = some lawGcd) {p w : Int} {i j : Nat} (hw : 0 < w) (hp : p.natAbs < 2 ^ i) (hb : w.natAbs < 2 ^ j) (hi : i ≤ 8000) (hj : j ≤ 8000) : cv (callP G P (n + 2) k [.int p, .int w]) = some (.val (fr (Rat.divInt p w))) := by
  refine cv_ho hP rfl ?_
  have s1 := s_lgcd (G := G) (P := P) (n := n) hG hw hp hb hi hj
  have gp := gcdI_pos (p := p) hw
  have gl := gcdI_le (p := p) hw
  have hd : (gcdI p w).natAbs < 2 ^ 9000 := by
    have h1 : (gcdI p w).natAbs ≤ w.natAbs := by omega
    exact Nat.lt_of_le_of_lt h1 (Nat.lt_of_lt_of_le hb (Nat.pow_le_pow_right (by decide) (by omega)))
  have d1 := bin_div_i (i := p) gp hd
  have d2 := bin_div_i (i := w) gp hd
  have e1 := lo_num (p := p) hw
  have e2 := lo_den (p := p) hw
  have ef : fr (Rat.divInt p w) = .tuple [.int (p / gcdI p w), .int (w / gcdI p w)] := by
    rw [← e1, ← e2]; rfl
  simp [lawPart, startE, s1, d1, d2, ef]
end
/-! ### fractions with one whole -/
def rN (N a : Nat) : Rat := Rat.divInt a N
def frN (N a : Nat) : D := fr (rN N a)
theorem rN_eq (N a : Nat) : rN N a = (a : Rat) / (N : Rat) := by
  unfold rN
  rw [Rat.divInt_eq_div]
  rfl
theorem cast_ne {N : Nat} (h : 0 < N) : (N : Rat) ≠ 0 := by
  intro z
  have : ((N : Int) : Rat) = 0 := z
  have := Rat.intCast_eq_zero_iff.mp this
  omega
theorem rN_add {N : Nat} (a b : Nat) : rN N a + rN N b = rN N (a + b) := by
  rw [rN_eq, rN_eq, rN_eq, Rat.natCast_add]
  grind
theorem rN_mul (N K a b : Nat) : rN N a * rN K b = rN (N * K) (a * b) := by
  rw [rN_eq, rN_eq, rN_eq, Rat.natCast_mul, Rat.natCast_mul]
  by_cases h1 : (N : Rat) = 0
  · rw [h1]; grind
  · by_cases h2 : (K : Rat) = 0
    · rw [h2]; grind
    · grind
theorem rN_zero (N : Nat) : rN N 0 = 0 := by
  rw [rN_eq]
  show (0 : Rat) / (N : Rat) = 0
  rw [Rat.div_def, Rat.zero_mul]
theorem rN_one {N : Nat} (h : 0 < N) : rN N N = 1 := by
  have := cast_ne h
  rw [rN_eq]
  grind
theorem rN_scale {N m : Nat} (a : Nat) (hm : 0 < m) : rN (N * m) (a * m) = rN N a := by
  rw [← rN_mul, rN_one hm]
  grind
theorem rN_bd {N k a : Nat} (h0 : 0 < N) (h1 : N < 2 ^ k) (h2 : a ≤ N) : Bd k (rN N a) := Bd.of (by omega) (by omega) (by omega)
theorem frN_one {N : Nat} (h : 0 < N) : frN N N = .tuple [.int 1, .int 1] := by
  unfold frN; rw [rN_one h]; rfl
theorem frN_zero (N : Nat) : frN N 0 = .tuple [.int 0, .int 1] := by
  unfold frN; rw [rN_zero]; rfl
/-! ### sums over the places below n -/
def sg (f : Nat → Nat) : Nat → Nat
  | 0 => 0
  | n + 1 => sg f n + f n
theorem sg_s (f : Nat → Nat) (n : Nat) : sg f (n + 1) = sg f n + f n := rfl
theorem sg_congr {f g : Nat → Nat} : ∀ {n : Nat}, (∀ k < n, f k = g k) → sg f n = sg g n
  | 0, _ => rfl
  | n + 1, h => by rw [sg_s, sg_s, sg_congr fun k hk => h k (by omega), h n (by omega)]
theorem sg_le {f : Nat → Nat} {m n : Nat} (h : m ≤ n) : sg f m ≤ sg f n := by
  induction n with
  | zero => rw [Nat.le_zero.mp h]; exact Nat.le_refl _
  | succ n ih =>
    rcases Nat.lt_or_ge m (n + 1) with c | c
    · exact Nat.le_trans (ih (by omega)) (Nat.le_add_right _ _)
    · rw [show m = n + 1 by omega]; exact Nat.le_refl _
theorem sg_at {f : Nat → Nat} {k n : Nat} (h : k < n) : f k ≤ sg f n := by
  have : sg f (k + 1) ≤ sg f n := sg_le h
  rw [sg_s] at this
  omega
theorem sg_add (f g : Nat → Nat) : ∀ n : Nat, sg (fun k => f k + g k) n = sg f n + sg g n
  | 0 => rfl
  | n + 1 => by rw [sg_s, sg_s, sg_s, sg_add f g n]; omega
theorem sg_mul (f : Nat → Nat) (c : Nat) : ∀ n : Nat, sg (fun k => f k * c) n = sg f n * c
  | 0 => by simp [sg]
  | n + 1 => by rw [sg_s, sg_s, sg_mul f c n, Nat.add_mul]
theorem sg_mulL (f : Nat → Nat) (c : Nat) (n : Nat) : sg (fun k => c * f k) n = c * sg f n := by
  rw [Nat.mul_comm, ← sg_mul]
  exact sg_congr fun k _ => Nat.mul_comm _ _
theorem sg_0 : ∀ n : Nat, sg (fun _ => 0) n = 0
  | 0 => rfl
  | n + 1 => by rw [sg_s, sg_0 n]
theorem sg_swap (f : Nat → Nat → Nat) (m : Nat) : ∀ n : Nat, sg (fun i => sg (fun j => f i j) m) n = sg (fun j => sg (fun i => f i j) n) m
  | 0 => by simp only [sg]; exact (sg_0 m).symm
  | n + 1 => by
    rw [sg_s, sg_swap f m n, ← sg_add]
    rfl
theorem sg_one {n i : Nat} (h : i < n) (f : Nat → Nat) : sg (fun k => if k = i then f k else 0) n = f i := by
  induction n with
  | zero => omega
  | succ n ih =>
    rw [sg_s]
    rcases Nat.lt_or_ge i n with c | c
    · rw [ih c, if_neg (by omega)]; rfl
    · have : i = n := by omega
      subst this
      rw [if_pos rfl, sg_congr (g := fun _ => 0) fun k hk => if_neg (by omega), sg_0]
      omega
theorem sum_sg (f : Nat → Nat) : ∀ n : Nat, ((List.range n).map f).sum = sg f n
  | 0 => rfl
  | n + 1 => by rw [List.range_succ, List.map_append, List.sum_append, sum_sg f n]; simp [sg]
theorem zip_rng (f g : Nat → D) (n : Nat) : ((((List.range n).map f).zip ((List.range n).map g)).map fun p => PyData.tuple [p.1, p.2]) = (List.range n).map fun k => PyData.tuple [f k, g k] := by
  rw [List.zip_map', List.map_map]
  rfl
/-! ### all, cut short -/
section
variable {G : Nat → Option D} {f : CE} {r : Env} {Q : Res Op → Prop} {elt : E} {tg : Tg} {c : Option E} {own : List Nat}
theorem quick_cut : ∀ {pre : List D} {r : Env} {d : D} {ds : List D}, (∀ x ∈ pre, ∃ r', turnE G f elt tg c own x (wipe own r) = .ok (some (.bool true)) r' ∧ wipe own r' = wipe own r) → (∃ r', turnE G f elt tg c own d (wipe own r) = .ok (some (.bool false)) r' ∧ wipe own r' = wipe own r) → ∃ r', quick false (turnE G f elt tg c own) (pre ++ d :: ds) r = .ok false r' ∧ wipe own r' = wipe own r
  | [], r, d, ds, _, ⟨r', e, w⟩ => by
    refine ⟨r', ?_, w⟩
    rw [List.nil_append, quick_cons, turnE_wipe, e, bd_ok]
    rfl
  | x :: pre, r, d, ds, h, hd => by
    obtain ⟨r1, e, w⟩ := h x (by simp)
    obtain ⟨r2, e2, w2⟩ := quick_cut (pre := pre) (r := r1) (d := d) (ds := ds) (fun y hy => by rw [w]; exact h y (by simp [hy])) (by rw [w]; exact hd)
    refine ⟨r2, ?_, by rw [w2, w]⟩
    rw [List.cons_append, quick_cons, turnE_wipe, e, bd_ok]
    exact e2
/-- all(..) that ends at the first False -/
theorem ho_allN {pre : List D} {d : D} {ds rs : List D} (hr : rs = pre ++ d :: ds) (hp : ∀ x ∈ pre, Turn G f elt tg c own x r (some (.bool true))) (ht : Turn G f elt tg c own d r (some (.bool false))) (hQ : Q (.ok (.val (.bool false)) r)) :
    Ho (inOwn own (genRun .all (turnE G f elt tg c own) (.fixed rs)) r) Q := by
  subst hr
  obtain ⟨r', e, w⟩ := quick_cut (ds := ds) (fun x hx => (hp x hx).ex) ht.ex
  rw [inOwn_ok (a := .val (.bool false)) (r' := r') ?_ w]
  · exact hQ
  · show (quickRun false _ (.fixed (pre ++ d :: ds)) r).bd _ = _
    rw [quickRun_fixed, e]; rfl
end
/-! ### is it a fraction? -/
section
variable {G : Nat → Option D} {P : List Def}
def pExact : Def := { np := 1, nn := 4, io := false, body := [
  .iff (.or (.not (.isi (.var 0) .tuple)) (.cmp .ne (.bi .len [(.var 0)]) (.int 2))) [
    .ret false (.bl false)] [
],
  .set (.tup [(.name 1), (.name 2)]) (.var 0),
  .forR (.name 3) 0 [
    .iff (.or (.not (.isi (.var 3) .int)) (.isi (.var 3) .bool)) [
      .ret false (.bl false)] [
]],
  .ret false (.and (.cmp .ge (.var 2) (.int 1)) (.cmp .eq (.bi .gcd [(.var 1), (.var 2)]) (.int 1)))] }
theorem s_exact {n k : Nat} (hP : P[k]? = some pExact) (a b : Int) : cv (callP G P (n + 1) k [.tuple [.int a, .int b]]) = some (.val (.bool (decide (1 ≤ b) && decide (gcdI a b = 1)))) := by
  refine cv_ho hP rfl ?_
  by_cases h : 1 ≤ b
  · simp [pExact, startE, h]
  · simp [pExact, startE, h]
def pFraction (e g : Nat) : Def := { np := 1, nn := 1, io := false, body := [
  .ret false (.and (.call e [(.var 0)]) (.and (.chain .le .le (.neg (.glob g)) (.ix (.var 0) (.int 0)) (.glob g)) (.cmp .le (.ix (.var 0) (.int 1)) (.glob g))))] }
def LIM : Int := 1000000000000000000000000000000000000000000000000000000000000
theorem s_fraction {n k e g : Nat} (hP : P[k]? = some (pFraction e g)) (hE : P[e]? = some pExact) (hG : G g = some (.int LIM)) (a b : Int) : cv (callP G P (n + 2) k [.tuple [.int a, .int b]]) = some (.val (.bool (decide (1 ≤ b) && decide (gcdI a b = 1) && (decide (-LIM ≤ a) && decide (a ≤ LIM) && decide (b ≤ LIM))))) := by
  refine cv_ho hP rfl ?_
  have s1 := s_exact (G := G) (n := n) hE a b
  generalize (decide (1 ≤ b) && decide (gcdI a b = 1)) = t at s1
  cases t
  · simp [pFraction, startE, s1]
  · by_cases h1 : -LIM ≤ a <;> by_cases h2 : a ≤ LIM <;> simp [pFraction, startE, s1, hG, h1, h2]
theorem fr_frac {q : Rat} {k : Nat} (h : Bd k q) (hk : k ≤ 199) : (decide (1 ≤ (q.den : Int)) && decide (gcdI q.num q.den = 1) && (decide (-LIM ≤ q.num) && decide (q.num ≤ LIM) && decide ((q.den : Int) ≤ LIM))) = true := by
  have h1 : q.num.natAbs < 2 ^ 199 := sm_up h.1 hk
  have h2 : ((q.den : Int)).natAbs < 2 ^ 199 := sm_up h.dn hk
  have h3 := den_pos q
  have e : (2 : Nat) ^ 199 = 803469022129495137770981046170581301261101496891396417650688 := by decide
  rw [e] at h1 h2
  have hg : gcdI q.num q.den = 1 := by
    show ((Nat.gcd q.num.natAbs ((q.den : Int)).natAbs : Nat) : Int) = 1
    rw [Int.natAbs_natCast, q.reduced.gcd_eq_one]
    rfl
  have b1 : -LIM ≤ q.num := by unfold LIM; omega
  have b2 : q.num ≤ LIM := by unfold LIM; omega
  have b3 : (q.den : Int) ≤ LIM := by unfold LIM; omega
  simp [hg, b1, b2, b3]
  omega
/-- a fraction that is small enough is one -/
theorem s_isfr {n k e g : Nat} (hP : P[k]? = some (pFraction e g)) (hE : P[e]? = some pExact) (hG : G g = some (.int LIM)) {q : Rat} {j : Nat} (h : Bd j q) (hj : j ≤ 199) : cv (callP G P (n + 2) k [fr q]) = some (.val (.bool true)) := by
  have := s_fraction (n := n) hP hE hG q.num q.den
  rw [fr_frac h hj] at this
  exact this
end
end Fw

/-! Fw: still more plain facts -/
namespace Fw
open PySem
theorem plain_frL {α : Type} (L : List α) (g : α → Rat) : PyData.plainAll (L.map fun x => fr (g x)) = true := by
  induction L with
  | nil => rfl
  | cons x L ih =>
    rw [List.map_cons, PyData.plainAll, ih]
    rfl
theorem eq_frL {α : Type} (L : List α) (g : α → Rat) : eqD (.tuple (L.map fun x => fr (g x))) (.tuple (L.map fun x => fr (g x))) = some true := by
  refine eqD_self ?_ ?_
  · rw [okN_tup, List.all_map, List.all_eq_true]
    intro x _
    rfl
  · rw [PyData.plain]
    exact plain_frL L g
theorem ix_tmap {α : Type} (xs : List α) (g : α → D) {j : Nat} (h : j < xs.length) : ixD (.tuple (xs.map g)) (.int j) = some (g xs[j]) := by
  have e : place (j : Int) (xs.map g).length = some j := by
    have := place_in (j := (j : Int)) (n := (xs.map g).length) (by omega) (by simpa using h)
    simpa using this
  show ((place (j : Int) (xs.map g).length).bind fun i => (xs.map g)[i]?) = _
  rw [e]
  simp [h]
theorem ix_lmap {α : Type} (xs : List α) (g : α → D) {j : Nat} (h : j < xs.length) : ixD (.list (xs.map g)) (.int j) = some (g xs[j]) := by
  rw [ix_map, List.getElem?_eq_getElem h]; rfl
end Fw

instance : Coe String PySem.Str := ⟨PySem.Str.ofString⟩
namespace Law_k39
open PySem Fw
def d_is_number : Def := { np := 3, nn := 3, io := false, body := [
  .ret false (.and (.isi (.var 0) .int) (.and (.not (.isi (.var 0) .bool)) (.chain .le .le (.var 1) (.var 0) (.var 2))))] }
def d_is_exact : Def := { np := 1, nn := 4, io := false, body := [
  .iff (.or (.not (.isi (.var 0) .tuple)) (.cmp .ne (.bi .len [(.var 0)]) (.int 2))) [
    .ret false (.bl false)] [
],
  .set (.tup [(.name 1), (.name 2)]) (.var 0),
  .forR (.name 3) 0 [
    .iff (.or (.not (.isi (.var 3) .int)) (.isi (.var 3) .bool)) [
      .ret false (.bl false)] [
]],
  .ret false (.and (.cmp .ge (.var 2) (.int 1)) (.cmp .eq (.bi .gcd [(.var 1), (.var 2)]) (.int 1)))] }
def d_is_fraction : Def := { np := 1, nn := 1, io := false, body := [
  .ret false (.and (.call 1 [(.var 0)]) (.and (.chain .le .le (.neg (.glob 0)) (.ix (.var 0) (.int 0)) (.glob 0)) (.cmp .le (.ix (.var 0) (.int 1)) (.glob 0))))] }
def d_lowest : Def := { np := 2, nn := 3, io := false, body := [
  .set (.name 2) (.bi .gcd [(.var 0), (.var 1)]),
  .iff (.cmp .lt (.var 1) (.int 0)) [
    .set (.name 2) (.neg (.var 2))] [
],
  .ret false (.tup [(.bin .fdiv (.var 0) (.var 2)), (.bin .fdiv (.var 1) (.var 2))])] }
def d_plus : Def := { np := 2, nn := 2, io := false, body := [
  .ret false (.call 3 [(.bin .add (.bin .mul (.ix (.var 0) (.int 0)) (.ix (.var 1) (.int 1))) (.bin .mul (.ix (.var 1) (.int 0)) (.ix (.var 0) (.int 1)))), (.bin .mul (.ix (.var 0) (.int 1)) (.ix (.var 1) (.int 1)))])] }
def d_times : Def := { np := 2, nn := 2, io := false, body := [
  .ret false (.call 3 [(.bin .mul (.ix (.var 0) (.int 0)) (.ix (.var 1) (.int 0))), (.bin .mul (.ix (.var 0) (.int 1)) (.ix (.var 1) (.int 1)))])] }
def d_is_chain_row : Def := { np := 2, nn := 4, io := false, body := [
  .iff (.or (.not (.isi (.var 1) .tuple)) (.cmp .ne (.bi .len [(.var 1)]) (.var 0))) [
    .ret false (.bl false)] [
],
  .iff (.not (.gen .all (.and (.call 2 [(.var 2)]) (.cmp .ge (.ix (.var 2) (.int 0)) (.int 0))) (.name 2) (.var 1) none [2])) [
    .ret false (.bl false)] [
],
  .set (.name 3) (.tup [(.int 0), (.int 1)]),
  .forR (.name 2) 1 [
    .set (.name 3) (.call 4 [(.var 3), (.var 2)])],
  .ret false (.cmp .eq (.var 3) (.tup [(.int 1), (.int 1)]))] }
def d_is_chain : Def := { np := 1, nn := 2, io := false, body := [
  .iff (.or (.not (.isi (.var 0) .tuple)) (.not (.chain .le .le (.int 1) (.bi .len [(.var 0)]) (.glob 1)))) [
    .ret false (.bl false)] [
],
  .ret false (.gen .all (.call 6 [(.bi .len [(.var 0)]), (.var 1)]) (.name 1) (.var 0) none [1])] }
def d_mean_of : Def := { np := 2, nn := 5, io := false, body := [
  .set (.name 2) (.tup [(.int 0), (.int 1)]),
  .forS (.tup [(.name 3), (.name 4)]) (.zip [(.var 0), (.var 1)]) [
    .set (.name 2) (.call 4 [(.var 2), (.call 5 [(.var 3), (.var 4)])])],
  .ret false (.var 2)] }
def d_chances_behind : Def := { np := 3, nn := 7, io := false, body := [
  .iff (.not (.call 0 [(.var 2), (.int 0), (.glob 2)])) [
    .raise 1] [
],
  .set (.name 3) (.bi .tuple [(.lc (.ite (.cmp .eq (.var 4) (.var 1)) (.tup [(.int 1), (.int 1)]) (.tup [(.int 0), (.int 1)])) (.name 4) (.rng [(.bi .len [(.var 0)])]) none [4])]),
  .forS (.name 5) (.rng [(.var 2)]) [
    .set (.name 3) (.bi .tuple [(.lc (.call 8 [(.var 3), (.lc (.ix (.var 6) (.var 4)) (.name 6) (.var 0) none [6])]) (.name 4) (.rng [(.bi .len [(.var 0)])]) none [4])])],
  .ret false (.var 3)] }
def d_row_chance : Def := { np := 3, nn := 6, io := false, body := [
  .par [3, 4] [(.tup [(.int 1), (.int 1)]), (.var 1)],
  .forR (.name 5) 2 [
    .set (.name 3) (.call 5 [(.var 3), (.ix (.ix (.var 0) (.var 4)) (.var 5))]),
    .set (.name 4) (.var 5)],
  .ret false (.var 3)] }
def d__law_draws : Def := { np := 1, nn := 7, io := false, body := [
  .set (.name 1) (.lst []),
  .forR (.name 2) 0 [
    .set (.name 3) (.bi .abs [(.var 2)]),
    .iff (.cmp .lt (.var 3) (.bin .pow (.int 10) (.int 18))) [
      .set (.name 4) (.bin .mod (.bi .int [(.bin .add (.bin .mul (.var 3) (.int 48271)) (.int 11))]) (.int 2147483647)),
      .app 1 (.bin .mod (.bi .int [(.bin .add (.bin .mul (.var 4) (.int 69621)) (.var 3))]) (.int 2147483629)),
      .app 1 (.bin .mod (.bi .int [(.bin .add (.var 4) (.bin .fdiv (.var 3) (.int 7)))]) (.int 1000003)),
      .set (.name 3) (.int 0)] [
],
    .forS (.name 5) (.rng [(.int 60)]) [
      .iff (.cmp .gt (.var 3) (.int 0)) [
        .app 1 (.bin .mod (.bi .int [(.var 3)]) (.int 997)),
        .set (.name 3) (.bin .fdiv (.var 3) (.int 997))] [
]]],
  .set (.name 6) (.int 1),
  .iff (.cmp .gt (.bi .len [(.var 0)]) (.int 0)) [
    .set (.name 6) (.bin .add (.int 1) (.bi .abs [(.ix (.var 0) (.int 0))]))] [
],
  .forS (.name 5) (.rng [(.int 900)]) [
    .set (.name 6) (.bin .mod (.bi .int [(.bin .add (.bin .mul (.var 6) (.int 48271)) (.int 69621))]) (.int 2147483647)),
    .app 1 (.bin .fdiv (.var 6) (.int 5))],
  .ret false (.revd (.var 1))] }
def d__law_take : Def := { np := 2, nn := 2, io := true, body := [
  .iff (.cmp .eq (.bi .len [(.var 0)]) (.int 0)) [
    .ret true (.int 0)] [
],
  .ret true (.bin .mod (.bi .int [(.pop 0)]) (.var 1))] }
def d__law_says : Def := { np := 2, nn := 2, io := false, body := [
  .ret false (.and (.isi (.var 0) .bool) (.cmp .eq (.var 0) (.var 1)))] }
def d__law_alike : Def := { np := 2, nn := 3, io := false, body := [
  .iff (.or (.isi (.var 1) .list) (.isi (.var 1) .tuple)) [
    .iff (.or (.cmp .ne (.isi (.var 0) .list) (.isi (.var 1) .list)) (.cmp .ne (.isi (.var 0) .tuple) (.isi (.var 1) .tuple))) [
      .ret false (.bl false)] [
],
    .ret false (.and (.cmp .eq (.bi .len [(.var 0)]) (.bi .len [(.var 1)])) (.cmp .eq (.lc (.var 2) (.name 2) (.rng [(.bi .len [(.var 1)])]) (some (.not (.call 14 [(.ix (.var 0) (.var 2)), (.ix (.var 1) (.var 2))]))) [2]) (.lst [])))] [
],
  .iff (.cmp .is (.var 1) .non) [
    .ret false (.cmp .is (.var 0) .non)] [
],
  .iff (.or (.isi (.var 1) .bool) (.isi (.var 0) .bool)) [
    .ret false (.and (.isi (.var 0) .bool) (.and (.isi (.var 1) .bool) (.cmp .eq (.var 0) (.var 1))))] [
],
  .iff (.isi (.var 1) .int) [
    .ret false (.and (.isi (.var 0) .int) (.cmp .eq (.var 0) (.var 1)))] [
],
  .ret false (.and (.isi (.var 0) .str) (.cmp .eq (.var 0) (.var 1)))] }
def d__law_word : Def := { np := 1, nn := 3, io := false, body := [
  .set (.name 1) (.lst [(.isx (.var 0) [(Str.ofString "OutOfRange")] [(Str.ofString "CampError"), (Str.ofString "Malformed"), (Str.ofString "NotThere"), (Str.ofString "Refused"), (Str.ofString "TooMuch")]), (.isx (.var 0) [(Str.ofString "Refused")] [(Str.ofString "CampError"), (Str.ofString "OutOfRange"), (Str.ofString "Malformed"), (Str.ofString "NotThere"), (Str.ofString "TooMuch")]), (.isx (.var 0) [(Str.ofString "Malformed")] [(Str.ofString "CampError"), (Str.ofString "OutOfRange"), (Str.ofString "NotThere"), (Str.ofString "Refused"), (Str.ofString "TooMuch")]), (.isx (.var 0) [(Str.ofString "NotThere")] [(Str.ofString "CampError"), (Str.ofString "OutOfRange"), (Str.ofString "Malformed"), (Str.ofString "Refused"), (Str.ofString "TooMuch")]), (.isx (.var 0) [(Str.ofString "TooMuch")] [(Str.ofString "CampError"), (Str.ofString "OutOfRange"), (Str.ofString "Malformed"), (Str.ofString "NotThere"), (Str.ofString "Refused")])]),
  .iff (.cmp .ne (.bi .len [(.lc (.var 2) (.name 2) (.hotL (.var 1)) (some (.var 2)) [2])]) (.int 1)) [
    .ret false (.str (Str.ofString "another"))] [
],
  .ret false (.ix (.lst [(.str (Str.ofString "range")), (.str (Str.ofString "refused")), (.str (Str.ofString "form")), (.str (Str.ofString "none")), (.str (Str.ofString "much"))]) (.idx (.var 1) (.bl true)))] }
def d__law_gcd : Def := { np := 2, nn := 2, io := false, body := [
  .par [0, 1] [(.bi .abs [(.var 0)]), (.bi .abs [(.var 1)])],
  .while (.cmp .gt (.var 1) (.int 0)) [
    .par [0, 1] [(.var 1), (.bin .mod (.bi .int [(.var 0)]) (.var 1))]],
  .ret false (.var 0)] }
def d__law_part : Def := { np := 2, nn := 3, io := false, body := [
  .set (.name 2) (.call 16 [(.var 0), (.var 1)]),
  .ret false (.tup [(.bin .fdiv (.var 0) (.var 2)), (.bin .fdiv (.var 1) (.var 2))])] }
def d__law_plus : Def := { np := 2, nn := 2, io := false, body := [
  .ret false (.call 17 [(.bin .add (.bin .mul (.ix (.var 0) (.int 0)) (.ix (.var 1) (.int 1))) (.bin .mul (.ix (.var 1) (.int 0)) (.ix (.var 0) (.int 1)))), (.bin .mul (.ix (.var 0) (.int 1)) (.ix (.var 1) (.int 1)))])] }
def d__law_minus : Def := { np := 2, nn := 2, io := false, body := [
  .ret false (.call 17 [(.bin .sub (.bin .mul (.ix (.var 0) (.int 0)) (.ix (.var 1) (.int 1))) (.bin .mul (.ix (.var 1) (.int 0)) (.ix (.var 0) (.int 1)))), (.bin .mul (.ix (.var 0) (.int 1)) (.ix (.var 1) (.int 1)))])] }
def d__law_times : Def := { np := 2, nn := 2, io := false, body := [
  .ret false (.call 17 [(.bin .mul (.ix (.var 0) (.int 0)) (.ix (.var 1) (.int 0))), (.bin .mul (.ix (.var 0) (.int 1)) (.ix (.var 1) (.int 1)))])] }
def d__law_less : Def := { np := 2, nn := 2, io := false, body := [
  .ret false (.cmp .lt (.bin .mul (.ix (.var 0) (.int 0)) (.ix (.var 1) (.int 1))) (.bin .mul (.ix (.var 1) (.int 0)) (.ix (.var 0) (.int 1))))] }
def d__law_sum : Def := { np := 1, nn := 3, io := false, body := [
  .set (.name 1) (.tup [(.int 0), (.int 1)]),
  .forR (.name 2) 0 [
    .set (.name 1) (.call 18 [(.var 1), (.var 2)])],
  .ret false (.var 1)] }
def d__law_is_part : Def := { np := 1, nn := 2, io := false, body := [
  .iff (.or (.not (.isi (.var 0) .tuple)) (.or (.cmp .ne (.bi .len [(.var 0)]) (.int 2)) (.cmp .ne (.lc (.var 1) (.name 1) (.var 0) (some (.or (.not (.isi (.var 1) .int)) (.isi (.var 1) .bool))) [1]) (.lst [])))) [
    .ret false (.bl false)] [
],
  .ret false (.and (.cmp .gt (.ix (.var 0) (.int 1)) (.int 0)) (.cmp .eq (.call 16 [(.ix (.var 0) (.int 0)), (.ix (.var 0) (.int 1))]) (.int 1)))] }
def d__law_shares : Def := { np := 3, nn := 7, io := true, body := [
  .set (.name 3) (.lc (.callM 12 0 [(.ix (.lst [(.int 2), (.int 5), (.int 9)]) (.callM 12 0 [(.int 3)]))]) (.name 4) (.rng [(.var 1)]) none [4]),
  .set (.name 5) (.bin .add (.bi .sum [(.var 3)]) (.ix (.lst [(.callM 12 0 [(.int 4)]), (.int 0)]) (.bi .int [(.var 2)]))),
  .iff (.cmp .eq (.var 5) (.int 0)) [
    .setIx 3 (.callM 12 0 [(.var 1)]) (.int 1),
    .set (.name 5) (.int 1)] [
],
  .ret true (.bi .tuple [(.lc (.call 17 [(.var 6), (.var 5)]) (.name 6) (.var 3) none [6])])] }
def d__law_chain : Def := { np := 2, nn := 8, io := true, body := [
  .par [2, 3] [(.bin .add (.int 1) (.callM 12 0 [(.var 1)])), (.lst [])],
  .forS (.name 4) (.rng [(.var 2)]) [
    .set (.name 5) (.lc (.callM 12 0 [(.int 4)]) (.name 6) (.rng [(.var 2)]) none [6]),
    .setIx 5 (.callM 12 0 [(.var 2)]) (.bin .add (.int 1) (.callM 12 0 [(.int 3)])),
    .app 3 (.bi .tuple [(.lc (.call 17 [(.var 7), (.bi .sum [(.var 5)])]) (.name 7) (.var 5) none [7])])],
  .ret true (.bi .tuple [(.var 3)])] }
def d__law_told : Def := { np := 3, nn := 4, io := false, body := [
  .tryS [
    .ret false (.call 9 [(.var 0), (.var 1), (.var 2)])] 3 [(Str.ofString "CampError"), (Str.ofString "OutOfRange"), (Str.ofString "Malformed"), (Str.ofString "NotThere"), (Str.ofString "Refused"), (Str.ofString "TooMuch")] (
    .ret false (.call 15 [(.var 3)]))] }
def d__law_rows : Def := { np := 2, nn := 7, io := false, body := [
  .set (.name 2) (.lst [(.tup [])]),
  .forS (.name 3) (.rng [(.var 1)]) [
    .set (.name 4) (.lst []),
    .forR (.name 5) 2 [
      .set (.name 4) (.bin .add (.var 4) (.lc (.bin .add (.var 5) (.tup [(.var 6)])) (.name 6) (.rng [(.var 0)]) none [6]))],
    .set (.name 2) (.var 4)],
  .ret false (.var 2)] }
def d__law_row_chance : Def := { np := 3, nn := 6, io := false, body := [
  .par [3, 4] [(.tup [(.int 1), (.int 1)]), (.var 1)],
  .forR (.name 5) 2 [
    .par [3, 4] [(.call 20 [(.var 3), (.ix (.ix (.var 0) (.var 4)) (.var 5))]), (.var 5)]],
  .ret false (.var 3)] }
def b_law_1 : List S := [
      .set (.name 9) (.lc (.call 28 [(.var 2), (.var 4), (.var 10)]) (.name 10) (.var 6) (some (.cmp .eq (.ite (.cmp .gt (.var 5) (.int 0)) (.ix (.var 10) (.neg (.int 1))) (.var 4)) (.var 8))) [10]),
      .app 7 (.call 22 [(.bin .add (.var 9) (.lst [(.tup [(.int 0), (.int 1)])]))])]
def b_law_2 : List S := [
      .app 13 (.call 22 [(.lc (.call 20 [(.ix (.var 12) (.var 14)), (.ix (.call 9 [(.var 2), (.var 14), (.var 5)]) (.var 8))]) (.name 14) (.rng [(.var 3)]) none [14])])]
def b_law_3 : List S := [
    .set (.name 6) (.call 27 [(.var 3), (.var 5)]),
    .set (.name 7) (.lst []),
    .forS (.name 8) (.rng [(.var 3)]) b_law_1,
    .iff (.or (.not (.call 14 [(.call 26 [(.var 2), (.var 4), (.var 5)]), (.bi .tuple [(.var 7)])])) (.cmp .ne (.call 22 [(.var 7)]) (.tup [(.int 1), (.int 1)]))) [
      .ret false (.bl false)] [
],
    .set (.name 10) (.ix (.var 6) (.callM 12 1 [(.bi .len [(.var 6)])])),
    .iff (.not (.call 14 [(.call 10 [(.var 2), (.var 4), (.var 10)]), (.call 28 [(.var 2), (.var 4), (.var 10)])])) [
      .ret false (.bl false)] [
],
    .set (.name 11) (.callM 12 1 [(.int 5)]),
    .set (.name 12) (.call 26 [(.var 2), (.var 4), (.var 11)]),
    .set (.name 13) (.lst []),
    .forS (.name 8) (.rng [(.var 3)]) b_law_2,
    .iff (.cmp .ne (.call 26 [(.var 2), (.var 4), (.bin .add (.var 11) (.var 5))]) (.bi .tuple [(.var 13)])) [
      .ret false (.bl false)] [
]]
def d_law : Def := { np := 1, nn := 17, io := false, body := [
  .set (.name 1) (.call 11 [(.var 0)]),
  .set (.name 2) (.callM 25 1 [(.int 3)]),
  .par [3, 4] [(.bi .len [(.var 2)]), (.callM 12 1 [(.bi .len [(.var 2)])])],
  .iff (.not (.call 13 [(.call 7 [(.var 2)]), (.bl true)])) [
    .ret false (.bl false)] [
],
  .forS (.name 5) (.rng [(.int 4)]) b_law_3,
  .iff (.or (.cmp .ne (.lc (.call 26 [(.var 2), (.var 4), (.var 5)]) (.name 5) (.lst [(.neg (.int 1)), (.int 31)]) none [5]) (.bin .mul (.lst [(.str (Str.ofString "range"))]) (.int 2))) (.cmp .ne (.call 22 [(.bi .list [(.call 26 [(.var 2), (.var 4), (.int 9)])])]) (.tup [(.int 1), (.int 1)]))) [
    .ret false (.bl false)] [
],
  .set (.name 10) (.ix (.var 2) (.int 0)),
  .set (.name 15) (.lst [.non, (.bi .list [(.var 2)]), (.tup []), (.bin .add (.var 2) (.tup [(.var 10)])), (.bin .add (.tup [(.bi .list [(.var 10)])]) (.sl (.var 2) (some (.int 1)) none)), (.bin .add (.tup [(.sl (.var 10) (some (.int 1)) none)]) (.sl (.var 2) (some (.int 1)) none)), (.bin .add (.tup [(.bin .add (.var 10) (.tup [(.tup [(.int 0), (.int 1)])]))]) (.sl (.var 2) (some (.int 1)) none)), (.bin .add (.tup [.non]) (.sl (.var 2) (some (.int 1)) none)), (.ite (.cmp .ne (.var 3) (.int 2)) (.bin .add (.tup [(.bin .mul (.tup [(.tup [(.int 1), (.int 2)])]) (.var 3))]) (.sl (.var 2) (some (.int 1)) none)) .non), (.ite (.cmp .eq (.var 3) (.int 2)) (.bin .add (.tup [(.bin .add (.tup [(.tup [(.int 3), (.int 2)]), (.tup [(.neg (.int 1)), (.int 2)])]) (.sl (.var 10) (some (.int 2)) none))]) (.sl (.var 2) (some (.int 1)) none)) .non), (.bin .mul (.tup [(.tup [(.tup [(.int 1), (.int 1)])])]) (.int 2)), (.tup [(.tup [(.int 1)])]), (.tup [(.tup [(.tup [(.int 2), (.int 2)])])]), (.tup [(.tup [(.tup [(.int 1), (.int 2)])])]), (.bin .mul (.tup [(.bin .mul (.tup [(.tup [(.int 1), (.int 5)])]) (.int 5))]) (.int 5))]),
  .ret false (.and (.cmp .eq (.lc (.var 16) (.name 16) (.var 15) (some (.cmp .isnot (.call 7 [(.var 16)]) (.bl false))) [16]) (.lst [])) (.cmp .is (.call 7 [(.tup [(.tup [(.tup [(.int 1), (.int 1)])])])]) (.bl true)))] }
def dns : List Dn := [
  { name := "is_number", at_ := 0, N := ["value", "least", "most"], io := false },
  { name := "is_exact", at_ := 1, N := ["value", "part", "whole", "one"], io := false },
  { name := "is_fraction", at_ := 2, N := ["value"], io := false },
  { name := "lowest", at_ := 3, N := ["part", "whole", "common"], io := false },
  { name := "plus", at_ := 4, N := ["one", "other"], io := false },
  { name := "times", at_ := 5, N := ["one", "other"], io := false },
  { name := "is_chain_row", at_ := 6, N := ["many", "value", "one", "whole"], io := false },
  { name := "is_chain", at_ := 7, N := ["value", "row"], io := false },
  { name := "mean_of", at_ := 8, N := ["row", "values", "found", "chance", "one"], io := false },
  { name := "chances_behind", at_ := 9, N := ["chain", "kind", "t", "found", "other", "_", "row"], io := false },
  { name := "row_chance", at_ := 10, N := ["chain", "kind", "row", "found", "last", "other"], io := false },
  { name := "_law_draws", at_ := 11, N := ["script", "draws", "cell", "number", "first", "k", "seed"], io := false },
  { name := "_law_take", at_ := 12, N := ["draws", "bound"], io := true },
  { name := "_law_says", at_ := 13, N := ["told", "due"], io := false },
  { name := "_law_alike", at_ := 14, N := ["found", "due", "k"], io := false },
  { name := "_law_word", at_ := 15, N := ["error", "kinds", "one"], io := false },
  { name := "_law_gcd", at_ := 16, N := ["one", "other"], io := false },
  { name := "_law_part", at_ := 17, N := ["one", "other", "common"], io := false },
  { name := "_law_plus", at_ := 18, N := ["one", "other"], io := false },
  { name := "_law_minus", at_ := 19, N := ["one", "other"], io := false },
  { name := "_law_times", at_ := 20, N := ["one", "other"], io := false },
  { name := "_law_less", at_ := 21, N := ["one", "other"], io := false },
  { name := "_law_sum", at_ := 22, N := ["rows", "found", "one"], io := false },
  { name := "_law_is_part", at_ := 23, N := ["value", "one"], io := false },
  { name := "_law_shares", at_ := 24, N := ["draws", "many", "full", "numbers", "k", "whole", "number"], io := true },
  { name := "_law_chain", at_ := 25, N := ["draws", "most", "n", "rows", "k", "parts", "j", "one"], io := true },
  { name := "_law_told", at_ := 26, N := ["chain", "kind", "t", "e"], io := false },
  { name := "_law_rows", at_ := 27, N := ["many", "size", "found", "k", "later", "row", "kind"], io := false },
  { name := "_law_row_chance", at_ := 28, N := ["chain", "kind", "row", "found", "last", "one"], io := false },
  { name := "law", at_ := 29, N := ["script", "draws", "chain", "n", "kind", "t", "rows", "due", "last", "parts", "row", "s", "ahead", "both", "k", "odd", "value"], io := false }]
def glos : List (Str × PyData) := [("LIMIT", (.int 1000000000000000000000000000000000000000000000000000000000000)), ("MOST_KINDS", (.int 4)), ("MOST_DAYS", (.int 30))]
def xs : List (Str × List Str) := [("CampError", ["CampError"]), ("OutOfRange", ["OutOfRange", "CampError"]), ("Malformed", ["Malformed", "CampError"]), ("NotThere", ["NotThere", "CampError"]), ("Refused", ["Refused", "CampError"]), ("TooMuch", ["TooMuch", "CampError"])]
def hots : List Str := ["_law_word"]
def defs : List Fw.Def := [d_is_number, d_is_exact, d_is_fraction, d_lowest, d_plus, d_times, d_is_chain_row, d_is_chain, d_mean_of, d_chances_behind, d_row_chance, d__law_draws, d__law_take, d__law_says, d__law_alike, d__law_word, d__law_gcd, d__law_part, d__law_plus, d__law_minus, d__law_times, d__law_less, d__law_sum, d__law_is_part, d__law_shares, d__law_chain, d__law_told, d__law_rows, d__law_row_chance, d_law]
def G (k : Nat) : Option PyData := glos[k]?.map Prod.snd
set_option maxHeartbeats 4000000
theorem num (n : Nat) (d : D) (a b : Int) : cv (callP G defs (n + 1) 0 [d, .int a, .int b]) = some (.val (.bool (isNum d a b))) := s_num rfl d a b
theorem g0 : G 0 = some (.int LIM) := rfl
theorem g1 : G 1 = some (.int 4) := rfl
theorem g2 : G 2 = some (.int 30) := rfl
theorem plusN (n : Nat) {N a b : Nat} (h0 : 0 < N) (hN : N < 2 ^ 199) (h : a + b ≤ N) : cv (callP G defs (n + 2) 4 [frN N a, frN N b]) = some (.val (frN N (a + b))) := by
  have := s_plus (G := G) (P := defs) (n := n) (k := 4) (l := 3) rfl rfl (rN_bd h0 hN (a := a) (by omega)) (rN_bd h0 hN (a := b) (by omega)) (by decide)
  rw [rN_add] at this
  exact this
theorem timesN (n : Nat) {N K a b : Nat} (h0 : 0 < N) (hN : N < 2 ^ 199) (h1 : 0 < K) (hK : K < 2 ^ 199) (ha : a ≤ N) (hb : b ≤ K) : cv (callP G defs (n + 2) 5 [frN N a, frN K b]) = some (.val (frN (N * K) (a * b))) := by
  have := s_times (G := G) (P := defs) (n := n) (k := 5) (l := 3) rfl rfl (rN_bd h0 hN ha) (rN_bd h1 hK hb) (by decide)
  rw [rN_mul] at this
  exact this
theorem part (n : Nat) {p w : Int} {i : Nat} (hw : 0 < w) (hp : p.natAbs < 2 ^ i) (hb : w.natAbs < 2 ^ i) (hi : i ≤ 8000) : cv (callP G defs (n + 2) 17 [.int p, .int w]) = some (.val (fr (Rat.divInt p w))) := s_lpart (g := 16) rfl rfl hw hp hb hi hi
theorem lplusN (n : Nat) {N a b : Nat} (h0 : 0 < N) (hN : N < 2 ^ 199) (h : a + b ≤ N) : cv (callP G defs (n + 3) 18 [frN N a, frN N b]) = some (.val (frN N (a + b))) := by
  have ba := rN_bd h0 hN (a := a) (by omega)
  have bb := rN_bd h0 hN (a := b) (by omega)
  have := s_plusG (G := G) (P := defs) (n := n + 2) (k := 18) (l := 17) rfl ba bb (by decide) (by decide) (part n (Int.mul_pos (den_pos _) (den_pos _)) (sm_add (sm_mul ba.1 bb.dn) (sm_mul bb.1 ba.dn) (k := 400) (by decide)) (sm_up (sm_mul ba.dn bb.dn) (by decide)) (by decide))
  rw [rN_add] at this
  exact this
theorem ltimesN (n : Nat) {N K a b : Nat} (h0 : 0 < N) (hN : N < 2 ^ 199) (h1 : 0 < K) (hK : K < 2 ^ 199) (ha : a ≤ N) (hb : b ≤ K) : cv (callP G defs (n + 3) 20 [frN N a, frN K b]) = some (.val (frN (N * K) (a * b))) := by
  have ba := rN_bd h0 hN ha
  have bb := rN_bd h1 hK hb
  have := s_timesG (G := G) (P := defs) (n := n + 2) (k := 20) (l := 17) rfl ba bb (by decide) (by decide) (part n (Int.mul_pos (den_pos _) (den_pos _)) (sm_mul ba.1 bb.1) (sm_mul ba.dn bb.dn) (by decide))
  rw [rN_mul] at this
  exact this
theorem one_n : PyData.tuple [.int 1, .int 1] = frN 1 1 := (frN_one (by decide)).symm
theorem lsumN (n : Nat) {N : Nat} (h0 : 0 < N) (hN : N < 2 ^ 199) (as : List Nat) (hs : as.sum ≤ N) (hl : as.length ≤ 100000) : cv (callP G defs (n + 4) 22 [.list (as.map (frN N))]) = some (.val (frN N as.sum)) := by
  refine cv_ho (d := d__law_sum) rfl rfl ?_
  simp [d__law_sum, startE]
  refine ho_for (inj := frN N) (xs := as) (fun p r => ∃ s, r = [.fz (.list (as.map (frN N))), .fz (frN N p.sum), s]) rfl ⟨_, by rw [List.sum_nil, frN_zero]⟩ (fun p x q r hx hr => ?_) (fun r hr => ?_)
  · obtain ⟨s, rfl⟩ := hr
    have hb : p.sum + x ≤ N := by rw [hx] at hs; simp at hs; omega
    have e := lplusN n h0 hN hb
    simp [e]
  · obtain ⟨s, rfl⟩ := hr
    simp
/-! ### chains -/
def row (n : Nat) (c : Nat → Nat → Nat) (M i : Nat) : D := .tuple ((List.range n).map fun j => frN M (c i j))
def chD (n : Nat) (c : Nat → Nat → Nat) (M : Nat) : D := .tuple ((List.range n).map (row n c M))
structure Ch (n : Nat) (c : Nat → Nat → Nat) (M : Nat) : Prop where
  n1 : 1 ≤ n
  n2 : n ≤ 3
  m1 : 0 < M
  m2 : M < 2 ^ 10
  s : ∀ i < n, sg (c i) n = M
theorem Ch.le {n : Nat} {c : Nat → Nat → Nat} {M : Nat} (h : Ch n c M) {i j : Nat} (hi : i < n) (hj : j < n) : c i j ≤ M := by
  rw [← h.s i hi]
  exact sg_at hj
theorem Ch.pw {n : Nat} {c : Nat → Nat → Nat} {M : Nat} (h : Ch n c M) {t : Nat} (ht : t ≤ 12) : 0 < M ^ t ∧ M ^ t < 2 ^ 199 := by
  refine ⟨Nat.pow_pos h.m1, ?_⟩
  have h1 : M ^ t ≤ (2 ^ 10) ^ t := Nat.pow_le_pow_left (Nat.le_of_lt h.m2) t
  have h2 : ((2 : Nat) ^ 10) ^ t ≤ (2 ^ 10) ^ 12 := Nat.pow_le_pow_right (by decide) ht
  have h3 : ((2 : Nat) ^ 10) ^ 12 < 2 ^ 199 := by decide
  omega
theorem Ch.M9 {n : Nat} {c : Nat → Nat → Nat} {M : Nat} (h : Ch n c M) : M < 2 ^ 199 := by
  have := (h.pw (t := 1) (by decide)).2
  simpa using this
/-- days on from the kind -/
def v (n : Nat) (c : Nat → Nat → Nat) (i : Nat) : Nat → Nat → Nat
  | 0, j => if j = i then 1 else 0
  | t + 1, j => sg (fun k => v n c i t k * c k j) n
theorem v_all {n : Nat} {c : Nat → Nat → Nat} {M : Nat} (h : Ch n c M) {i : Nat} (hi : i < n) : ∀ t : Nat, sg (v n c i t) n = M ^ t
  | 0 => by
    have := sg_one hi (fun _ => 1)
    exact this
  | t + 1 => by
    show sg (fun j => sg (fun k => v n c i t k * c k j) n) n = _
    rw [sg_swap, sg_congr (g := fun k => v n c i t k * M) fun k hk => by rw [sg_mulL, h.s k hk], sg_mul, v_all h hi t, Nat.pow_succ]
theorem v_le {n : Nat} {c : Nat → Nat → Nat} {M : Nat} (h : Ch n c M) {i j : Nat} (hi : i < n) (hj : j < n) (t : Nat) : v n c i t j ≤ M ^ t := by
  rw [← v_all h hi t]
  exact sg_at hj
/-- first some days, then more -/
theorem v_two {n : Nat} {c : Nat → Nat → Nat} (i s j : Nat) (hi : i < n) : ∀ t : Nat, j < n → sg (fun k => v n c i s k * v n c k t j) n = v n c i (s + t) j
  | 0, hj => by
    show sg (fun k => v n c i s k * (if j = k then 1 else 0)) n = v n c i s j
    rw [← sg_one hj (fun k => v n c i s k)]
    refine sg_congr fun k _ => ?_
    by_cases e : j = k
    · subst e; simp
    · rw [if_neg e, if_neg (fun z => e z.symm), Nat.mul_zero]
  | t + 1, hj => by
    show sg (fun k => v n c i s k * sg (fun l => v n c k t l * c l j) n) n = sg (fun l => v n c i (s + t) l * c l j) n
    rw [sg_congr (g := fun k => sg (fun l => v n c i s k * v n c k t l * c l j) n) fun k _ => by rw [← sg_mulL]; exact sg_congr fun l _ => by rw [Nat.mul_assoc], sg_swap]
    refine sg_congr fun l hl => ?_
    rw [sg_mul, v_two i s l hi t hl]
def vD (n : Nat) (c : Nat → Nat → Nat) (M i t : Nat) : D := .tuple ((List.range n).map fun j => frN (M ^ t) (v n c i t j))
theorem s_mean (m : Nat) {n N K : Nat} (hn : n ≤ 3) (f g : Nat → Nat) (h0 : 0 < N) (hN : N < 2 ^ 199) (h1 : 0 < K) (hK : K < 2 ^ 199) (hNK : N * K < 2 ^ 199) (hf : ∀ k < n, f k ≤ N) (hg : ∀ k < n, g k ≤ K) (hs : sg (fun k => f k * g k) n ≤ N * K) : cv (callP G defs (m + 3) 8 [.tuple ((List.range n).map fun k => frN N (f k)), .list ((List.range n).map fun k => frN K (g k))]) = some (.val (frN (N * K) (sg (fun k => f k * g k) n))) := by
  refine cv_ho (d := d_mean_of) rfl rfl ?_
  have z := zip_rng (fun k => frN N (f k)) (fun k => frN K (g k)) n
  simp [d_mean_of, startE, zipD_2, z]
  refine ho_for (inj := fun k => .tuple [frN N (f k), frN K (g k)]) (xs := List.range n) (fun p r => ∃ s3 s4, r = [.fz (.tuple ((List.range n).map fun k => frN N (f k))), .fz (.list ((List.range n).map fun k => frN K (g k))), .fz (frN (N * K) (sg (fun k => f k * g k) p.length)), s3, s4]) rfl ⟨_, _, by rw [List.length_nil]; show _ = [_, _, Sl.fz (frN (N * K) 0), _, _]; rw [frN_zero]⟩ (fun p x q r hx hr => ?_) (fun r hr => ?_)
  · obtain ⟨s3, s4, rfl⟩ := hr
    obtain ⟨hxn, hpl, _⟩ := mem_range_of hx
    have e1 := timesN m h0 hN h1 hK (hf x hxn) (hg x hxn)
    have hb : sg (fun k => f k * g k) (x + 1) ≤ N * K := Nat.le_trans (sg_le hxn) hs
    rw [sg_s] at hb
    have e2 := plusN m (Nat.mul_pos h0 h1) hNK hb
    have e3 := sg_s (fun k => f k * g k) x
    rw [hpl]
    simp [e1, e2, e3, hpl]
  · obtain ⟨s3, s4, rfl⟩ := hr
    simp
theorem ix_tmap {α : Type} (xs : List α) (g : α → D) {j : Nat} (h : j < xs.length) : ixD (.tuple (xs.map g)) (.int j) = some (g xs[j]) := by
  have e : place (j : Int) (xs.map g).length = some j := by
    have := place_in (j := (j : Int)) (n := (xs.map g).length) (by omega) (by simpa using h)
    simpa using this
  show ((place (j : Int) (xs.map g).length).bind fun i => (xs.map g)[i]?) = _
  rw [e]
  simp [h]
theorem s_behind (m : Nat) {n : Nat} {c : Nat → Nat → Nat} {M : Nat} (h : Ch n c M) {i : Nat} (hi : i < n) {t : Nat} (ht : t ≤ 9) : cv (callP G defs (m + 4) 9 [chD n c M, .int i, .int t]) = some (.val (vD n c M i t)) := by
  refine cv_ho (d := d_chances_behind) rfl rfl ?_
  have n2 := h.n2
  have l1 : biD .len [chD n c M] = some (.val (.int n)) := by simp [chD]
  have rg := rg_int (n := n) (by omega)
  have rt := rg_int (n := t) (by omega)
  have hn : isNum (.int t) 0 30 = true := by simp [isNum]; omega
  have sq : seqOf (chD n c M) = some ((List.range n).map (row n c M)) := rfl
  simp [d_chances_behind, startE, num, g2, hn, l1, rg]
  refine ho_lc (inj := fun k : Nat => PyData.int k) (xs := List.range n) (fun j => frN 1 (v n c i 0 j)) rfl (fun j hj => ?_) ?_
  · simp only [Turn]
    by_cases e : j = i
    · subst e
      simp [v, frN_one]
    · have e' : ¬ ((j : Int) = (i : Int)) := by omega
      simp [v, e, e', frN_zero]
  simp [rt]
  refine ho_for (inj := fun k : Nat => PyData.int k) (xs := List.range t) (fun p r => ∃ s4 s5 s6, r = [.fz (chD n c M), .fz (.int i), .fz (.int t), .fz (vD n c M i p.length), s4, s5, s6]) rfl ⟨.no, .no, .no, by simp [vD]⟩ (fun p x q r hx hr => ?_) (fun r hr => ?_)
  · obtain ⟨s4, s5, s6, rfl⟩ := hr
    obtain ⟨hxt, hpl, _⟩ := mem_range_of hx
    rw [hpl]
    simp [l1, rg]
    refine ho_lc (inj := fun k : Nat => PyData.int k) (xs := List.range n) (fun j => frN (M ^ x * M) (sg (fun k => v n c i x k * c k j) n)) rfl (fun j hj => ?_) ?_
    · have hj := List.mem_range.mp hj
      simp only [Turn]
      simp [sq]
      refine ho_lc (inj := row n c M) (xs := List.range n) (fun k => frN M (c k j)) rfl (fun k hk => ?_) ?_
      · simp only [Turn]
        have ix : ixD (row n c M k) (.int j) = some (frN M (c k j)) := by
          have := ix_tmap (List.range n) (fun j => frN M (c k j)) (j := j) (by simpa using hj)
          simp only [List.getElem_range] at this
          exact this
        simp [ix]
      have hs : sg (fun k => v n c i x k * c k j) n ≤ M ^ x * M := v_le h hi hj (x + 1)
      have e := s_mean m (n := n) n2 (fun k => v n c i x k) (fun k => c k j) (h.pw (t := x) (by omega)).1 (h.pw (t := x) (by omega)).2 h.m1 h.M9 (h.pw (t := x + 1) (by omega)).2 (fun k hk => v_le h hi hk x) (fun k hk => h.le hk hj) hs
      simp [vD, e]
    · simp [vD, hpl, v, Nat.pow_succ]
  · obtain ⟨s4, s5, s6, rfl⟩ := hr
    simp
def tD (p : List Nat) : D := .tuple (p.map fun k : Nat => .int k)
def ws (c : Nat → Nat → Nat) (i : Nat) (p : List Nat) : Nat × Nat := p.foldl (fun a k => (a.1 * c a.2 k, k)) (1, i)
theorem ws_snoc (c : Nat → Nat → Nat) (i : Nat) (p : List Nat) (k : Nat) : ws c i (p ++ [k]) = ((ws c i p).1 * c (ws c i p).2 k, k) := by
  unfold ws
  rw [List.foldl_append]
  rfl
theorem ws_last {n : Nat} (c : Nat → Nat → Nat) {i : Nat} (hi : i < n) {p : List Nat} (hp : ∀ k ∈ p, k < n) : (ws c i p).2 < n := by
  rcases List.eq_nil_or_concat p with rfl | ⟨q, k, rfl⟩
  · exact hi
  · rw [List.concat_eq_append, ws_snoc]
    exact hp k (by simp)
theorem ws_le {n : Nat} {c : Nat → Nat → Nat} {M : Nat} (h : Ch n c M) {i : Nat} (hi : i < n) : ∀ (m : Nat) (p : List Nat), p.length = m → (∀ k ∈ p, k < n) → (ws c i p).1 ≤ M ^ m
  | 0, p, hl, _ => by rw [List.length_eq_zero_iff.mp hl]; exact Nat.le_refl _
  | m + 1, p, hl, hp => by
    rcases List.eq_nil_or_concat p with rfl | ⟨q, k, rfl⟩
    · cases hl
    · rw [List.concat_eq_append] at *
      rw [ws_snoc, Nat.pow_succ]
      have hq : ∀ k ∈ q, k < n := fun k hk => hp k (by simp [hk])
      exact Nat.mul_le_mul (ws_le h hi m q (by simpa using hl) hq) (h.le (ws_last c hi hq) (hp k (by simp)))
theorem ix_ch {n : Nat} {c : Nat → Nat → Nat} {M i : Nat} (hi : i < n) : ixD (chD n c M) (.int i) = some (row n c M i) := by
  have := ix_tmap (List.range n) (row n c M) (j := i) (by simpa using hi)
  simp only [List.getElem_range] at this
  exact this
theorem ix_row {n : Nat} {c : Nat → Nat → Nat} {M i j : Nat} (hj : j < n) : ixD (row n c M i) (.int j) = some (frN M (c i j)) := by
  have := ix_tmap (List.range n) (fun j => frN M (c i j)) (j := j) (by simpa using hj)
  simp only [List.getElem_range] at this
  exact this
theorem s_row (m : Nat) {n : Nat} {c : Nat → Nat → Nat} {M : Nat} (h : Ch n c M) {i : Nat} (hi : i < n) {p : List Nat} (hp : ∀ k ∈ p, k < n) (hl : p.length ≤ 9) : cv (callP G defs (m + 3) 10 [chD n c M, .int i, tD p]) = some (.val (frN (M ^ p.length) (ws c i p).1)) := by
  refine cv_ho (d := d_row_chance) rfl rfl ?_
  simp [d_row_chance, startE, tD]
  refine ho_for (inj := fun k : Nat => PyData.int k) (xs := p) (fun q r => ∃ s5, r = [.fz (chD n c M), .fz (.int i), .fz (.tuple (p.map fun k : Nat => .int k)), .fz (frN (M ^ q.length) (ws c i q).1), .fz (.int (ws c i q).2), s5]) rfl ⟨.no, by rw [one_n]; rfl⟩ (fun q x q' r hx hr => ?_) (fun r hr => ?_)
  · obtain ⟨s5, rfl⟩ := hr
    have hq : ∀ k ∈ q, k < n := fun k hk => hp k (by rw [hx]; simp [hk])
    have hxn : x < n := hp x (by rw [hx]; simp)
    have ql : q.length ≤ 8 := by rw [hx] at hl; simp at hl; omega
    have w1 := ws_le h hi q.length q rfl hq
    have w2 := ws_last c hi hq
    have e1 := ix_ch (c := c) (M := M) w2
    have e2 := ix_row (c := c) (M := M) (i := (ws c i q).2) hxn
    have e3 := timesN m (h.pw (t := q.length) (by omega)).1 (h.pw (t := q.length) (by omega)).2 h.m1 h.M9 w1 (h.le w2 hxn)
    simp [e1, e2, e3, ws_snoc, Nat.pow_succ]
  · obtain ⟨s5, rfl⟩ := hr
    simp
theorem s_lrow (m : Nat) {n : Nat} {c : Nat → Nat → Nat} {M : Nat} (h : Ch n c M) {i : Nat} (hi : i < n) {p : List Nat} (hp : ∀ k ∈ p, k < n) (hl : p.length ≤ 9) : cv (callP G defs (m + 4) 28 [chD n c M, .int i, tD p]) = some (.val (frN (M ^ p.length) (ws c i p).1)) := by
  refine cv_ho (d := d__law_row_chance) rfl rfl ?_
  simp [d__law_row_chance, startE, tD]
  refine ho_for (inj := fun k : Nat => PyData.int k) (xs := p) (fun q r => ∃ s5, r = [.fz (chD n c M), .fz (.int i), .fz (.tuple (p.map fun k : Nat => .int k)), .fz (frN (M ^ q.length) (ws c i q).1), .fz (.int (ws c i q).2), s5]) rfl ⟨.no, by rw [one_n]; rfl⟩ (fun q x q' r hx hr => ?_) (fun r hr => ?_)
  · obtain ⟨s5, rfl⟩ := hr
    have hq : ∀ k ∈ q, k < n := fun k hk => hp k (by rw [hx]; simp [hk])
    have hxn : x < n := hp x (by rw [hx]; simp)
    have ql : q.length ≤ 8 := by rw [hx] at hl; simp at hl; omega
    have w1 := ws_le h hi q.length q rfl hq
    have w2 := ws_last c hi hq
    have e1 := ix_ch (c := c) (M := M) w2
    have e2 := ix_row (c := c) (M := M) (i := (ws c i q).2) hxn
    have e3 := ltimesN m (h.pw (t := q.length) (by omega)).1 (h.pw (t := q.length) (by omega)).2 h.m1 h.M9 w1 (h.le w2 hxn)
    simp [e1, e2, e3, ws_snoc, Nat.pow_succ]
  · obtain ⟨s5, rfl⟩ := hr
    simp
def nx (n : Nat) (L : List (List Nat)) : List (List Nat) := L.flatMap fun p => (List.range n).map fun k => p ++ [k]
def rs (n : Nat) : Nat → List (List Nat)
  | 0 => [[]]
  | t + 1 => nx n (rs n t)
theorem nx_snoc (n : Nat) (L : List (List Nat)) (p : List Nat) : nx n (L ++ [p]) = nx n L ++ (List.range n).map fun k => p ++ [k] := by
  unfold nx
  rw [List.flatMap_append]
  simp
theorem nx_len (n : Nat) : ∀ L : List (List Nat), (nx n L).length = n * L.length
  | [] => by simp [nx]
  | p :: L => by
    have := nx_len n L
    unfold nx at *
    rw [List.flatMap_cons, List.length_append, this, List.length_map, List.length_range, List.length_cons, Nat.mul_succ]
    omega
theorem rs_len (n : Nat) : ∀ t : Nat, (rs n t).length = n ^ t
  | 0 => rfl
  | t + 1 => by
    show (nx n (rs n t)).length = _
    rw [nx_len, rs_len n t, Nat.pow_succ, Nat.mul_comm]
theorem rs_mem {n : Nat} : ∀ {t : Nat} {p : List Nat}, p ∈ rs n t → p.length = t ∧ ∀ k ∈ p, k < n
  | 0, p, h => by
    have : p = [] := by simpa [rs] using h
    subst this
    simp
  | t + 1, p, h => by
    have h : p ∈ nx n (rs n t) := h
    unfold nx at h
    obtain ⟨q, hq, h⟩ := List.mem_flatMap.mp h
    obtain ⟨k, hk, rfl⟩ := List.mem_map.mp h
    obtain ⟨h1, h2⟩ := rs_mem hq
    refine ⟨by simp [h1], fun j hj => ?_⟩
    rcases List.mem_append.mp hj with hj | hj
    · exact h2 j hj
    · rw [List.mem_singleton.mp hj]; exact List.mem_range.mp hk
theorem p3 {n t : Nat} (hn : n ≤ 3) (ht : t ≤ 3) : n ^ t ≤ 27 := by
  have h1 : n ^ t ≤ 3 ^ t := Nat.pow_le_pow_left hn t
  have h2 : 3 ^ t ≤ 3 ^ 3 := Nat.pow_le_pow_right (by decide) ht
  omega
theorem s_lrows (m : Nat) {n : Nat} (hn : n ≤ 3) {t : Nat} (ht : t ≤ 3) : ∃ w, cv (callP G defs (m + 1) 27 [.int n, .int t]) = some w ∧ (w = .new (.list ((rs n t).map tD)) ∨ w = .val (.list ((rs n t).map tD))) := by
  refine cv_hoE (d := d__law_rows) rfl rfl ?_
  have rg := rg_int (n := n) (by omega)
  have rt := rg_int (n := t) (by omega)
  have slb := sl_big
  simp [d__law_rows, startE, rt]
  refine ho_for (inj := fun k : Nat => PyData.int k) (xs := List.range t) (fun p r => ∃ s2 s3 s4 s5 s6, (s2 = .ow (.list ((rs n p.length).map tD)) ∨ s2 = .fz (.list ((rs n p.length).map tD))) ∧ r = [.fz (.int n), .fz (.int t), s2, s3, s4, s5, s6]) rfl ⟨_, .no, .no, .no, .no, .inl rfl, rfl⟩ (fun p x q r hx hr => ?_) (fun r hr => ?_)
  · obtain ⟨s2, s3, s4, s5, s6, hs2, rfl⟩ := hr
    obtain ⟨hxt, hpl, _⟩ := mem_range_of hx
    rw [hpl] at hs2
    have ll : (rs n x).length ≤ 27 := by rw [rs_len]; exact p3 hn (by omega)
    have en : rs n (p.length + 1) = nx n (rs n x) := by rw [hpl]; rfl
    have turn : ∀ (s2 : Sl) (p' : List (List Nat)) (y : List Nat) (q' : List (List Nat)) (r : Fw.Env) (Q : Res Out → Prop), rs n x = p' ++ y :: q' → (∃ s5 s6, r = [.fz (.int n), .fz (.int t), s2, .fz (.int x), .ow (.list ((nx n p').map tD)), s5, s6]) → Ho (bodyE G (callP G defs m) (.name 5) [.set (.name 4) (.bin .add (.var 4) (.lc (.bin .add (.var 5) (.tup [(.var 6)])) (.name 6) (.rng [(.var 0)]) none [6]))] (tD y) r) (loopQ (fun r => ∃ s5 s6, r = [.fz (.int n), .fz (.int t), s2, .fz (.int x), .ow (.list ((nx n (p' ++ [y])).map tD)), s5, s6]) Q) := by
      rintro s2 p' y q' r Q hx2 ⟨s5, s6, rfl⟩
      have pl : (nx n p').length ≤ 81 := by
        rw [nx_len]
        have h1 : p'.length ≤ 27 := by rw [hx2] at ll; simp at ll; omega
        have h2 : n * p'.length ≤ 3 * p'.length := Nat.mul_le_mul_right _ hn
        omega
      simp [rg]
      refine ho_lc (inj := fun k : Nat => PyData.int k) (xs := List.range n) (fun k => tD (y ++ [k])) rfl (fun k hk => ?_) ?_
      · simp only [Turn]
        simp [tD, show y.length + 1 ≤ sizeLine by have := (rs_mem (n := n) (t := x) (p := y) (by rw [hx2]; simp)).1; omega]
      · simp [nx_snoc, show (nx n p').length + n ≤ sizeLine by omega]
    rcases hs2 with rfl | rfl
    · simp
      refine ho_forR (inj := tD) (xs := rs n x) (fun p' r => ∃ s5 s6, r = [.fz (.int n), .fz (.int t), .ow (.list ((rs n x).map tD)), .fz (.int x), .ow (.list ((nx n p').map tD)), s5, s6]) (by omega) (fun p r hr => by obtain ⟨s5, s6, rfl⟩ := hr; rfl) ⟨s5, s6, rfl⟩ (fun p' y q' r hx2 hr => turn _ _ _ _ _ _ hx2 hr) (fun r hr => ?_)
      obtain ⟨s5, s6, rfl⟩ := hr
      simp [en]
    · simp
      refine ho_for (inj := tD) (xs := rs n x) (fun p' r => ∃ s5 s6, r = [.fz (.int n), .fz (.int t), .fz (.list ((rs n x).map tD)), .fz (.int x), .ow (.list ((nx n p').map tD)), s5, s6]) rfl ⟨s5, s6, rfl⟩ (fun p' y q' r hx2 hr => turn _ _ _ _ _ _ hx2 hr) (fun r hr => ?_)
      obtain ⟨s5, s6, rfl⟩ := hr
      simp [en]
  · obtain ⟨s2, s3, s4, s5, s6, hs2, rfl⟩ := hr
    rcases hs2 with rfl | rfl <;> simp

theorem take (n : Nat) (ns : List Int) {bound : Int} (hb : 0 < bound) : ∃ (v : Int) (ns' : List Int), cw (callP G defs (n + 1) 12 [.list (ns.map .int), .int bound]) = some (.val (.int v), .list (ns'.map .int)) ∧ 0 ≤ v ∧ v < bound := s_take rfl ns hb
/-! ### is it a chain? -/
theorem s_isrow (m : Nat) {n : Nat} {c : Nat → Nat → Nat} {M : Nat} (h : Ch n c M) {i : Nat} (hi : i < n) : cv (callP G defs (m + 3) 6 [.int n, row n c M i]) = some (.val (.bool true)) := by
  refine cv_ho (d := d_is_chain_row) rfl rfl ?_
  have l1 : biD .len [row n c M i] = some (.val (.int n)) := by simp [row]
  have i1 : isiD (row n c M i) .tuple = true := rfl
  have sq : seqOf (row n c M i) = some ((List.range n).map fun j => frN M (c i j)) := rfl
  simp [d_is_chain_row, startE, l1, i1, sq]
  refine ho_all (inj := fun j => frN M (c i j)) (xs := List.range n) (fun _ => true) rfl (fun j hj => ?_) ?_
  · have hj := List.mem_range.mp hj
    have f1 := s_isfr (G := G) (P := defs) (n := m) (k := 2) (e := 1) (g := 0) rfl rfl g0 (rN_bd h.m1 h.M9 (h.le hi hj)) (by decide)
    have f2 : ixD (fr (rN M (c i j))) (.int 0) = some (.int (rN M (c i j)).num) := rfl
    have f3 : 0 ≤ (rN M (c i j)).num := by
      unfold rN
      rw [lo_num (by have := h.m1; omega)]
      exact Int.ediv_nonneg (by omega) (by have := gcdI_pos (p := (c i j : Int)) (w := (M : Int)) (by have := h.m1; omega); omega)
    simp only [Turn]
    simp [frN, f1, f2, f3]
  simp [sq]
  refine ho_for (inj := fun j => frN M (c i j)) (xs := List.range n) (fun p r => ∃ s2, r = [.fz (.int n), .fz (row n c M i), s2, .fz (frN M (sg (c i) p.length))]) rfl ⟨.no, by rw [List.length_nil]; show _ = [_, _, _, Sl.fz (frN M 0)]; rw [frN_zero]⟩ (fun p x q r hx hr => ?_) (fun r hr => ?_)
  · obtain ⟨s2, rfl⟩ := hr
    obtain ⟨hxn, hpl, _⟩ := mem_range_of hx
    have hb : sg (c i) (x + 1) ≤ M := by rw [← h.s i hi]; exact sg_le hxn
    rw [sg_s] at hb
    have e := plusN m h.m1 h.M9 hb
    rw [hpl]
    simp [e, sg_s, hpl]
  · obtain ⟨s2, rfl⟩ := hr
    have e11 : eqD (.tuple [.int 1, .int 1]) (.tuple [.int 1, .int 1]) = some true := eq_fr 1
    rw [List.length_range, h.s i hi, frN_one h.m1]
    simp [e11]
theorem s_ischain (m : Nat) {n : Nat} {c : Nat → Nat → Nat} {M : Nat} (h : Ch n c M) : cv (callP G defs (m + 4) 7 [chD n c M]) = some (.val (.bool true)) := by
  refine cv_ho (d := d_is_chain) rfl rfl ?_
  have n1 := h.n1
  have n2 := h.n2
  have l1 : biD .len [chD n c M] = some (.val (.int n)) := by simp [chD]
  have i1 : isiD (chD n c M) .tuple = true := rfl
  have sq : seqOf (chD n c M) = some ((List.range n).map (row n c M)) := rfl
  have h1 : (1 : Int) ≤ n := by omega
  have h2 : (n : Int) ≤ 4 := by omega
  simp [d_is_chain, startE, l1, i1, sq, g1, h1, h2, n1, show n ≤ 4 by omega]
  refine ho_all (inj := row n c M) (xs := List.range n) (fun _ => true) rfl (fun i hi => ?_) ?_
  · have e := s_isrow m h (List.mem_range.mp hi)
    simp only [Turn]
    simp [l1, e]
  simp
/-- no chain, by its length or its first row -/
theorem no_chain (m : Nat) {r0 : D} {ds : List D} (hl : ds.length ≤ 3) (h : cv (callP G defs (m + 3) 6 [.int (ds.length + 1 : Nat), r0]) = some (.val (.bool false))) : cv (callP G defs (m + 4) 7 [.tuple (r0 :: ds)]) = some (.val (.bool false)) := by
  refine cv_ho (d := d_is_chain) rfl rfl ?_
  have l1 : biD .len [.tuple (r0 :: ds)] = some (.val (.int (ds.length + 1 : Nat))) := by simp
  have h1 : (1 : Int) ≤ (ds.length + 1 : Nat) := by omega
  have h2 : ((ds.length + 1 : Nat) : Int) ≤ 4 := by omega
  generalize ((ds.length + 1 : Nat) : Int) = z at *
  simp [d_is_chain, startE, l1, g1, h1, h2]
  refine ho_allN (pre := []) rfl (fun x hx => by simp at hx) ?_ ?_
  · simp only [Turn]
    simp [l1, h]
  simp
theorem no_row (m : Nat) {k : Int} {r0 : D} (h : isiD r0 .tuple = false ∨ ∃ l : Int, biD .len [r0] = some (.val (.int l)) ∧ l ≠ k) : cv (callP G defs (m + 3) 6 [.int k, r0]) = some (.val (.bool false)) := by
  refine cv_ho (d := d_is_chain_row) rfl rfl ?_
  by_cases i1 : isiD r0 .tuple = false
  · simp [d_is_chain_row, startE, i1]
  · rcases h with h | ⟨l, h1, h2⟩
    · exact absurd h i1
    · simp only [Bool.not_eq_false] at i1
      simp [d_is_chain_row, startE, i1, h1, h2]
def isF : Option Rv → Bool
  | some (.val (.bool false)) => true
  | _ => false
theorem of_isF {o : Option Rv} (h : isF o = true) : o = some (.val (.bool false)) := by
  unfold isF at h
  split at h
  · rfl
  · cases h
theorem half1 : cv (callP G defs 10 6 [.int 1, .tuple [.tuple [.int 1, .int 2]]]) = some (.val (.bool false)) := of_isF (by decide +kernel)
theorem half3 : cv (callP G defs 10 6 [.int 3, .tuple [.tuple [.int 1, .int 2], .tuple [.int 1, .int 2], .tuple [.int 1, .int 2]]]) = some (.val (.bool false)) := of_isF (by decide +kernel)
theorem neg2 : cv (callP G defs 10 6 [.int 2, .tuple [.tuple [.int 3, .int 2], .tuple [.int (-1), .int 2]]]) = some (.val (.bool false)) := of_isF (by decide +kernel)
theorem not1 : cv (callP G defs 11 7 [.tuple [.tuple [.int 1]]]) = some (.val (.bool false)) := of_isF (by decide +kernel)
theorem not2 : cv (callP G defs 11 7 [.tuple [.tuple [.tuple [.int 2, .int 2]]]]) = some (.val (.bool false)) := of_isF (by decide +kernel)
theorem not3 : cv (callP G defs 11 7 [.tuple [.tuple [.tuple [.int 1, .int 2]]]]) = some (.val (.bool false)) := of_isF (by decide +kernel)
def rowOf (as : List Nat) : D := .tuple (as.map fun a : Nat => fr (Rat.divInt (a : Int) ((as.sum : Nat) : Int)))
theorem sum_cast : ∀ as : List Nat, (as.map fun a : Nat => (a : Int)).sum = ((as.sum : Nat) : Int)
  | [] => rfl
  | a :: as => by rw [List.map_cons, List.sum_cons, List.sum_cons, sum_cast as]; omega
theorem sum_pos {as : List Nat} {a : Nat} (h : a ∈ as) : a ≤ as.sum := by
  induction as with
  | nil => cases h
  | cons b as ih =>
    rw [List.sum_cons]
    rcases List.mem_cons.mp h with rfl | h
    · omega
    · have := ih h; omega
theorem sum_3 : ∀ as : List Nat, (∀ a ∈ as, a ≤ 3) → as.sum ≤ 3 * as.length
  | [], _ => by simp
  | a :: as, h => by
    have := sum_3 as fun b hb => h b (by simp [hb])
    have := h a (by simp)
    rw [List.sum_cons, List.length_cons]
    omega
theorem sg_list : ∀ as : List Nat, sg (fun j => as.getD j 0) as.length = as.sum := by
  intro as
  rw [← sum_sg]
  congr 1
  apply List.ext_getElem
  · simp
  · intro j h1 h2
    simp at h1
    simp [h1]
theorem part_n (m : Nat) {a w : Nat} (hw : 0 < w) (ha : a < 2 ^ 10) (hb : w < 2 ^ 10) : cv (callP G defs (m + 2) 17 [.int a, .int w]) = some (.val (fr (Rat.divInt a w))) := part m (by omega) (i := 10) (by omega) (by omega) (by decide)
structure RowN (n : Nat) (as : List Nat) : Prop where
  l : as.length = n
  p : 1 ≤ as.sum
  b : as.sum ≤ 9
theorem c_turn9 (m : Nat) {n : Nat} (hn : 1 ≤ n ∧ n ≤ 3) (x : Nat) (ns : List Int) (Ls : List (List Nat)) (hl : Ls.length ≤ 3) (s1 s5 s6o s7 : Sl) (s4 : Sl) (J : Fw.Env → Prop) (Q : Res Out → Prop) (hJ : ∀ (ns' : List Int) (as : List Nat) (s4 s5 s6 s7 : Sl), RowN n as → J [.ow (.list (ns'.map .int)), s1, .fz (.int n), .ow (.list ((Ls ++ [as]).map rowOf)), s4, s5, s6, s7]) :
    Ho (bodyE G (callP G defs (m + 2)) (.name 4) [
    .set (.name 5) (.lc (.callM 12 0 [(.int 4)]) (.name 6) (.rng [(.var 2)]) none [6]),
    .setIx 5 (.callM 12 0 [(.var 2)]) (.bin .add (.int 1) (.callM 12 0 [(.int 3)])),
    .app 3 (.bi .tuple [(.lc (.call 17 [(.var 7), (.bi .sum [(.var 5)])]) (.name 7) (.var 5) none [7])])] (.int x) [.ow (.list (ns.map .int)), s1, .fz (.int n), .ow (.list (Ls.map rowOf)), s4, s5, s6o, s7]) (loopQ J Q) := by
  have rg := rg_int (n := n) (by omega)
  have slb := sl_big
  simp [rg]
  refine ho_lcI (inj := fun k : Nat => PyData.int k) (xs := List.range n) (fun p a r => ∃ (ns' : List Int) (as : List Nat) (s6 : Sl), a = as.map (fun a : Nat => .int a) ∧ as.length = p.length ∧ (∀ a ∈ as, a ≤ 3) ∧ r = [.ow (.list (ns'.map .int)), s1, .fz (.int n), .ow (.list (Ls.map rowOf)), .fz (.int x), s5, s6, s7]) rfl ⟨ns, [], s6o, rfl, rfl, by simp, rfl⟩ (fun p x q a r hx hr => ?_) (fun a r hr => ?_)
  · obtain ⟨ns', as, s6, rfl, hal, hab, rfl⟩ := hr
    obtain ⟨v, ns2, e, p1, p2⟩ := take (m + 1) ns' (bound := 4) (by decide)
    obtain ⟨w, rfl⟩ := Int.eq_ofNat_of_zero_le p1
    simp [e]
    exact ⟨ns2, as ++ [w], by simp, by simp [hal], fun a ha => by rcases List.mem_append.mp ha with h | h; exact hab a h; rw [List.mem_singleton.mp h]; omega, rfl⟩
  obtain ⟨ns', as, s6, rfl, hal, hab, rfl⟩ := hr
  rw [List.length_range] at hal
  obtain ⟨v1, ns2, e1, p1, p2⟩ := take (m + 1) ns' (bound := 3) (by decide)
  obtain ⟨v2, ns3, e2, p3, p4⟩ := take (m + 1) ns2 (bound := n) (by omega)
  obtain ⟨w1, rfl⟩ := Int.eq_ofNat_of_zero_le p1
  obtain ⟨w2, rfl⟩ := Int.eq_ofNat_of_zero_le p3
  have pl : place (w2 : Int) as.length = some w2 := by
    have := place_in (j := (w2 : Int)) (n := as.length) (by omega) (by omega)
    simpa using this
  have st : (as.map fun a : Nat => PyData.int a).set w2 (.int (1 + (w1 : Int))) = (as.set w2 (1 + w1)).map fun a : Nat => PyData.int a := by
    rw [List.map_set]
    simp
  have hs3 : ∀ a ∈ as.set w2 (1 + w1), a ≤ 3 := fun a ha => by
    rcases List.mem_or_eq_of_mem_set ha with h | h
    · exact hab a h
    · omega
  have hsl : (as.set w2 (1 + w1)).length = n := by rw [List.length_set, hal]
  have hsp : 1 + w1 ≤ (as.set w2 (1 + w1)).sum := sum_pos (List.mem_set (by omega) _)
  have hs9 := sum_3 _ hs3
  generalize as.set w2 (1 + w1) = bs at *
  have hR : RowN n bs := ⟨hsl, by omega, by omega⟩
  simp [e1, e2, pl, st]
  refine ho_lcR (inj := fun a : Nat => PyData.int a) (xs := bs) (fun a => fr (Rat.divInt (a : Int) ((bs.sum : Nat) : Int))) ?_ ?_ ?_ ?_ ?_
  · rfl
  · rfl
  · omega
  · intro a ha
    have q := bi_sum bs fun a : Nat => (a : Int)
    rw [sum_cast] at q
    have e := part_n m (a := a) (w := bs.sum) (by omega) (by have := sum_pos ha; omega) (by omega)
    simp only [Turn]
    simp [q, e]
  simp [show Ls.length < sizeLine by omega]
  have := hJ ns3 bs (.fz (.int x)) (.ow (.list (bs.map fun a : Nat => .int a))) s6o s7 hR
  rw [List.map_append] at this
  exact this

def rM : List (List Nat) → Nat
  | [] => 1
  | r :: L => r.sum * rM L
theorem rM_dvd : ∀ {L : List (List Nat)} {r : List Nat}, r ∈ L → r.sum ∣ rM L
  | q :: L, r, h => by
    rcases List.mem_cons.mp h with rfl | h
    · exact Nat.dvd_mul_right _ _
    · exact Nat.dvd_trans (rM_dvd h) (Nat.dvd_mul_left _ _)
theorem rM_b {n : Nat} : ∀ {L : List (List Nat)}, (∀ r ∈ L, RowN n r) → 1 ≤ rM L ∧ rM L ≤ 9 ^ L.length
  | [], _ => by simp [rM]
  | r :: L, h => by
    have ih := rM_b (L := L) fun q hq => h q (by simp [hq])
    have hr := h r (by simp)
    unfold rM
    rw [List.length_cons, Nat.pow_succ, Nat.mul_comm (9 ^ _)]
    exact ⟨Nat.mul_pos hr.p ih.1, Nat.mul_le_mul hr.b ih.2⟩
def cOf (L : List (List Nat)) (i j : Nat) : Nat := (L.getD i []).getD j 0 * (rM L / (L.getD i []).sum)
theorem ch_of {n : Nat} {L : List (List Nat)} (hn : 1 ≤ n ∧ n ≤ 3) (hl : L.length = n) (h : ∀ r ∈ L, RowN n r) : Ch n (cOf L) (rM L) ∧ PyData.tuple (L.map rowOf) = chD n (cOf L) (rM L) := by
  have hb := rM_b h
  have h9 : 9 ^ L.length ≤ 9 ^ 3 := Nat.pow_le_pow_right (by decide) (by omega)
  have at_ : ∀ i < n, ∃ r, L.getD i [] = r ∧ r ∈ L ∧ L[i]? = some r := fun i hi => ⟨L[i], by simp [show i < L.length by omega], List.getElem_mem (by omega), by simp [show i < L.length by omega]⟩
  refine ⟨⟨hn.1, hn.2, by omega, by omega, fun i hi => ?_⟩, ?_⟩
  · obtain ⟨r, e, hr, _⟩ := at_ i hi
    have hR := h r hr
    show sg (fun j => (L.getD i []).getD j 0 * (rM L / (L.getD i []).sum)) n = _
    rw [sg_mul, e]
    have := sg_list r
    rw [hR.l] at this
    rw [this]
    exact Nat.mul_div_cancel' (rM_dvd hr)
  · unfold chD
    congr 1
    apply List.ext_getElem
    · simp [hl]
    · intro i h1 h2
      have hi : i < n := by simpa using h2
      obtain ⟨r, e, hr, er⟩ := at_ i hi
      have hR := h r hr
      have eL : L[i]'(by omega) = r := by
        have := List.getElem?_eq_getElem (l := L) (i := i) (by omega)
        rw [er] at this
        exact (Option.some.inj this).symm
      simp only [List.getElem_map, List.getElem_range, eL]
      unfold rowOf row
      congr 1
      apply List.ext_getElem
      · simp [hR.l]
      · intro j h3 h4
        have hj : j < r.length := by simpa using h3
        simp only [List.getElem_map, List.getElem_range]
        show fr (rN r.sum r[j]) = fr (rN (rM L) ((L.getD i []).getD j 0 * (rM L / (L.getD i []).sum)))
        have e1 : r.sum * (rM L / r.sum) = rM L := Nat.mul_div_cancel' (rM_dvd hr)
        have e2 : 0 < rM L / r.sum := Nat.div_pos (Nat.le_of_dvd (by omega) (rM_dvd hr)) hR.p
        have e3 : r.getD j 0 = r[j] := by simp [hj]
        have e4 := rN_scale (N := r.sum) r[j] e2
        rw [e1] at e4
        rw [e, e3, e4]
theorem s_lchain (m : Nat) (ns : List Int) : ∃ v, cw (callP G defs (m + 3) 25 [.list (ns.map .int), .int 3]) = some v ∧ ∃ (n M : Nat) (c : Nat → Nat → Nat) (ns' : List Int), v = (.val (chD n c M), .list (ns'.map .int)) ∧ Ch n c M := by
  refine cw_ho (d := d__law_chain) rfl rfl ?_
  obtain ⟨v1, ns2, e1, p1, p2⟩ := take (m + 1) ns (bound := 3) (by decide)
  obtain ⟨w1, rfl⟩ := Int.eq_ofNat_of_zero_le p1
  have rg := rg_int (n := 1 + w1) (by omega)
  have ec : (1 + (w1 : Int)) = ((1 + w1 : Nat) : Int) := by omega
  simp only [d__law_chain]
  simp [startE, e1, ec, rg, -Int.natCast_add]
  refine ho_for (inj := fun k : Nat => PyData.int k) (xs := List.range (1 + w1)) (fun p r => ∃ (ns' : List Int) (Ls : List (List Nat)) (s4 s5 s6 s7 : Sl), Ls.length = p.length ∧ (∀ q ∈ Ls, RowN (1 + w1) q) ∧ r = [.ow (.list (ns'.map .int)), .fz (.int 3), .fz (.int ((1 + w1 : Nat) : Int)), .ow (.list (Ls.map rowOf)), s4, s5, s6, s7]) rfl ⟨ns2, [], .no, .no, .no, .no, rfl, by simp, rfl⟩ (fun p x q r hx hr => ?_) (fun r hr => ?_)
  · obtain ⟨ns', Ls, s4, s5, s6, s7, hl, hL, rfl⟩ := hr
    obtain ⟨hxn, hpl, _⟩ := mem_range_of hx
    exact c_turn9 m ⟨by omega, by omega⟩ x ns' Ls (by omega) _ s5 s6 s7 s4 _ _ fun ns' as s4 s5 s6 s7 hR => ⟨ns', Ls ++ [as], s4, s5, s6, s7, by simp [hl], fun q hq => by
      rcases List.mem_append.mp hq with h | h
      · exact hL q h
      · rw [List.mem_singleton.mp h]; exact hR, rfl⟩
  · obtain ⟨ns', Ls, s4, s5, s6, s7, hl, hL, rfl⟩ := hr
    rw [List.length_range] at hl
    obtain ⟨h1, h2⟩ := ch_of ⟨by omega, by omega⟩ hl hL
    simp [h2]
    exact ⟨_, _, ⟨rfl, rfl⟩, _, _, _, ⟨rfl, _, rfl⟩, h1⟩
/-! ### sums over rows -/
def sumL (c : Nat → Nat → Nat) (i j : Nat) (L : List (List Nat)) : Nat := ((L.filter fun p => (ws c i p).2 == j).map fun p => (ws c i p).1).sum
theorem sumL_cons (c : Nat → Nat → Nat) (i j : Nat) (p : List Nat) (L : List (List Nat)) : sumL c i j (p :: L) = (if (ws c i p).2 = j then (ws c i p).1 else 0) + sumL c i j L := by
  unfold sumL
  rw [List.filter_cons]
  by_cases e : (ws c i p).2 = j
  · simp [e]
  · simp [e]
theorem sumL_app (c : Nat → Nat → Nat) (i j : Nat) : ∀ L L' : List (List Nat), sumL c i j (L ++ L') = sumL c i j L + sumL c i j L'
  | [], L' => by simp [sumL]
  | p :: L, L' => by rw [List.cons_append, sumL_cons, sumL_cons, sumL_app c i j L L']; omega
theorem sumL_one (c : Nat → Nat → Nat) (i j : Nat) (p : List Nat) : ∀ n : Nat, sumL c i j ((List.range n).map fun k => p ++ [k]) = sg (fun k => if k = j then (ws c i p).1 * c (ws c i p).2 k else 0) n
  | 0 => rfl
  | n + 1 => by
    rw [List.range_succ, List.map_append, sumL_app, sumL_one c i j p n, sg_s, List.map_singleton, sumL_cons, ws_snoc]
    rfl
theorem sumL_nx {n : Nat} (c : Nat → Nat → Nat) (i : Nat) {j : Nat} (hj : j < n) : ∀ L : List (List Nat), (∀ p ∈ L, (ws c i p).2 < n) → sumL c i j (nx n L) = sg (fun k => sumL c i k L * c k j) n
  | [], _ => by simp [nx, sumL, sg_0]
  | p :: L, h => by
    have hp := h p (by simp)
    have e : nx n (p :: L) = ((List.range n).map fun k => p ++ [k]) ++ nx n L := by unfold nx; rw [List.flatMap_cons]
    rw [e, sumL_app, sumL_one, sg_one hj (fun k => (ws c i p).1 * c (ws c i p).2 k), sumL_nx c i hj L fun q hq => h q (by simp [hq])]
    rw [sg_congr (n := n) (f := fun k => sumL c i k (p :: L) * c k j) (g := fun k => (if k = (ws c i p).2 then (ws c i p).1 * c k j else 0) + sumL c i k L * c k j) fun k _ => by
      rw [sumL_cons, Nat.add_mul]
      by_cases e : (ws c i p).2 = k
      · subst e; simp
      · rw [if_neg e, if_neg (fun z => e z.symm), Nat.zero_mul]]
    rw [sg_add, sg_one hp (fun k => (ws c i p).1 * c k j)]
theorem sumL_v {n : Nat} (c : Nat → Nat → Nat) {i : Nat} (hi : i < n) : ∀ (t j : Nat), j < n → sumL c i j (rs n t) = v n c i t j
  | 0, j, hj => by
    show sumL c i j [[]] = if j = i then 1 else 0
    rw [sumL_cons]
    by_cases e : j = i
    · subst e; simp [ws, sumL]
    · have e' : ¬ i = j := fun z => e z.symm
      simp [ws, sumL, e, e']
  | t + 1, j, hj => by
    show sumL c i j (nx n (rs n t)) = sg (fun k => v n c i t k * c k j) n
    rw [sumL_nx c i hj _ fun p hp => ws_last c hi (rs_mem hp).2]
    exact sg_congr fun k hk => by rw [sumL_v c hi t k hk]
/-! ### told -/
theorem s_told (m : Nat) {n : Nat} {c : Nat → Nat → Nat} {M : Nat} (h : Ch n c M) {i : Nat} (hi : i < n) {t : Nat} (ht : t ≤ 9) : cv (callP G defs (m + 5) 26 [chD n c M, .int i, .int t]) = some (.val (vD n c M i t)) := by
  refine cv_ho (d := d__law_told) rfl rfl ?_
  have e := s_behind m h hi ht
  simp [d__law_told, startE, e]
theorem s_word (n : Nat) : cv (callP G defs (n + 1) 15 [excD "OutOfRange"]) = some (.val (.str (Str.ofString "range"))) := by
  rfl
theorem s_err (m : Nat) (d : D) (i t : Int) (ht : t = -1 ∨ t = 31) : cv (callP G defs (m + 4) 26 [d, .int i, .int t]) = some (.val (.str (Str.ofString "range"))) := by
  refine cv_ho (d := d__law_told) rfl rfl ?_
  have hn : isNum (.int t) 0 30 = false := by simp [isNum]; omega
  have e2 : cv (callP G defs (m + 3) 9 [d, .int i, .int t]) = none ∧ cx (callP G defs (m + 3) 9 [d, .int i, .int t]) = some 1 := by
    refine cx_ho (d := d_chances_behind) rfl rfl ?_
    simp [d_chances_behind, startE, num, g2, hn]
  have e3 := s_word (m + 2)
  simp [d__law_told, startE, e2.1, e2.2, e3, after_imm]
/-! ### the law -/
abbrev Qok : Res Out → Prop := fun y => ∃ e, outP d_law.io y = .ret (.val (.bool true)) e
/-- behind the first loop -/
def E5 (scr : D) (ns : List Int) (n : Nat) (c : Nat → Nat → Nat) (M i : Nat) (s5 s6 s7 s8 s9 s10 s11 s12 s13 s14 : Sl) : Fw.Env := [.fz scr, .ow (.list (ns.map .int)), .fz (chD n c M), .fz (.int n), .fz (.int i), s5, s6, s7, s8, s9, s10, s11, s12, s13, s14, .no, .no]
/-- statements 1 to 3 of a turn: the sums over all rows -/
def dueB : S := .forS (.name 8) (.rng [(.var 3)]) [
      .set (.name 9) (.lc (.call 28 [(.var 2), (.var 4), (.var 10)]) (.name 10) (.var 6) (some (.cmp .eq (.ite (.cmp .gt (.var 5) (.int 0)) (.ix (.var 10) (.neg (.int 1))) (.var 4)) (.var 8))) [10]),
      .app 7 (.call 22 [(.bin .add (.var 9) (.lst [(.tup [(.int 0), (.int 1)])]))])]
theorem ws_ix (c : Nat → Nat → Nat) (i : Nat) {t : Nat} {p : List Nat} (hp : p.length = t) : ∃ d, (if 0 < t then ixD (tD p) (.int (-1)) else some (.int i)) = some d ∧ d = .int ((ws c i p).2 : Nat) := by
  by_cases h : 0 < t
  · rw [if_pos h]
    rcases List.eq_nil_or_concat p with rfl | ⟨q, k, rfl⟩
    · simp at hp; omega
    · rw [List.concat_eq_append, ws_snoc]
      refine ⟨_, ?_, rfl⟩
      have e : place (-1) (((q ++ [k]).map fun k : Nat => PyData.int k).length) = some q.length := by
        have := place_last (n := q.length + 1) (by omega)
        simpa using this
      show ((place (-1) ((q ++ [k]).map fun k : Nat => PyData.int k).length).bind fun j => ((q ++ [k]).map fun k : Nat => PyData.int k)[j]?) = _
      rw [e]
      simp
  · rw [if_neg h]
    have : p = [] := List.length_eq_zero_iff.mp (by omega)
    subst this
    exact ⟨_, rfl, rfl⟩
theorem due_ok {n : Nat} {c : Nat → Nat → Nat} {M : Nat} (h : Ch n c M) {i : Nat} (hi : i < n) {t : Nat} (ht : t ≤ 3) (scr : D) (ns : List Int) {s6 : Sl} (h6 : s6 = .ow (.list ((rs n t).map tD)) ∨ s6 = .fz (.list ((rs n t).map tD))) (s8 s9 s10 s11 s12 s13 s14 : Sl) (Q : Res Out → Prop) (hQ : ∀ s8 s9 s10, Q (.ok .nx (E5 scr ns n c M i (.fz (.int t)) s6 (.ow (.list ((List.range n).map fun j => frN (M ^ t) (v n c i t j)))) s8 s9 s10 s11 s12 s13 s14))) :
    Ho (ex G (callP G defs 11) dueB (E5 scr ns n c M i (.fz (.int t)) s6 (.ow (.list [])) s8 s9 s10 s11 s12 s13 s14)) Q := by
  have n2 := h.n2
  have rg := rg_int (n := n) (by omega)
  have slb := sl_big
  have ll : (rs n t).length ≤ 27 := by rw [rs_len]; exact p3 n2 ht
  simp [dueB, E5, rg]
  refine ho_for (inj := fun k : Nat => PyData.int k) (xs := List.range n) (fun p r => ∃ s8 s9 s10, r = E5 scr ns n c M i (.fz (.int t)) s6 (.ow (.list ((List.range p.length).map fun j => frN (M ^ t) (v n c i t j)))) s8 s9 s10 s11 s12 s13 s14) rfl ⟨s8, s9, s10, rfl⟩ (fun p x q r hx hr => ?_) (fun r hr => ?_)
  · obtain ⟨s8, s9, s10, rfl⟩ := hr
    obtain ⟨hxn, hpl, _⟩ := mem_range_of hx
    have tn : ∀ p ∈ rs n t, ∀ s6 s7 s9 s11 s12 s13 s14, Turn G (callP G defs 11) (.call 28 [(.var 2), (.var 4), (.var 10)]) (.name 10) (some (.cmp .eq (.ite (.cmp .gt (.var 5) (.int 0)) (.ix (.var 10) (.neg (.int 1))) (.var 4)) (.var 8))) [10] (tD p) (E5 scr ns n c M i (.fz (.int t)) s6 s7 (.fz (.int x)) s9 s10 s11 s12 s13 s14) (if (ws c i p).2 == x then some (frN (M ^ t) (ws c i p).1) else none) := by
      intro p hp s6 s7 s9 s11 s12 s13 s14
      obtain ⟨h1, h2⟩ := rs_mem hp
      obtain ⟨d, e1, rfl⟩ := ws_ix c i h1
      have e2 := s_lrow 7 h hi h2 (by omega)
      rw [h1] at e2
      have wl := ws_last c hi h2
      generalize (ws c i p).2 = z at *
      by_cases ht0 : 0 < t
      · rw [if_pos ht0] at e1
        by_cases ez : z = x
        · subst ez
          simp only [Turn]
          simp [E5, ht0, e1, e2]
        · have ezI : ¬ (z : Int) = (x : Int) := by omega
          simp only [Turn]
          simp [E5, ht0, e1, e2, ez, ezI]
      · rw [if_neg ht0] at e1
        have e1 : i = z := by simp at e1; omega
        by_cases ez : z = x
        · subst ez e1
          simp only [Turn]
          simp [E5, ht0, e2]
        · subst e1
          have ezI : ¬ (i : Int) = (x : Int) := by omega
          simp only [Turn]
          simp [E5, ht0, e2, ez, ezI]
    have fm : (rs n t).filterMap (fun p => if (ws c i p).2 == x then some (frN (M ^ t) (ws c i p).1) else none) = (((rs n t).filter fun p => (ws c i p).2 == x).map fun p => (ws c i p).1).map (frN (M ^ t)) := by
      rw [← List.filterMap_eq_map', ← List.filterMap_eq_map', List.filterMap_filterMap, List.filterMap_filter]
      congr 1
    have al : (((rs n t).filter fun p => (ws c i p).2 == x).map fun p => (ws c i p).1).length ≤ 27 := by
      rw [List.length_map]
      exact Nat.le_trans (List.length_filter_le _ _) ll
    have as_ : (((rs n t).filter fun p => (ws c i p).2 == x).map fun p => (ws c i p).1).sum = v n c i t x := sumL_v c hi t x hxn
    generalize (((rs n t).filter fun p => (ws c i p).2 == x).map fun p => (ws c i p).1) = as at *
    have e := lsumN 7 (h.pw (t := t) (by omega)).1 (h.pw (t := t) (by omega)).2 (as ++ [0]) (by rw [List.sum_append, as_]; simpa using v_le h hi hxn t) (by simp; omega)
    rw [List.sum_append, as_, List.map_append, List.map_singleton, frN_zero] at e
    simp at e
    have z1 : as.length + 1 ≤ sizeLine := by omega
    have z2 : x < sizeLine := by omega
    rcases h6 with rfl | rfl
    · simp [E5]
      refine ho_lcRF (inj := tD) (xs := rs n t) (fun p => if (ws c i p).2 == x then some (frN (M ^ t) (ws c i p).1) else none) ?_ ?_ ?_ ?_ ?_
      · rfl
      · rfl
      · omega
      · intro p hp
        exact tn p hp _ _ _ _ _ _ _
      · rw [fm]
        simp [e, z1, z2, hpl, List.range_succ]
    · simp [E5]
      refine ho_lcF (inj := tD) (xs := rs n t) (fun p => if (ws c i p).2 == x then some (frN (M ^ t) (ws c i p).1) else none) rfl (fun p hp => tn p hp _ _ _ _ _ _ _) ?_
      rw [fm]
      simp [e, z1, z2, hpl, List.range_succ]
  · obtain ⟨s8, s9, s10, rfl⟩ := hr
    rw [List.length_range]
    exact hQ _ _ _
theorem al_v (n : Nat) (c : Nat → Nat → Nat) (M i t : Nat) (hn : n ≤ 3) : alD 2 (vD n c M i t) = true := by
  simp [vD, alD, frN, fr, isScal]; omega
theorem alike (n : Nat) (d : D) (h : alD 2 d = true) : cv (callP G defs (n + 3) 14 [d, d]) = some (.val (.bool true)) := s_alike (k := 14) rfl 2 n d h
theorem one_sum (m : Nat) {n : Nat} {c : Nat → Nat → Nat} {M : Nat} (h : Ch n c M) {i : Nat} (hi : i < n) {t : Nat} (ht : t ≤ 9) : cv (callP G defs (m + 4) 22 [.list ((List.range n).map fun j => frN (M ^ t) (v n c i t j))]) = some (.val (.tuple [.int 1, .int 1])) := by
  have p := h.pw (t := t) (by omega)
  have s : ((List.range n).map fun j => v n c i t j).sum = M ^ t := by rw [sum_sg, v_all h hi]
  have e := lsumN m p.1 p.2 ((List.range n).map fun j => v n c i t j) (by omega) (by have := h.n2; simp; omega)
  rw [s, List.map_map, frN_one p.1] at e
  exact e
theorem turn_b {n : Nat} {c : Nat → Nat → Nat} {M : Nat} (h : Ch n c M) {i : Nat} (hi : i < n) {t : Nat} (ht : t ≤ 3) (scr : D) (ns : List Int) {s6 : Sl} (h6 : s6 = .ow (.list ((rs n t).map tD)) ∨ s6 = .fz (.list ((rs n t).map tD))) (s7 s8 s9 s10 s11 s12 s13 s14 : Sl) (Q : Res Out → Prop) (hQ : ∀ ns s6 s7 s8 s9 s10 s11 s12 s13 s14, Q (.ok .nx (E5 scr ns n c M i (.fz (.int t)) s6 s7 s8 s9 s10 s11 s12 s13 s14))) :
    Ho (exs G (callP G defs 11) (restL b_law_3 1) (E5 scr ns n c M i (.fz (.int t)) s6 s7 s8 s9 s10 s11 s12 s13 s14)) Q := by
  have n2 := h.n2
  have slb := sl_big
  refine ho_la rfl ?_
  simp [E5]
  refine ho_la rfl ?_
  refine due_ok h hi ht scr ns h6 s8 s9 s10 s11 s12 s13 s14 _ (fun s8 s9 s10 => ?_)
  have e1 := s_told 6 h hi (t := t) (by omega)
  have e2 := alike 8 _ (al_v n c M i t n2)
  have e3 := one_sum 7 h hi (t := t) (by omega)
  have e11 : eqD (.tuple [.int 1, .int 1]) (.tuple [.int 1, .int 1]) = some true := eq_fr 1
  have eL : vD n c M i t = .tuple ((List.range n).map fun j => frN (M ^ t) (v n c i t j)) := rfl
  rw [eL] at e1 e2
  generalize ((List.range n).map fun j => frN (M ^ t) (v n c i t j)) = L at *
  simp only [nxQ_nx]
  refine ho_la rfl ?_
  simp [E5, e1, e2, e3, e11]
  refine ho_la rfl ?_
  have rl : 0 < (rs n t).length := by rw [rs_len]; exact Nat.pow_pos h.n1
  obtain ⟨w, ns2, e4, p1, p2⟩ := take 10 ns (bound := ((rs n t).length : Nat)) (by omega)
  obtain ⟨w, rfl⟩ := Int.eq_ofNat_of_zero_le p1
  have hw : w < (rs n t).length := by omega
  have hp := rs_mem (List.getElem_mem hw)
  generalize ep : (rs n t)[w] = p at hp
  have ix : ixD (.list ((rs n t).map tD)) (.int w) = some (tD p) := by
    rw [ix_map, List.getElem?_eq_getElem hw, ep]; rfl
  have ln : biD .len [.list ((rs n t).map tD)] = some (.val (.int ((rs n t).length : Nat))) := by simp
  have goal4 : Ho (ex G (callP G defs 11) (S.set (Tg.name 10) ((E.var 6).ix (E.callM 12 1 [E.bi Bi.len [E.var 6]]))) [.fz scr, .ow (.list (ns.map .int)), .fz (chD n c M), .fz (.int n), .fz (.int i), .fz (.int t), s6, .ow (.list L), s8, s9, s10, s11, s12, s13, s14, .no, .no]) (fun y => y = .ok .nx [.fz scr, .ow (.list (ns2.map .int)), .fz (chD n c M), .fz (.int n), .fz (.int i), .fz (.int t), s6, .ow (.list L), s8, s9, .fz (tD p), s11, s12, s13, s14, .no, .no]) := by
    clear ep hw
    generalize (rs n t).map tD = R at *
    generalize (rs n t).length = m at *
    rcases h6 with rfl | rfl <;> simp [ln, e4, ix, -bi_len_l, -ix_l]
  refine ho_mono goal4 (fun y hy => ?_)
  subst hy
  simp only [nxQ_nx]
  refine ho_la rfl ?_
  have e5 := s_row 8 h hi hp.2 (by omega)
  have e6 := s_lrow 7 h hi hp.2 (by omega)
  have e7 := alike 8 (frN (M ^ p.length) (ws c i p).1) rfl
  simp [e5, e6, e7]
  refine ho_la rfl ?_
  obtain ⟨z, ns3, e8, p3, p4⟩ := take 10 ns2 (bound := 5) (by decide)
  obtain ⟨z, rfl⟩ := Int.eq_ofNat_of_zero_le p3
  have hz : z ≤ 4 := by omega
  simp [e8]
  refine ho_la rfl ?_
  have e9 := s_told 6 h hi (t := z) (by omega)
  simp [e9]
  refine ho_la rfl ?_
  simp
  refine ho_la rfl ?_
  have rg := rg_int (n := n) (by omega)
  simp [rg, -range_1]
  refine ho_for (inj := fun k : Nat => PyData.int k) (xs := List.range n) (fun q r => ∃ (s8 s14 : Sl), r = [.fz scr, .ow (.list (ns3.map .int)), .fz (chD n c M), .fz (.int n), .fz (.int i), .fz (.int t), s6, .ow (.list L), s8, s9, .fz (tD p), .fz (.int z), .fz (vD n c M i z), .ow (.list ((List.range q.length).map fun j => frN (M ^ (z + t)) (v n c i (z + t) j))), s14, .no, .no]) rfl ⟨s8, s14, rfl⟩ (fun q x q' r hx hr => ?_) (fun r hr => ?_)
  · obtain ⟨s8, s14, rfl⟩ := hr
    obtain ⟨hxn, hql, _⟩ := mem_range_of hx
    simp only [bodyE_ap]
    simp [b_law_2, rg, -range_1]
    refine ho_lc (inj := fun k : Nat => PyData.int k) (xs := List.range n) (fun k => frN (M ^ z * M ^ t) (v n c i z k * v n c k t x)) rfl (fun k hk => ?_) ?_
    · have hk := List.mem_range.mp hk
      have f1 := s_behind 7 h hk (t := t) (by omega)
      have f2 : ixD (vD n c M i z) (.int k) = some (frN (M ^ z) (v n c i z k)) := by
        have := ix_tmap (List.range n) (fun j => frN (M ^ z) (v n c i z j)) (j := k) (by simpa using hk)
        simp only [List.getElem_range] at this
        exact this
      have f3 : ixD (vD n c M k t) (.int x) = some (frN (M ^ t) (v n c k t x)) := by
        have := ix_tmap (List.range n) (fun j => frN (M ^ t) (v n c k t j)) (j := x) (by simpa using hxn)
        simp only [List.getElem_range] at this
        exact this
      have f4 := ltimesN 8 (h.pw (t := z) (by omega)).1 (h.pw (t := z) (by omega)).2 (h.pw (t := t) (by omega)).1 (h.pw (t := t) (by omega)).2 (v_le h hi hk z) (v_le h hk hxn t)
      simp only [Turn]
      simp [f1, f2, f3, f4]
    have s2 : ((List.range n).map fun k => v n c i z k * v n c k t x).sum = v n c i (z + t) x := by rw [sum_sg, v_two i z x hi t hxn]
    have pw := h.pw (t := z + t) (by omega)
    rw [Nat.pow_add] at pw
    have f5 := lsumN 7 pw.1 pw.2 ((List.range n).map fun k => v n c i z k * v n c k t x) (by rw [s2, ← Nat.pow_add]; exact v_le h hi hxn _) (by simp; omega)
    rw [s2, List.map_map, ← Nat.pow_add] at f5
    have f5 : cv (callP G defs 11 22 [.list ((List.range n).map fun k => frN (M ^ z * M ^ t) (v n c i z k * v n c k t x))]) = some (.val (frN (M ^ (z + t)) (v n c i (z + t) x))) := by
      rw [← Nat.pow_add]; exact f5
    have z1 : q.length < sizeLine := by omega
    simp [f5, z1, List.range_succ]
    subst hql
    rfl
  · obtain ⟨s8, s14, rfl⟩ := hr
    rw [List.length_range]
    simp
    have e10 := s_told 6 h hi (t := z + t) (by omega)
    have e12 : eqD (vD n c M i (z + t)) (vD n c M i (z + t)) = some true := eq_frL _ _
    have eL2 : PyData.tuple ((List.range n).map fun j => frN (M ^ (z + t)) (v n c i (z + t) j)) = vD n c M i (z + t) := rfl
    refine ho_le rfl ?_
    have ez : (z : Int) + (t : Int) = ((z + t : Nat) : Int) := by omega
    simp [ez, e10, e12, eL2, -Int.natCast_add]
    exact hQ _ _ _ _ _ _ _ _ _ _
theorem turn_a {n : Nat} {c : Nat → Nat → Nat} {M : Nat} (h : Ch n c M) {i : Nat} (hi : i < n) {t : Nat} (ht : t ≤ 3) (scr : D) (ns : List Int) (s6 s7 s8 s9 s10 s11 s12 s13 s14 : Sl) (Q : Res Out → Prop) (hQ : ∀ ns s6 s7 s8 s9 s10 s11 s12 s13 s14, Q (.ok .nx (E5 scr ns n c M i (.fz (.int t)) s6 s7 s8 s9 s10 s11 s12 s13 s14))) :
    Ho (exs G (callP G defs 11) b_law_3 (E5 scr ns n c M i (.fz (.int t)) s6 s7 s8 s9 s10 s11 s12 s13 s14)) Q := by
  refine ho_lb b_law_3 rfl ?_
  obtain ⟨w, e, hw⟩ := s_lrows 10 h.n2 ht
  rcases hw with rfl | rfl
  · simp [E5, e]
    exact turn_b h hi ht scr ns (.inl rfl) s7 s8 s9 s10 s11 s12 s13 s14 Q hQ
  · simp [E5, e]
    exact turn_b h hi ht scr ns (.inr rfl) s7 s8 s9 s10 s11 s12 s13 s14 Q hQ
def isnt (x : D) : Prop := cv (callP G defs 11 7 [x]) = some (.val (.bool false))
theorem says (n : Nat) : cv (callP G defs (n + 1) 13 [.bool true, .bool true]) = some (.val (.bool true)) := by
  rfl
theorem isnt_kind {x : D} (h : isiD x .tuple = false) : isnt x := by
  refine cv_ho (d := d_is_chain) rfl rfl ?_
  simp [d_is_chain, startE, h]
theorem isnt_len {ds : List D} (h : ds.length = 0 ∨ 4 < ds.length) : isnt (.tuple ds) := by
  refine cv_ho (d := d_is_chain) rfl rfl ?_
  rcases h with h | h
  · simp [d_is_chain, startE, h]
  · have h1 : (1 : Int) ≤ ds.length := by omega
    have h2 : ¬ (ds.length : Int) ≤ 4 := by omega
    simp [d_is_chain, startE, g1, h1, h2]
theorem isnt_row {r0 : D} {ds : List D} (hl : ds.length ≤ 3) (h : isiD r0 .tuple = false ∨ ∃ l : Int, biD .len [r0] = some (.val (.int l)) ∧ l ≠ (ds.length + 1 : Nat)) : isnt (.tuple (r0 :: ds)) := no_chain 7 hl (no_row 7 h)
def oddL (n : Nat) (fs rs : List D) : List D := [.none, .list (.tuple fs :: rs), .tuple [], .tuple (.tuple fs :: (rs ++ [.tuple fs])), .tuple (.list fs :: rs), .tuple (.tuple (fs.drop 1) :: rs), .tuple (.tuple (fs ++ [.tuple [.int 0, .int 1]]) :: rs), .tuple (.none :: rs),
  if n ≠ 2 then .tuple (.tuple (List.replicate n (.tuple [.int 1, .int 2])) :: rs) else .none,
  if n = 2 then .tuple (.tuple [.tuple [.int 3, .int 2], .tuple [.int (-1), .int 2]] :: rs) else .none,
  .tuple [.tuple [.tuple [.int 1, .int 1]], .tuple [.tuple [.int 1, .int 1]]], .tuple [.tuple [.int 1]], .tuple [.tuple [.tuple [.int 2, .int 2]]], .tuple [.tuple [.tuple [.int 1, .int 2]]],
  .tuple (List.replicate 5 (.tuple (List.replicate 5 (.tuple [.int 1, .int 5]))))]
theorem odd_no {n : Nat} (h : 1 ≤ n ∧ n ≤ 3) {fs rs : List D} (hf : fs.length = n) (hr : rs.length + 1 = n) : ∀ x ∈ oddL n fs rs, isnt x := by
  have len : ∀ xs : List D, biD .len [.tuple xs] = some (.val (.int xs.length)) := fun xs => rfl
  intro x hx
  unfold oddL at hx
  simp only [List.mem_cons, List.not_mem_nil, or_false] at hx
  rcases hx with rfl | rfl | rfl | rfl | rfl | rfl | rfl | rfl | rfl | rfl | rfl | rfl | rfl | rfl | rfl
  · exact isnt_kind rfl
  · exact isnt_kind rfl
  · exact isnt_len (.inl rfl)
  · refine isnt_row (by simp; omega) (.inr ⟨_, len _, ?_⟩)
    simp; omega
  · exact isnt_row (by omega) (.inl rfl)
  · refine isnt_row (by omega) (.inr ⟨_, len _, ?_⟩)
    simp; omega
  · refine isnt_row (by omega) (.inr ⟨_, len _, ?_⟩)
    simp; omega
  · exact isnt_row (by omega) (.inl rfl)
  · split
    · refine no_chain 7 (by omega) ?_
      rw [hr]
      obtain rfl | rfl : n = 1 ∨ n = 3 := by omega
      · exact half1
      · exact half3
    · exact isnt_kind rfl
  · split
    · refine no_chain 7 (by omega) ?_
      rw [hr]
      rename_i e
      rw [show n = 2 from e]
      exact neg2
    · exact isnt_kind rfl
  · refine isnt_row (by simp) (.inr ⟨_, len _, ?_⟩)
    simp
  · exact not1
  · exact not2
  · exact not3
  · exact isnt_len (.inr (by decide))
theorem law_e (scr : D) (ds : D) (n : Nat) {fs rs : List D} (h : 1 ≤ n ∧ n ≤ 3) (hf : fs.length = n) (hr : rs.length + 1 = n) (i : D) (s5 s6 s7 s8 s9 s11 s12 s13 s14 : Sl) : Ho (exs G (callP G defs 11) (rest d_law 7) [.fz scr, .ow ds, .fz (.tuple (.tuple fs :: rs)), .fz (.int n), .fz i, s5, s6, s7, s8, s9, .fz (.tuple fs), s11, s12, s13, s14, .no, .no]) Qok := by
  have slb := sl_big
  have hn3 := odd_no h hf hr
  have hB : (oddL n fs rs).length = 15 := rfl
  refine ho_at rfl ?_
  have sd1 : slD (.tuple (.tuple fs :: rs)) (some 1) none = some (.val (.tuple rs)) := by
    have := cut_drop (.tuple fs :: rs) 1
    exact congrArg (fun x => some (Rv.val (.tuple x))) this
  have sd2 : slD (.tuple fs) (some 1) none = some (.val (.tuple (fs.drop 1))) := congrArg (fun x => some (Rv.val (.tuple x))) (cut_drop fs 1)
  have sd3 : slD (.tuple fs) (some 2) none = some (.val (.tuple (fs.drop 2))) := congrArg (fun x => some (Rv.val (.tuple x))) (cut_drop fs 2)
  have add : ∀ xs ys : List D, xs.length + ys.length ≤ 100 → binD .add (.tuple xs) (.tuple ys) = some (.val (.tuple (xs ++ ys))) := fun xs ys z => by
    show (if _ then _ else _) = _
    rw [if_pos (by omega)]
  have a1 := add (.tuple fs :: rs) [.tuple fs] (by simp; omega)
  have a2 : ∀ x : D, binD .add (.tuple [x]) (.tuple rs) = some (.val (.tuple (x :: rs))) := fun x => add [x] rs (by simp; omega)
  have a3 := add fs [.tuple [.int 0, .int 1]] (by simp; omega)
  have bl1 : biD .list [.tuple (.tuple fs :: rs)] = some (.new (.list (.tuple fs :: rs))) := rfl
  have bl2 : biD .list [.tuple fs] = some (.new (.list fs)) := rfl
  have m1 : binD .mul (.tuple [.tuple [.int 1, .int 2]]) (.int n) = some (.val (.tuple (List.replicate n (.tuple [.int 1, .int 2])))) := by
    rw [bin_mul_t, if_pos (by simp; omega)]
    simp
  have m2 : ∀ x : D, binD .mul (.tuple [x]) (.int 2) = some (.val (.tuple [x, x])) := fun x => rfl
  have m5 : ∀ x : D, binD .mul (.tuple [x]) (.int 5) = some (.val (.tuple [x, x, x, x, x])) := fun x => rfl
  have key : ∀ Q : Res Out → Prop, (∀ s15, s15 = .ow (.list (oddL n fs rs)) → Q (.ok .nx [.fz scr, .ow ds, .fz (.tuple (.tuple fs :: rs)), .fz (.int n), .fz i, s5, s6, s7, s8, s9, .fz (.tuple fs), s11, s12, s13, s14, s15, .no])) → Ho (ex G (callP G defs 11) ((rest d_law 7).headD .pass) [.fz scr, .ow ds, .fz (.tuple (.tuple fs :: rs)), .fz (.int n), .fz i, s5, s6, s7, s8, s9, .fz (.tuple fs), s11, s12, s13, s14, .no, .no]) Q := by
    intro Q hQ
    have hQ := hQ _ rfl
    unfold oddL at hQ
    simp only [rest, d_law, List.drop_succ_cons, List.drop_zero, List.headD_cons]
    by_cases h2 : n = 2
    · have e2 : fs.drop 2 = [] := by rw [List.drop_eq_nil_iff]; omega
      have a4 := add [.tuple [.int 3, .int 2], .tuple [.int (-1), .int 2]] (fs.drop 2) (by rw [e2]; simp)
      rw [e2] at a4 sd3
      simp [h2, sd1, sd2, sd3, a1, a2, a3, a4, bl1, bl2, m2, m5, -bin_add_t, -bin_mul_t]
      simpa [h2] using hQ
    · have h2' : ¬ (n : Int) = 2 := by omega
      simp [h2', h2, sd1, sd2, a1, a2, a3, bl1, bl2, m1, m2, m5, -bin_add_t, -bin_mul_t]
      simpa [h2] using hQ
  refine key _ fun s15 hs => ?_
  subst hs
  generalize oddL n fs rs = W at *
  simp only [nxQ_nx]
  refine ho_at rfl ?_
  simp
  refine ho_lcR0 (xs := W) ?_ ?_ ?_ ?_ ?_
  · rfl
  · rfl
  · omega
  · intro x hx
    have s1 := hn3 x hx
    unfold isnt at s1
    simp only [Turn]
    simp [s1]
  have t1 : cv (callP G defs 11 7 [.tuple [.tuple [.tuple [.int 1, .int 1]]]]) = some (.val (.bool true)) := by
    have hc : Ch 1 (fun _ _ => 1) 1 := ⟨by decide, by decide, by decide, by decide, fun i _ => rfl⟩
    have := s_ischain 7 hc
    have e : chD 1 (fun _ _ => 1) 1 = .tuple [.tuple [.tuple [.int 1, .int 1]]] := by
      show PyData.tuple [.tuple [frN 1 1]] = _
      rw [frN_one (by decide)]
    rw [e] at this
    exact this
  simp [t1]
  exact ⟨_, rfl⟩
theorem st_law (x : D) : startE d_law [x] = [.fz x, .no, .no, .no, .no, .no, .no, .no, .no, .no, .no, .no, .no, .no, .no, .no, .no] := rfl
theorem law_ok (ns : List Int) (hn : ns.length ≤ 63) (_ : ∀ k ∈ ns, Builtin.Int.intBits k ≤ 1048576) : ∃ e, callP G defs 12 29 [.list (ns.map .int)] = .ret (.val (.bool true)) e := by
  obtain ⟨ds, e0⟩ := s_draws (G := G) (P := defs) (n := 10) (k := 11) rfl ns hn
  have slb := sl_big
  refine call_ho (d := d_law) rfl rfl ?_
  refine ho_b d_law rfl ?_
  simp [st_law, e0]
  refine ho_at rfl ?_
  obtain ⟨_, e1, n, M, c, ds1, rfl, h⟩ := s_lchain 8 ds
  simp [e1]
  refine ho_at rfl ?_
  have n1 := h.n1
  have n2 := h.n2
  have ln : biD .len [chD n c M] = some (.val (.int n)) := by simp [chD]
  obtain ⟨i, ds2, e2, p1, p2⟩ := take 10 ds1 (bound := n) (by omega)
  obtain ⟨i, rfl⟩ := Int.eq_ofNat_of_zero_le p1
  have hi : i < n := by omega
  simp [ln, e2]
  refine ho_at rfl ?_
  have t1 := s_ischain 7 h
  have t2 := says 10
  simp [t1, t2]
  refine ho_at rfl ?_
  have rg4 := rg_int (n := 4) (by decide)
  have rg4 : rangeOf [.int 4] = some ((List.range 4).map fun k : Nat => .int k) := rg4
  simp [rg4, -range_1]
  refine ho_for (inj := fun k : Nat => PyData.int k) (xs := List.range 4) (fun q r => ∃ (ds : List Int) (s5 s6 s7 s8 s9 s10 s11 s12 s13 s14 : Sl), r = E5 (.list (ns.map .int)) ds n c M i s5 s6 s7 s8 s9 s10 s11 s12 s13 s14) rfl ⟨ds2, _, _, _, _, _, _, _, _, _, _, rfl⟩ (fun q x q' r hx hr => ?_) (fun r hr => ?_)
  · obtain ⟨ds, s5, s6, s7, s8, s9, s10, s11, s12, s13, s14, rfl⟩ := hr
    obtain ⟨hx4, _, _⟩ := mem_range_of hx
    simp only [bodyE_ap]
    simp [E5]
    refine turn_a h hi (t := x) (by omega) (.list (ns.map .int)) ds s6 s7 s8 s9 s10 s11 s12 s13 s14 _ (fun ds s6 s7 s8 s9 s10 s11 s12 s13 s14 => ?_)
    exact ⟨_, _, _, _, _, _, _, _, _, _, _, rfl⟩
  obtain ⟨ds, s5, s6, s7, s8, s9, s10, s11, s12, s13, s14, rfl⟩ := hr
  simp
  refine ho_at rfl ?_
  have er1 := s_err 7 (chD n c M) i (-1) (.inl rfl)
  have er2 := s_err 7 (chD n c M) i 31 (.inr rfl)
  have o9 := s_told 6 h hi (t := 9) (by omega)
  have o8 := one_sum 7 h hi (t := 9) (by omega)
  have o7 : biD .list [vD n c M i 9] = some (.new (.list ((List.range n).map fun j => frN (M ^ 9) (v n c i 9 j)))) := rfl
  have e11 : eqD (.tuple [.int 1, .int 1]) (.tuple [.int 1, .int 1]) = some true := eq_fr 1
  generalize ((List.range n).map fun j => frN (M ^ 9) (v n c i 9 j)) = L9 at *
  unfold E5
  simp
  refine ho_lc (inj := PyData.int) (xs := [-1, 31]) (fun _ => .str (Str.ofString "range")) rfl (fun x hx => ?_) ?_
  · simp at hx
    simp only [Turn]
    rcases hx with rfl | rfl
    · simp [er1]
    · simp [er2]
  have es : eqD (.list [.str (Str.ofString "range"), .str (Str.ofString "range")]) (.list [.str (Str.ofString "range"), .str (Str.ofString "range")]) = some true := eqD_self rfl rfl
  have o9 : cv (callP G defs 11 26 [chD n c M, .int i, .int 9]) = some (.val (vD n c M i 9)) := o9
  simp [es, o9, o8, o7, e11, List.replicate, show 2 ≤ sizeLine by omega]
  refine ho_at rfl ?_
  obtain ⟨fs, rs, ec, er, hf, hrs⟩ : ∃ fs rs : List D, chD n c M = .tuple (.tuple fs :: rs) ∧ row n c M 0 = .tuple fs ∧ fs.length = n ∧ rs.length + 1 = n := by
    obtain ⟨m, rfl⟩ : ∃ m, n = m + 1 := ⟨n - 1, by omega⟩
    refine ⟨(List.range (m + 1)).map fun j => frN M (c 0 j), ((List.range m).map Nat.succ).map (row (m + 1) c M), ?_, rfl, ?_, ?_⟩
    · have e : List.range (m + 1) = 0 :: (List.range m).map Nat.succ := List.range_succ_eq_map
      unfold chD
      conv => lhs; rw [e]
      rfl
    · simp
    · simp
  rw [ec]
  simp
  exact law_e _ _ _ ⟨n1, n2⟩ hf hrs (.int i) s5 s6 s7 s8 s9 s11 s12 s13 s14

end Law_k39
def Law_k39.dl : Fw.Dn := Law_k39.dns.getD 29 { name := "", at_ := 0, N := [], io := false }
open PySem PySem.W PyProof.Rows
def Law_k39.pg (q : Program) : Fw.Pg := { gc := true, gd := true, body := (PyProof.Rows.recsOf q).map PySem.DefRec.stmt, dns := Law_k39.dns, glos := Law_k39.glos, xs := Law_k39.xs, hots := Law_k39.hots, hg := ["LIMIT"], P := Law_k39.defs }
set_option maxHeartbeats 0 in
theorem PySem.Challenge.cw_campslaid_k39_whole_chains_of_weather_holds : PySem.Challenge.rw_campslaid_k39_whole_chains_of_weather.Holds := by
  w_on
  o_law
  k_head
  (case hw => w_witness2)
  k_fill
  refine Fw.walk_lawF (n := 63) (lv := 12) (kl := 29) (dl := Law_k39.dl) (pf := Law_k39.pg) (x := "script") ?hn ?hn2 ?hdf ?hr ?ok ?E ?hkl ?hname ?hio ?ps ?hd ?calm ?law
  case hn => rfl
  case hn2 => decide
  case hdf => rfl
  case hr => exact ⟨rfl, by decide, by decide⟩
  case ok => exact ⟨by kernel_rfl, by decide +kernel, by decide +kernel, by decide +kernel, by decide +kernel, by decide +kernel⟩
  case E => exact ⟨rfl, by decide +kernel, by decide +kernel, by kernel_rfl, by decide +kernel⟩
  case hkl => rfl
  case hname => rfl
  case hio => rfl
  case ps => kernel_rfl
  case hd =>
    intro w mg h Y G
    refine ⟨_, PySem.W.kIn_of Y, ?g1, ?g2, ?g3, ?g4⟩
    case g1 =>
      intro _
      refine PySem.W.mg_of (PySem.W.kIn_of Y) G ?z
      k_is
    case g2 => kernel_rfl
    case g3 => intro K1; kernel_rfl
    case g4 => intro K1; kernel_rfl
  case calm => rfl
  case law => exact fun ns h1 h2 => Law_k39.law_ok ns h1 h2
