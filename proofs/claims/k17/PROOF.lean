import PyProof.Rows.All
import Wide.All
import OpenK.AllK
import Wide.FinOn
import HandS.ForMost
import HandS.ForExc
import HandS.StrMore
import HandS.More
import HandS.IsInst
import HandS.TupAny
import HandS.CallSlots
import HandS.TryMany
import HandS.Small
import HandS.RaiseMore
import HandS.ExcInit
import HandS.ExcField
import HandS.Flow
import HandS.Conv
import HandS.NoneIn
import HandS.Deep
import HandS.Property
import HandS.OwnEq
import HandS.Zip
import HandS.Walk
import HandS.Replace
import HandS.StrSplit
import HandS.Codes
import KE.SortData
import HandS.Lambda
import KE.KRevSl
import KE.GoesEnum
import KE.GoesZip
import KE.GoesMore
import HandS.HeadHook2
import HandS.HeadHook3
import HandS.HeadHook4
import HandS.HeadEnd
import Wide.Once
import HandS.Head0
import HandS.Head1
import HandS.Head2
import PySem.Challenge.RW_nextalike_k17_texts_there_and_back
set_option Elab.async false
set_option linter.all false
set_option maxRecDepth 100000
/-! Mini1: deep values, a small language, its evaluator. Plain Lean. -/
namespace My
open PySem

/-- a deep value: what can never change, and references to what may -/
inductive D where
  | non | bl (b : Bool) | int (i : Int) | str (s : List Nat)
  | tup (ds : List D) | lst (ds : List D) | dct (kvs : List (D × D))
  | ins (c : Nat) (fs : List (Nat × D)) | ref (n : Nat) | kl (ds : List D)
  deriving Inhabited

/-- what may change -/
inductive Own where
  | lst (ds : List D) | dct (kvs : List (D × D)) | ins (c : Nat) (fs : List (Nat × D))
def Own.frz : Own → D
  | .lst ds => .lst ds
  | .dct kvs => .dct kvs
  | .ins c fs => .ins c fs
abbrev Wd := List Own
/-- a value, or a new object that nobody else knows -/
inductive Rv where
  | v (d : D) | o (w : Own)
def Rv.d : Rv → D
  | .v d => d
  | .o w => w.frz
inductive R (α : Type) where
  | ok (a : α) (w : Wd) | exc (c : Nat) (fs : List (Nat × D)) (w : Wd) | bad
abbrev M (α : Type) := Wd → R α
def M.ret {α : Type} (a : α) : M α := fun w => .ok a w
def M.bd {α β : Type} (m : M α) (f : α → M β) : M β := fun w => match m w with
  | .ok a w' => f a w'
  | .exc c fs w' => .exc c fs w'
  | .bad => .bad
/-- no exception comes out of it -/
def M.noX {α : Type} (m : M α) : M α := fun w => match m w with
  | .ok a w' => .ok a w'
  | _ => .bad
def M.opt {α : Type} : Option α → M α
  | some a => fun w => .ok a w
  | none => fun _ => .bad
inductive Slot where
  | u | v (d : D) | o (w : Own) | x (c : Nat) (fs : List (Nat × D))
abbrev Env := List Slot

/-! ### values -/
def lim : Nat := 16777216
mutual
def D.eqv : D → D → Bool
  | .non, .non => true
  | .bl a, .bl b => a == b
  | .bl a, .int j => (if a then 1 else 0) == j
  | .int i, .bl b => i == (if b then 1 else 0)
  | .int i, .int j => i == j
  | .str x, .str y => x == y
  | .lst xs, .lst ys => D.eqvs xs ys
  | .tup xs, .tup ys => D.eqvs xs ys
  | _, _ => false
def D.eqvs : List D → List D → Bool
  | [], [] => true
  | x :: xs, y :: ys => D.eqv x y && D.eqvs xs ys
  | _, _ => false
end
/-- None, bools, ints, texts, lists and tuples of such, n deep -/
def D.plain : Nat → D → Bool
  | _, .non => true
  | _, .bl _ => true
  | _, .int _ => true
  | _, .str _ => true
  | n + 1, .tup ds => ds.all (D.plain n)
  | n + 1, .lst ds => ds.all (D.plain n)
  | _, _ => false
def D.flat : D → Bool
  | .non => true
  | .bl _ => true
  | .int _ => true
  | .str _ => true
  | _ => false
def pEq (a b : D) : Option Bool := if a.plain 60 && b.plain 60 then some (a.eqv b) else none
/-- keys of dicts -/
def lookD : List (D × D) → D → Option D
  | [], _ => none
  | (k, v) :: r, x => if k.eqv x then some v else lookD r x
def keyOk : D → Bool
  | .int _ => true
  | .str _ => true
  | _ => false
def putD (kvs : List (D × D)) (x y : D) : List (D × D) :=
  if kvs.any (fun kv => kv.1.eqv x) then kvs.map (fun kv => if kv.1.eqv x then (kv.1, y) else kv) else kvs ++ [(x, y)]
def lookF : List (Nat × D) → Nat → Option D
  | [], _ => none
  | (k, v) :: r, x => if k == x then some v else lookF r x
def putFs : List (Nat × D) → Nat → D → List (Nat × D)
  | [], x, y => [(x, y)]
  | (k, v) :: r, x, y => if k == x then (x, y) :: r else (k, v) :: putFs r x y
def ixI (n : Nat) (i : Int) : Option Nat := if 0 ≤ i then (if i < n then some i.toNat else none) else if -(n : Int) ≤ i then some (i + n).toNat else none
def nth {α : Type} (xs : List α) (i : Int) : Option α := (ixI xs.length i).bind fun j => xs[j]?
def sIx (n d : Nat) : Option Int → Nat
  | none => d
  | some v => if v < 0 then (v + (n : Int)).toNat else min v.toNat n
def cut {α : Type} (xs : List α) (lo hi : Option Int) : List α :=
  (xs.drop (sIx xs.length 0 lo)).take (sIx xs.length xs.length hi - sIx xs.length 0 lo)
def chars (s : List Nat) : List D := s.map fun c => .str [c]
def truth : D → Option Bool
  | .non => some false
  | .bl b => some b
  | .int i => some (i != 0)
  | .str s => some (!s.isEmpty)
  | .lst ds => some (!ds.isEmpty)
  | .tup ds => some (!ds.isEmpty)
  | _ => none
inductive Op where | add | sub | mul | mod | fdiv | pow
def smallI (i : Int) : Bool := decide (-(2 ^ 64) < i) && decide (i < 2 ^ 64)
def dOp : Op → D → D → Option Rv
  | .add, .int i, .int j => some (.v (.int (i + j)))
  | .add, .str x, .str y => if x.length + y.length ≤ lim then some (.v (.str (x ++ y))) else none
  | .add, .lst x, .lst y => if x.length + y.length ≤ lim then some (.o (.lst (x ++ y))) else none
  | .add, .tup x, .tup y => if x.length + y.length ≤ lim then some (.v (.tup (x ++ y))) else none
  | .sub, .int i, .int j => some (.v (.int (i - j)))
  | .mul, .int i, .int j => if smallI i || smallI j then some (.v (.int (i * j))) else none
  | .mul, .str x, .int j => if 0 ≤ j ∧ j < 2 ^ 62 ∧ x.length * j.toNat ≤ lim then some (.v (.str (List.replicate j.toNat x).flatten)) else none
  | .mod, .int i, .int j => if 0 < j then some (.v (.int (i % j))) else none
  | .fdiv, .int i, .int j => if 0 < j ∧ j < 1073741824 then some (.v (.int (i / j))) else none
  | .pow, .int i, .int j => if 0 ≤ j ∧ j ≤ 1000000 ∧ i.natAbs < 2 ^ 64 then some (.v (.int (i ^ j.toNat))) else none
  | _, _, _ => none
inductive Cm where | eq | ne | lt | le | gt | ge | isn | notn | isin | nin
def ltL : List Nat → List Nat → Bool
  | [], [] => false
  | [], _ :: _ => true
  | _ :: _, [] => false
  | x :: xs, y :: ys => if x = y then ltL xs ys else decide (x < y)
def dIn : D → D → Option Bool
  | .str x, .str s => match x with
    | [c] => some (s.contains c)
    | _ => none
  | x, .lst ds => if x.plain 60 && ds.all (D.plain 59) then some (ds.any fun y => y.eqv x) else none
  | x, .tup ds => if x.plain 60 && ds.all (D.plain 59) then some (ds.any fun y => y.eqv x) else none
  | x, .dct kvs => if keyOk x then some (lookD kvs x).isSome else none
  | _, _ => none
def dLt : D → D → Option Bool
  | .int i, .int j => some (decide (i < j))
  | .str x, .str y => some (ltL x y)
  | _, _ => none
def isNon : D → Bool
  | .non => true
  | _ => false
def dCmp : Cm → D → D → Option Bool
  | .eq, a, b => pEq a b
  | .ne, a, b => (pEq a b).map (!·)
  | .lt, a, b => dLt a b
  | .gt, a, b => dLt b a
  | .le, a, b => (dLt b a).map (!·)
  | .ge, a, b => (dLt a b).map (!·)
  | .isn, a, .non => some (isNon a)
  | .notn, a, .non => some (!isNon a)
  | .isin, a, b => dIn a b
  | .nin, a, b => (dIn a b).map (!·)
  | _, _, _ => none
inductive Ty where | str | int | bool | tup | lst | cls (c : Nat)
def tyN : D → Option String
  | .non => some "NoneType"
  | .bl _ => some "bool"
  | .int _ => some "int"
  | .str _ => some "str"
  | .tup _ => some "tuple"
  | .lst _ => some "list"
  | _ => none
def isTy : Ty → D → Option Bool
  | .str, .str _ => some true
  | .int, .int _ => some true
  | .int, .bl _ => some true
  | .bool, .bl _ => some true
  | .tup, .tup _ => some true
  | .lst, .lst _ => some true
  | .cls c, .ins e _ => some (c == e)
  | _, .dct _ => none
  | _, .ref _ => none
  | _, .kl _ => none
  | _, _ => some false
def allB : List D → Option (List Bool)
  | [] => some []
  | .bl b :: r => (allB r).map (b :: ·)
  | _ :: _ => none
def allI : List D → Option (List Int)
  | [] => some []
  | .int b :: r => (allI r).map (b :: ·)
  | _ :: _ => none
def allS : List D → Option (List (List Nat))
  | [] => some []
  | .str b :: r => (allS r).map (b :: ·)
  | _ :: _ => none
def joinS (sep : List Nat) : List (List Nat) → List Nat
  | [] => []
  | [x] => x
  | x :: r => x ++ sep ++ joinS sep r
def sKind : D → Nat
  | .str _ => 1
  | .tup [.str _, .int _] => 2
  | _ => 0
/-- lists that sorted takes: of texts, of pairs (text, int) -/
def sortOk (ds : List D) : Bool := ds.all (fun d => sKind d == 1) || ds.all (fun d => sKind d == 2)
def leS : D → D → Bool
  | .str a, .str b => !ltL b a
  | .tup [.str a, .int i], .tup [.str b, .int j] => !(ltL b a || (a == b && decide (j < i)))
  | _, _ => true
def items : D → Option (List D)
  | .str s => some (chars s)
  | .lst ds => some ds
  | .tup ds => some ds
  | _ => none
inductive Bi where | len | all | any | int | list | str | sum | tuple | min | sorted
def digits (n : Nat) : List Nat := (toString n).toList.map Char.toNat
def distinct : List D → Nat
  | [] => 0
  | d :: r => if r.any (fun e => e.eqv d) then distinct r else distinct r + 1
def dBi : Bi → List D → Option Rv
  | .len, [.str s] => some (.v (.int s.length))
  | .len, [.lst s] => some (.v (.int s.length))
  | .len, [.tup s] => some (.v (.int s.length))
  | .all, [.lst s] => (allB s).map fun bs => .v (.bl (bs.all id))
  | .any, [.lst s] => (allB s).map fun bs => .v (.bl (bs.any id))
  | .int, [.int i] => some (.v (.int i))
  | .int, [.bl b] => some (.v (.int (if b then 1 else 0)))
  | .int, [.str [c]] => if 48 ≤ c ∧ c ≤ 57 then some (.v (.int ((c - 48 : Nat) : Int))) else none
  | .list, [.lst ds] => some (.o (.lst ds))
  | .list, [.tup ds] => some (.o (.lst ds))
  | .list, [.kl ds] => some (.o (.lst ds))
  | .str, [.str s] => some (.v (.str s))
  | .str, [.int i] => if 0 ≤ i ∧ i < 10 then some (.v (.str (digits i.toNat))) else none
  | .sum, [.lst s] => (allI s).map fun bs => .v (.int bs.sum)
  | .tuple, [.lst s] => some (.v (.tup s))
  | .tuple, [.tup s] => some (.v (.tup s))
  | .sorted, [.lst ds] => if sortOk ds ∧ ds.length ≤ lim then some (.o (.lst (ds.mergeSort leS))) else none
  | .sorted, [.str s] => if s.length < 64 then some (.o (.lst ((chars s).mergeSort leS))) else none
  | .min, [.int i, .int j] => some (.v (.int (if j < i then j else i)))
  | _, _ => none
inductive Sm where | join | split | count | index
def splitS (c : Nat) : List Nat → List (List Nat)
  | [] => [[]]
  | x :: r => if x = c then [] :: splitS c r else match splitS c r with
    | [] => [[x]]
    | y :: t => (x :: y) :: t
def findIx (p : D → Bool) : List D → Option Nat
  | [] => none
  | d :: r => if p d then some 0 else (findIx p r).map (· + 1)
def dSm : Sm → D → List D → Option Rv
  | .join, .str sep, [d] => match d with
    | .lst ds => (allS ds).bind fun ys => if (ys.map (·.length)).sum + ys.length * sep.length ≤ lim then some (.v (.str (joinS sep ys))) else none
    | _ => none
  | .split, .str s, [.str [c]] => if s.length + 2 ≤ lim ∧ c < 256 then some (.o (.lst ((splitS c s).map D.str))) else none
  | .count, .str s, [.str [c]] => some (.v (.int (s.count c)))
  | .index, .str s, [.str [c]] => if s.contains c then some (.v (.int (s.idxOf c))) else none
  | _, _, _ => none
def dIdx : D → D → Option D
  | .lst ds, .int i => nth ds i
  | .tup ds, .int i => nth ds i
  | .str s, .int i => (nth s i).map fun c => .str [c]
  | .dct kvs, k => if keyOk k then lookD kvs k else none
  | _, _ => none
def dCut : D → Option Int → Option Int → Option Rv
  | .lst ds, lo, hi => some (.o (.lst (cut ds lo hi)))
  | .tup ds, lo, hi => some (.v (.tup (cut ds lo hi)))
  | .str s, lo, hi => some (.v (.str (cut s lo hi)))
  | _, _, _ => none
def deref (w : Wd) : D → D
  | .ref n => match w[n]? with
    | some (.lst ds) => .lst ds
    | some (.dct kvs) => .dct kvs
    | _ => .ref n
  | d => d

/-! ### the small language -/
inductive Tg where
  | nm (i : Nat) | tp (l : List Nat)
mutual
inductive E where
  | var (i : Nat) | cst (d : D) | glb (x : Nat) | tup (es : Es) | lst (es : Es) | dct0
  | op (o : Op) (a b : E) | cmp (c : Cm) (a b : E) | chn (a : E) (c : Cm) (b : E) (c' : Cm) (d : E)
  | eqo (f : Nat) (c : Nat) (a b : E) | neo (f : Nat) (c : Nat) (a b : E)
  | and (a b : E) | or (a b : E) | not (a : E) | ite (t : T) (a b : E) | neg (a : E)
  | idx (a b : E) | slc (a : E) (lo hi : Oe) | rev (a : E) | fld (c f : Nat) (a : E)
  | lc (tg : Tg) (it : It) (cnd : Ot) (elt : E) | lc2 (i : Nat) (it : It) (j : Nat) (it2 : It) (elt : E)
  | call (f : Nat) (es : Es) | mk (f : Nat) (c : Nat) (es : Es) | met (f c m : Nat) (a : E) (es : Es)
  | bi (b : Bi) (es : Es) | isi (t : Ty) (a : E) | sm (m : Sm) (a e : E)
  | al (e : E) | xfld (i f : Nat) | gix (x : Nat) (e : E)
  | popR (a : E) | popR0 (a : E) (e : E) | bad
  | isc (c : Nat) (a : E) | oeq (f c m : Nat) (a b : E) | oin (f c m : Nat) (a b : E) | oand (f c m : Nat) (a b : E)
  | dget (a b c : E) | lcd (i : Nat) (tg : Tg) (cnd : Ot) (elt : E)
inductive Es where
  | nil | cons (e : E) (es : Es)
inductive Oe where
  | no | so (e : E)
inductive T where
  | e (e : E) | and (a b : T) | or (a b : T) | not (a : T)
inductive Ot where
  | no | so (t : T)
inductive It where
  | on (e : E) | rng1 (a : E) | rng2 (a b : E) | enm (e : E) | zp (a b : E)
end
mutual
inductive S where
  | asg (i : Nat) (e : E) | asgT (l : List Nat) (e : E) | asgO (i : Nat) (e : E)
  | setI (i : Nat) (k e : E) | setL (i : Nat) (k e : E) | setR (a k e : E) | setF (c : Nat) (a : E) (f : Nat) (e : E) | setS (c f : Nat) (e : E) | augF (c : Nat) (a : E) (f : Nat) (e : E)
  | app (i : Nat) (e : E) | appR (a e : E) | ins (i : Nat) (k e : E) | pop (j i : Nat) | setd (i j : Nat) (k v : E)
  | aug (i : Nat) (o : Op) (e : E) | exp (e : E) | ife (t : T) (a b : Ss) | forr (tg : Tg) (it : It) (b : Ss) | whl (t : T) (b : Ss)
  | ret (e : E) | retN | rse (c : Nat) (es : Es) | tri (b : Ss) (h : Hs) | brk | cont | pss | frz (i : Nat) | bad
inductive Ss where
  | nil | cons (s : S) (ss : Ss)
inductive Hs where
  | nil | cons (c : Nat) (i : Option Nat) (b : Ss) (h : Hs)
end

/-! ### the evaluator -/
structure Gx where
  fn : Nat → List D → M Rv
  gl : Nat → Option D
  gd : Nat → List (D × D)
  sub : Nat → Nat → Bool
  efs : Nat → List Nat
/-- d.get(k, z) -/
def dGetD : D → D → D → Option D
  | .dct kvs, k, z => if keyOk k then some ((lookD kvs k).getD z) else none
  | _, _, _ => none
def isDct : D → Bool
  | .dct _ => true
  | _ => false
def okK : D → Bool
  | .int _ => true
  | .str s => (s.all fun c => decide (c < 0x110000)) && decide (s.length ≤ lim)
  | _ => false
/-- a value position -/
def val (m : M Rv) : M D := m.bd fun r => M.ret r.d
/-- a place that is read at once -/
def bas (e : E) (ρ : Env) (m : M Rv) : M D := match e with
  | .var i => (match ρ[i]? with
    | some (.o w) => M.ret w.frz
    | _ => val m)
  | _ => val m
def rv (o : Option Rv) : M Rv := M.opt o
def vl (o : Option D) : M Rv := M.opt (o.map Rv.v)
def bl (o : Option Bool) : M Rv := M.opt (o.map fun b => Rv.v (.bl b))
def derefs (ds : List D) : M (List D) := fun w => .ok (ds.map (deref w)) w
/-- from the list of items to a loop -/
def lcGo (f : D → M (Option D)) : List D → M (List D)
  | [] => M.ret []
  | x :: xs => (f x).bd fun o => (lcGo f xs).bd fun r => M.ret (match o with
    | some y => y :: r
    | none => r)
def bindTg : Tg → D → Env → Option Env
  | .nm i, x, ρ => some (ρ.set i (.v x))
  | .tp l, .tup xs, ρ => if xs.length = l.length then some ((l.zip xs).foldl (fun r p => r.set p.1 (.v p.2)) ρ) else none
  | .tp _, _, _ => none
def wipeE (l : List Nat) (ρ : Env) : Env := l.foldl (fun r i => r.set i .u) ρ
def Tg.slots : Tg → List Nat
  | .nm i => [i]
  | .tp l => l
def rngD (a b : Int) : List D := (List.range (b - a).toNat).map fun (i : Nat) => .int (a + (i : Int))
def enmD (n : Nat) : List D → List D
  | [] => []
  | x :: xs => .tup [.int n, x] :: enmD (n + 1) xs
def zpD : List D → List D → List D
  | x :: xs, y :: ys => .tup [x, y] :: zpD xs ys
  | _, _ => []
/-- enumerate, zip of lists and of tuples -/
def enmQ : D → Option (List D)
  | .lst l => some (enmD 0 l)
  | .tup l => some (enmD 0 l)
  | _ => none
def zpQ : D → D → Option (List D)
  | .lst l, .lst r => some (zpD l r)
  | .tup l, .tup r => some (zpD l r)
  | .tup l, .lst r => some (zpD l r)
  | _, _ => none
/-- isTrue -/
def tru (m : M Rv) : M Bool := m.bd fun r w => match truth (deref w r.d) with
  | some b => .ok b w
  | none => .bad
def isIns (c : Nat) : D → Bool
  | .ins e _ => e == c
  | _ => false
def fldOf (w : Wd) (c f : Nat) : D → Option D
  | .ins e fs => if e = c then lookF fs f else none
  | .ref n => (match w[n]? with
    | some (.ins e fs) => if e = c then lookF fs f else none
    | _ => none)
  | _ => none
def isCls (w : Wd) (c : Nat) : D → Bool
  | .ins e _ => e == c
  | .ref n => (match w[n]? with
    | some (.ins e _) => e == c
    | _ => false)
  | _ => false
def isLst (w : Wd) (n : Nat) : Bool := match w[n]? with
  | some (.lst _) => true
  | _ => false
/-- pop(i) of a shared list -/
def popAt (n : Nat) (k : D) (w : Wd) : R Rv := match k, w[n]? with
  | .int i, some (.lst ds) => if 0 ≤ i ∧ i < 4611686018427387904 then (match ds[i.toNat]? with
    | some y => .ok (.v y) (w.set n (.lst (ds.eraseIdx i.toNat)))
    | none => .bad) else .bad
  | _, _ => .bad
/-- a new object alone -/
def onlyO : Rv → M Rv
  | .o o => M.ret (.o o)
  | .v _ => fun _ => .bad
/-- a Boolean alone -/
def onlyB : Rv → M Rv
  | .v (.bl b) => M.ret (.v (.bl b))
  | _ => fun _ => .bad
mutual
def ev (G : Gx) : E → Env → M Rv
  | .var i, ρ => (match ρ[i]? with
    | some (.v d) => M.ret (.v d)
    | _ => fun _ => .bad)
  | .cst d, _ => M.ret (.v d)
  | .glb x, _ => vl (G.gl x)
  | .tup es, ρ => (evs G es ρ).bd fun ds => if ds.length ≤ 100 then M.ret (.v (.tup ds)) else fun _ => .bad
  | .lst es, ρ => (evs G es ρ).bd fun ds => if ds.length ≤ 100 then M.ret (.o (.lst ds)) else fun _ => .bad
  | .dct0, _ => M.ret (.o (.dct []))
  | .op o a b, ρ => (bas a ρ (ev G a ρ)).bd fun x => (bas b ρ (ev G b ρ)).bd fun y w => rv (dOp o (deref w x) (deref w y)) w
  | .cmp c a b, ρ => (bas a ρ (ev G a ρ)).bd fun x => (bas b ρ (ev G b ρ)).bd fun y w => bl (dCmp c (deref w x) (deref w y)) w
  | .chn a c b c' d, ρ => (val (ev G a ρ)).bd fun x => (val (ev G b ρ)).bd fun y w => (match dCmp c x y with
    | some true => (val (ev G d ρ)).bd (fun z => bl (dCmp c' y z)) w
    | some false => .ok (.v (.bl false)) w
    | none => .bad)
  | .eqo f c a b, ρ => (val (ev G a ρ)).bd fun x => (val (ev G b ρ)).bd fun y => if isIns c x then G.fn f [x, y] else fun _ => .bad
  | .neo f c a b, ρ => (val (ev G a ρ)).bd fun x => (val (ev G b ρ)).bd fun y => if isIns c x then (G.fn f [x, y]).bd (fun r => match r with
      | .v (.bl b) => M.ret (.v (.bl (!b)))
      | _ => fun _ => .bad) else fun _ => .bad
  | .and a b, ρ => (ev G a ρ).bd fun x => (match x with
    | .v (.bl true) => ev G b ρ
    | .v (.bl false) => M.ret (.v (.bl false))
    | _ => fun _ => .bad)
  | .or a b, ρ => (ev G a ρ).bd fun x => (match x with
    | .v (.bl true) => M.ret (.v (.bl true))
    | .v (.bl false) => ev G b ρ
    | _ => fun _ => .bad)
  | .not a, ρ => (tru (ev G a ρ)).bd fun b => M.ret (.v (.bl (!b)))
  | .ite t a b, ρ => (evT G t ρ).bd fun c => if c then ev G a ρ else ev G b ρ
  | .neg a, ρ => (val (ev G a ρ)).bd fun x => (match x with
    | .int i => M.ret (.v (.int (-i)))
    | _ => fun _ => .bad)
  | .idx a b, ρ => (bas a ρ (ev G a ρ)).bd fun x => (val (ev G b ρ)).bd fun y w => vl (dIdx (deref w x) y) w
  | .slc a lo hi, ρ => (bas a ρ (ev G a ρ)).bd fun x => (evo G lo ρ).bd fun i => (evo G hi ρ).bd fun j w => rv (dCut (deref w x) i j) w
  | .rev a, ρ => (val (ev G a ρ)).bd fun x => (match x with
    | .str s => M.ret (.v (.str s.reverse))
    | _ => fun _ => .bad)
  | .fld c f a, ρ => (bas a ρ (ev G a ρ)).bd fun x w => vl (fldOf w c f x) w
  | .lc tg it cnd elt, ρ => (evi G it ρ).bd fun xs => if xs.length ≤ lim then (M.noX (lcGo (fun x => match bindTg tg x (wipeE tg.slots ρ) with
    | some ρ' => (evc G cnd ρ').bd fun b => if b then (val (ev G elt ρ')).bd (fun y => M.ret (some y)) else M.ret none
    | none => fun _ => .bad) xs)).bd fun ys => M.ret (.o (.lst ys)) else fun _ => .bad
  | .lc2 i it j it2 elt, ρ => fun _ => .bad
  | .call f es, ρ => (evs G es ρ).bd fun ds => G.fn f ds
  | .mk f _ es, ρ => (evs G es ρ).bd fun ds => (G.fn f ds).bd onlyO
  | .met f c _ a es, ρ => (val (ev G a ρ)).bd fun x w => if isCls w c x then ((evs G es ρ).bd fun ds => G.fn f (x :: ds)) w else .bad
  | .bi b es, ρ => (evb G es ρ).bd fun ds w => rv (dBi b (ds.map (deref w))) w
  | .isi t a, ρ => (bas a ρ (ev G a ρ)).bd fun x w => (match deref w x with
    | .ins _ _ => .bad
    | d => bl (isTy t d) w)
  | .sm m a e, ρ => (val (ev G a ρ)).bd fun x => (match x with
    | .str s => (bas e ρ (ev G e ρ)).bd fun y w => rv (dSm m (.str s) [deref w y]) w
    | _ => fun _ => .bad)
  | .al e, ρ => (ev G e ρ).bd fun r => (match r with
    | .o w0 => fun w => .ok (.v (.ref w.length)) (w ++ [w0])
    | .v _ => fun _ => .bad)
  | .xfld i f, ρ => (match ρ[i]? with
    | some (.x _ fs) => vl (lookF fs f)
    | _ => fun _ => .bad)
  | .gix x e, ρ => (val (ev G e ρ)).bd fun k => vl (lookD (G.gd x) k)
  | .popR a, ρ => (val (ev G a ρ)).bd fun x w => (match x with
    | .ref n => (match w[n]? with
      | some (.lst ds) => (match ds.getLast? with
        | some y => .ok (.v y) (w.set n (.lst ds.dropLast))
        | none => .bad)
      | _ => .bad)
    | _ => .bad)
  | .bad, _ => fun _ => .bad
  | .isc c a, ρ => (val (ev G a ρ)).bd fun x w => if isCls w c x then .ok (.v (.bl true)) w else .bad
  | .oeq f c _ a b, ρ => (val (ev G a ρ)).bd fun x => (val (ev G b ρ)).bd fun y w => if isCls w c x = true ∧ isCls w c y = true then ((G.fn f [x, y]).bd onlyB) w else .bad
  | .oin f c _ a b, ρ => (val (ev G a ρ)).bd fun x => (val (ev G b ρ)).bd fun y w => if isCls w c y = true then ((G.fn f [y, x]).bd onlyB) w else .bad
  | .oand f c _ a b, ρ => (val (ev G a ρ)).bd fun x => (val (ev G b ρ)).bd fun y w => if isCls w c x = true ∧ isCls w c y = true then ((G.fn f [x, y]).bd onlyO) w else .bad
  | .dget a b c, ρ => (bas a ρ (ev G a ρ)).bd fun x w => if isDct (deref w x) then ((val (ev G b ρ)).bd fun y => (val (ev G c ρ)).bd fun z w => vl (dGetD (deref w x) y z) w) w else .bad
  | .lcd i tg cnd elt, ρ => fun w => (match ρ[i]? with
    | some (.v (.dct kvs)) => if (kvs.map (·.1)).length ≤ lim ∧ (kvs.all fun p => okK p.1) = true then ((M.noX (lcGo (fun x => match bindTg tg x (wipeE tg.slots ρ) with
      | some ρ' => (evc G cnd ρ').bd fun b => if b then (val (ev G elt ρ')).bd (fun y => M.ret (some y)) else M.ret none
      | none => fun _ => .bad) (kvs.map (·.1)))).bd fun ys => M.ret (.o (.lst ys))) w else .bad
    | _ => .bad)
  | .popR0 a e, ρ => (val (ev G a ρ)).bd fun x w => (match x with
    | .ref n => if isLst w n then ((val (ev G e ρ)).bd fun k w => popAt n k w) w else .bad
    | _ => .bad)
/-- a test -/
def evT (G : Gx) : T → Env → M Bool
  | .e e, ρ => (bas e ρ (ev G e ρ)).bd fun x w => (match truth (deref w x) with
    | some b => .ok b w
    | none => .bad)
  | .and a b, ρ => (evT G a ρ).bd fun x => if x then evT G b ρ else M.ret false
  | .or a b, ρ => (evT G a ρ).bd fun x => if x then M.ret true else evT G b ρ
  | .not a, ρ => (evT G a ρ).bd fun b => M.ret (!b)
def evs (G : Gx) : Es → Env → M (List D)
  | .nil, _ => M.ret []
  | .cons e es, ρ => (val (ev G e ρ)).bd fun x => (evs G es ρ).bd fun xs => M.ret (x :: xs)
/-- arguments of what reads them at once -/
def evb (G : Gx) : Es → Env → M (List D)
  | .nil, _ => M.ret []
  | .cons e es, ρ => (bas e ρ (ev G e ρ)).bd fun x => (evb G es ρ).bd fun xs => M.ret (x :: xs)
def evo (G : Gx) : Oe → Env → M (Option Int)
  | .no, _ => M.ret none
  | .so e, ρ => (val (ev G e ρ)).bd fun x => (match x with
    | .int i => M.ret (some i)
    | _ => fun _ => .bad)
def evc (G : Gx) : Ot → Env → M Bool
  | .no, _ => M.ret true
  | .so e, ρ => evT G e ρ
def evi (G : Gx) : It → Env → M (List D)
  | .on e, ρ => (val (ev G e ρ)).bd fun x => M.opt (items x)
  | .rng1 a, ρ => (val (ev G a ρ)).bd fun x => (match x with
    | .int j => if -(2 ^ 62) ≤ j ∧ j < 2 ^ 62 then M.ret (rngD 0 j) else fun _ => .bad
    | _ => fun _ => .bad)
  | .rng2 a b, ρ => (val (ev G a ρ)).bd fun x => (val (ev G b ρ)).bd fun y => (match x, y with
    | .int i, .int j => if -(2 ^ 62) ≤ i ∧ i < 2 ^ 62 ∧ -(2 ^ 62) ≤ j ∧ j < 2 ^ 62 then M.ret (rngD i j) else fun _ => .bad
    | _, _ => fun _ => .bad)
  | .enm e, ρ => (val (ev G e ρ)).bd fun x => M.opt (enmQ x)
  | .zp a b, ρ => (val (ev G a ρ)).bd fun x => (val (ev G b ρ)).bd fun y => M.opt (zpQ x y)
end
end My

set_option Elab.async false
set_option linter.all false
set_option maxRecDepth 100000
/-! Mini2: statements, defs, programs. -/
namespace My
open PySem

/-- behind a statement -/
inductive RS where
  | nx (ρ : Env) (w : Wd) | rt (r : Rv) (w : Wd) | bk (ρ : Env) (w : Wd) | ct (ρ : Env) (w : Wd) | ex (c : Nat) (fs : List (Nat × D)) (ρ : Env) (w : Wd) | bad
abbrev MS := Wd → RS
/-- an expression's value, then a statement; σ stays -/
def M.st {α : Type} (m : M α) (ρ : Env) (f : α → MS) : MS := fun w => match m w with
  | .ok a w' => f a w'
  | .exc c fs w' => .ex c fs ρ w'
  | .bad => .bad
def RS.sq (r : RS) (f : Env → MS) : RS := match r with
  | .nx ρ w => f ρ w
  | r => r
/-- a while loop: no bound on its turns -/
def iterN (f : Env → Wd → RS × Bool) : Nat → Env → Wd → Option RS
  | 0, _, _ => none
  | n + 1, ρ, w => match f ρ w with
    | (r, false) => some r
    | (.nx ρ' w', true) => iterN f n ρ' w'
    | (r, true) => some r
open Classical in
noncomputable def loopN (f : Env → Wd → RS × Bool) (ρ : Env) (w : Wd) : RS :=
  if h : ∃ n r, iterN f n ρ w = some r then h.choose_spec.choose else .bad
/-- a turn's end: (what, whether it goes on) -/
def RS.turn : RS → RS × Bool
  | .nx ρ w => (.nx ρ w, true)
  | .ct ρ w => (.nx ρ w, true)
  | .bk ρ w => (.nx ρ w, false)
  | r => (r, false)
def forGo (tg : Tg) (f : Env → MS) : List D → Env → MS
  | [], ρ => fun w => .nx ρ w
  | x :: xs, ρ => fun w => match bindTg tg x ρ with
    | none => .bad
    | some ρ' => match f ρ' w with
      | .nx ρ2 w2 => forGo tg f xs ρ2 w2
      | .ct ρ2 w2 => forGo tg f xs ρ2 w2
      | .bk ρ2 w2 => .nx ρ2 w2
      | r => r
def setN (ds : List D) (i : Int) (v : D) : Option (List D) := (ixI ds.length i).map fun j => ds.set j v
/-- a store into what may change -/
def stO : Own → D → D → Option Own
  | .lst ds, .int i, v => (setN ds i v).map Own.lst
  | .dct kvs, k, v => if keyOk k ∧ kvs.length < lim then some (.dct (putD kvs k v)) else none
  | _, _, _ => none
def Own.isI : Own → Bool
  | .ins _ _ => true
  | _ => false
def isOn : It → Bool
  | .on _ => true
  | _ => false
def augD : Op → D → D → Option D
  | .add, .int a, .int b => some (.int (a + b))
  | .sub, .int a, .int b => some (.int (a - b))
  | _, _, _ => none
def RS.noX : RS → RS
  | .ex _ _ _ _ => .bad
  | r => r
/-- the exception's name goes -/
def clrX (ρ : Env) : Env := ρ.map fun s => match s with
  | .x _ _ => .u
  | s => s
def RS.unX (j : Nat) : RS → RS
  | .nx ρ w => .nx ((clrX ρ).set j .u) w
  | .bk ρ w => .bk ((clrX ρ).set j .u) w
  | .ct ρ w => .ct ((clrX ρ).set j .u) w
  | r => r
mutual
noncomputable def evS (G : Gx) : S → Env → MS
  | .asg i e, ρ => (val (ev G e ρ)).st ρ fun x w => .nx (ρ.set i (.v x)) w
  | .asgT l e, ρ => (val (ev G e ρ)).st ρ fun x w => (match bindTg (.tp l) x ρ with
    | some ρ' => .nx ρ' w
    | none => .bad)
  | .asgO i e, ρ => (ev G e ρ).st ρ fun r w => (match r with
    | .o o => if o.isI then .bad else .nx (ρ.set i (.o o)) w
    | .v _ => .bad)
  | .setI i k e, ρ => (val (ev G e ρ)).st ρ fun v w => (match ρ[i]? with
    | some (.o o) => (val (ev G k ρ)).st ρ (fun x w => (match stO o x v with
      | some o' => .nx (ρ.set i (.o o')) w
      | none => .bad)) w
    | _ => .bad)
  | .setL i k e, ρ => (val (ev G e ρ)).st ρ fun v w => (match ρ[i]? with
    | some (.o (.lst ds)) => (val (ev G k ρ)).st ρ (fun x w => (match stO (.lst ds) x v with
      | some o' => .nx (ρ.set i (.o o')) w
      | none => .bad)) w
    | _ => .bad)
  | .setR a k e, ρ => (val (ev G e ρ)).st ρ fun v => (val (ev G a ρ)).st ρ fun y => (val (ev G k ρ)).st ρ fun x w => (match y with
    | .ref n => (match w[n]? with
      | some o => (match stO o x v with
        | some o' => .nx ρ (w.set n o')
        | none => .bad)
      | none => .bad)
    | _ => .bad)
  | .setF c a f e, ρ => (val (ev G e ρ)).st ρ fun v => (val (ev G a ρ)).st ρ fun y w => (match y with
    | .ref n => (match w[n]? with
      | some (.ins c' fs) => if c' = c ∧ fs.length < 1000 then .nx ρ (w.set n (.ins c' (putFs fs f v))) else .bad
      | _ => .bad)
    | _ => .bad)
  | .setS c f e, ρ => (val (ev G e ρ)).st ρ fun v w => (match (ρ[(0 : Nat)]? : Option Slot) with
    | some (.o (.ins c' fs)) => if c' = c ∧ fs.length < 1000 then .nx (ρ.set 0 (.o (.ins c' (putFs fs f v)))) w else .bad
    | _ => .bad)
  | .app i e, ρ => fun w => (match ρ[i]? with
    | some (.o (.lst ds)) => if ds.length < lim then (val (ev G e ρ)).st ρ (fun v w => .nx (ρ.set i (.o (.lst (ds ++ [v])))) w) w else .bad
    | _ => .bad)
  | .appR a e, ρ => (val (ev G a ρ)).st ρ fun y w => (match y with
    | .ref n => (match w[n]? with
      | some (.lst _) => (val (ev G e ρ)).st ρ (fun v w => (match w[n]? with
        | some (.lst ds) => if ds.length < lim then .nx ρ (w.set n (.lst (ds ++ [v]))) else .bad
        | _ => .bad)) w
      | _ => .bad)
    | _ => .bad)
  | .augF c a f e, ρ => (val (ev G a ρ)).st ρ fun y w => (match y with
    | .ref n => (match w[n]? with
      | some (.ins c' fs) => if c' = c then (match lookF fs f with
        | some (.int x) => (val (ev G e ρ)).st ρ (fun z w => (match z, w[n]? with
          | .int j, some (.ins c' fs) => if c' = c ∧ fs.length < 1000 then .nx ρ (w.set n (.ins c' (putFs fs f (.int (x + j))))) else .bad
          | _, _ => .bad)) w
        | _ => .bad) else .bad
      | _ => .bad)
    | _ => .bad)
  | .ins i k e, ρ => fun w => (match ρ[i]? with
    | some (.o (.lst ds)) => (val (ev G k ρ)).st ρ (fun x => (val (ev G e ρ)).st ρ fun v w => (match x with
      | .int j => if ds.length < lim ∧ 0 ≤ j ∧ j < 2 ^ 63 then .nx (ρ.set i (.o (.lst (ds.take j.toNat ++ [v] ++ ds.drop j.toNat)))) w else .bad
      | _ => .bad)) w
    | _ => .bad)
  | .pop j i, ρ => fun w => (match ρ[i]? with
    | some (.o (.lst ds)) => (match ds.getLast? with
      | some y => if i = j then .bad else .nx ((ρ.set i (.o (.lst ds.dropLast))).set j (.v y)) w
      | none => .bad)
    | _ => .bad)
  | .setd i j k v, ρ => (val (ev G k ρ)).st ρ fun x => (val (ev G v ρ)).st ρ fun y w => (match ρ[i]?, ρ[j]? with
    | some (.o (.lst ds)), some (.o (.dct kvs)) => if i = j then .bad else if ds.length < lim ∧ keyOk x ∧ kvs.length < lim then
        (match lookD kvs x with
        | some z => .nx (ρ.set i (.o (.lst (ds ++ [z])))) w
        | none => .nx ((ρ.set j (.o (.dct (putD kvs x y)))).set i (.o (.lst (ds ++ [y])))) w) else .bad
    | _, _ => .bad)
  | .aug i o e, ρ => fun w => (match ρ[i]? with
    | some (.v x) => (val (ev G e ρ)).st ρ (fun y w => (match augD o x y with
      | some z => .nx (ρ.set i (.v z)) w
      | none => .bad)) w
    | _ => .bad)
  | .exp e, ρ => (ev G e ρ).st ρ fun _ w => .nx ρ w
  | .ife t a b, ρ => (evT G t ρ).st ρ fun c => if c then evSs G a ρ else evSs G b ρ
  | .forr tg it b, ρ => (evi G it ρ).st ρ fun xs => forGo tg (evSs G b) xs ρ
  | .whl t b, ρ => loopN (fun ρ w => match evT G t ρ w with
    | .ok c w' => if c then (evSs G b ρ w').turn else (.nx ρ w', false)
    | .exc c fs w' => (.ex c fs ρ w', false)
    | .bad => (.bad, false)) ρ
  | .ret e, ρ => (match e with
    | .var i => fun w => (match ρ[i]? with
      | some (.o o) => if o.isI then .bad else .rt (.o o) w
      | some (.v d) => .rt (.v d) w
      | _ => .bad)
    | _ => (ev G e ρ).st ρ fun r w => .rt r w)
  | .retN, _ => fun w => .rt (.v .non) w
  | .rse c es, ρ => (evs G es ρ).st ρ fun ds w => if ds.length = (G.efs c).length then .ex c ((G.efs c).zip ds) ρ w else .bad
  | .tri b h, ρ => fun w => (match evSs G b ρ w with
    | .ex c fs ρ' w' => evH G h c fs ρ' w'
    | r => r)
  | .brk, ρ => fun w => .bk ρ w
  | .cont, ρ => fun w => .ct ρ w
  | .pss, ρ => fun w => .nx ρ w
  | .bad, _ => fun _ => .bad
  | .frz i, ρ => fun w => (match ρ[i]? with
    | some (.o o) => if o.isI then .bad else .nx (ρ.set i (.v o.frz)) w
    | _ => .bad)
noncomputable def evSs (G : Gx) : Ss → Env → MS
  | .nil, ρ => fun w => .nx ρ w
  | .cons s ss, ρ => fun w => (evS G s ρ w).sq fun ρ' => evSs G ss ρ'
noncomputable def evH (G : Gx) : Hs → Nat → List (Nat × D) → Env → MS
  | .nil, c, fs, ρ => fun w => .ex c fs ρ w
  | .cons c' i b h, c, fs, ρ => if G.sub c c' then (match i with
      | none => fun w => (evSs G b ρ w).noX
      | some j => fun w => (evSs G b (ρ.set j (.x c fs)) w).noX.unX j) else evH G h c fs ρ
end

/-! ### defs -/
structure Df where
  np : Nat
  ns : Nat
  dfl : List D
  init : Option Nat
  body : Ss
structure Pg where
  fns : List Df
  gls : List D
  gds : List (List (D × D))
  subs : List (Nat × Nat)
  efs : List (List Nat)
def Pg.gx (P : Pg) (fn : Nat → List D → M Rv) : Gx := ⟨fn, fun x => P.gls[x]?, fun x => P.gds.getD x [], fun c d => c == d || P.subs.contains (c, d), fun c => P.efs.getD c []⟩
noncomputable def runD (G : Gx) (d : Df) (ds : List D) : M Rv := fun w =>
  let as := ds ++ d.dfl.drop (ds.length - (d.np - d.dfl.length))
  if as.length = d.np then match d.init with
    | none => (match evSs G d.body (as.map Slot.v ++ List.replicate (d.ns - d.np) .u) w with
      | .nx _ w' => .ok (.v .non) w'
      | .rt r w' => .ok r w'
      | .ex c fs _ w' => .exc c fs w'
      | _ => .bad)
    | some c => (match evSs G d.body (.o (.ins c []) :: as.map Slot.v ++ List.replicate (d.ns - d.np) .u) w with
      | .nx ρ w' => (match (ρ[(0 : Nat)]? : Option Slot) with
        | some (.o (.ins c' fs)) => if c' = c then .ok (.o (.ins c fs)) w' else .bad
        | _ => .bad)
      | .ex c fs _ w' => .exc c fs w'
      | _ => .bad)
  else .bad
noncomputable def den (P : Pg) : Nat → Nat → List D → M Rv
  | 0, _, _ => fun _ => .bad
  | 1, _, _ => fun _ => .bad
  | k + 2, f, ds => match P.fns[f]? with
    | some d => (match d.init with
      | none => runD (P.gx (den P (k + 1))) d ds
      | some _ => (match k with
        | 0 => fun _ => .bad
        | j + 1 => runD (P.gx (den P (j + 1))) d ds))
    | none => fun _ => .bad

theorem iterN_more {f : Env → Wd → RS × Bool} : ∀ {n m : Nat} {ρ : Env} {w : Wd} {r : RS}, iterN f n ρ w = some r → iterN f (n + m) ρ w = some r
  | 0, m, ρ, w, r, h => by cases h
  | n + 1, m, ρ, w, r, h => by
    rw [Nat.succ_add]
    unfold iterN at h ⊢
    split <;> simp_all
    exact iterN_more h
theorem loopN_of {f : Env → Wd → RS × Bool} {n : Nat} {ρ : Env} {w : Wd} {r : RS} (h : iterN f n ρ w = some r) : loopN f ρ w = r := by
  have e : ∃ n r, iterN f n ρ w = some r := ⟨n, r, h⟩
  unfold loopN
  rw [dif_pos e]
  have h2 := e.choose_spec.choose_spec
  have a := iterN_more (m := n) h2
  have b := iterN_more (m := e.choose) h
  rw [Nat.add_comm] at a
  rw [b] at a
  exact (Option.some.inj a).symm
/-- a loop's equation -/
theorem loopN_eq (f : Env → Wd → RS × Bool) (ρ : Env) (w : Wd) : loopN f ρ w = match f ρ w with
    | (r, false) => r
    | (.nx ρ' w', true) => loopN f ρ' w'
    | (r, true) => r := by
  by_cases e : ∃ n r, iterN f n ρ w = some r
  · obtain ⟨n, r, h⟩ := e
    rw [loopN_of h]
    cases n with
    | zero => cases h
    | succ n =>
      unfold iterN at h
      split at h
      · exact (Option.some.inj h).symm
      · exact (loopN_of h).symm
      · exact (Option.some.inj h).symm
  · have : loopN f ρ w = .bad := by unfold loopN; rw [dif_neg e]
    rw [this]
    split
    · rename_i r h1
      exact absurd ⟨1, r, by unfold iterN; rw [h1]⟩ e
    · rename_i ρ' w' h1
      have : ¬ ∃ n r, iterN f n ρ' w' = some r := fun ⟨n, r, h⟩ => e ⟨n + 1, r, by unfold iterN; rw [h1]; exact h⟩
      unfold loopN; rw [dif_neg this]
    · rename_i r h3 h1
      refine absurd ⟨1, r, ?_⟩ e
      unfold iterN; rw [h1]
      cases r <;> first | rfl | exact absurd rfl (h3 _ _)
end My

set_option Elab.async false
set_option linter.all false
set_option maxRecDepth 100000
set_option maxHeartbeats 4000000
/-! Mini3: how deep values lie in the heap. -/
namespace My
open PySem PySem.Spec PyProof.Rows L2

/-- the text of these signs -/
abbrev S8 (s : List Nat) : Str := ⟨s.toArray⟩
def okS (s : List Nat) : Prop := (∀ c ∈ s, c < 0x110000) ∧ s.length ≤ lim
theorem lim_size : lim = sizeLine := by decide
/-- where the classes lie, what the fields are called -/
structure Tb where
  cl : Nat → Addr
  fl : Nat → Str
  xc : Nat → Bool
  flI : ∀ i j, fl i = fl j → i = j
/-- keys -/
def kD : Key → D
  | .inl i => .int i
  | .inr x => .str x.cps.toList

mutual
inductive Rep (K : PySem.W.Frag) (T : Tb) (F : Hp) (θ : List Addr) : V → D → Prop
  | non : Rep K T F θ .non .non
  | bl (b : Bool) : Rep K T F θ (.bl b) (.bl b)
  | int (i : Int) : Rep K T F θ (.int i) (.int i)
  | str (s : List Nat) : okS s → Rep K T F θ (.str (S8 s)) (.str s)
  | tup {a : Addr} {vs : List V} {ds : List D} : SqT K F a vs → Reps K T F θ vs ds → Rep K T F θ (.ref a) (.tup ds)
  | lst {a : Addr} {vs : List V} {ds : List D} : Rd F a (.lst vs) → Reps K T F θ vs ds → Rep K T F θ (.ref a) (.lst ds)
  | dct {a : Addr} {ks : List (Key × V)} {kvs : List (D × D)} : F a = some (.dK ks) → RepK K T F θ ks kvs → Rep K T F θ (.ref a) (.dct kvs)
  | ins {a C dx : Addr} {gs : List (Str × V)} {c : Nat} {fs : List (Nat × D)} : T.cl c = C → F a = some (.ins C dx gs) → F dx = some (.own a) → RepF K T F θ gs fs → Rep K T F θ (.ref a) (.ins c fs)
  | ref {a : Addr} {n : Nat} : θ[n]? = some a → Rep K T F θ (.ref a) (.ref n)
  | kl {a : Addr} {vs : List V} {ds : List D} : SqL K F a vs → Reps K T F θ vs ds → Rep K T F θ (.ref a) (.kl ds)
inductive Reps (K : PySem.W.Frag) (T : Tb) (F : Hp) (θ : List Addr) : List V → List D → Prop
  | nil : Reps K T F θ [] []
  | cons {v : V} {vs : List V} {d : D} {ds : List D} : Rep K T F θ v d → Reps K T F θ vs ds → Reps K T F θ (v :: vs) (d :: ds)
inductive RepK (K : PySem.W.Frag) (T : Tb) (F : Hp) (θ : List Addr) : List (Key × V) → List (D × D) → Prop
  | nil : RepK K T F θ [] []
  | cons {k : Key} {v : V} {ks : List (Key × V)} {d : D} {kvs : List (D × D)} : Rep K T F θ v d → RepK K T F θ ks kvs → RepK K T F θ ((k, v) :: ks) ((kD k, d) :: kvs)
inductive RepF (K : PySem.W.Frag) (T : Tb) (F : Hp) (θ : List Addr) : List (Str × V) → List (Nat × D) → Prop
  | nil : RepF K T F θ [] []
  | cons {f : Nat} {v : V} {gs : List (Str × V)} {d : D} {fs : List (Nat × D)} : Rep K T F θ v d → RepF K T F θ gs fs → RepF K T F θ ((T.fl f, v) :: gs) ((f, d) :: fs)
end

section
variable {K : PySem.W.Frag} {T : Tb} {F F' H H' : Hp} {θ θ' : List Addr} {v : V} {d : D} {vs : List V} {ds : List D}
theorem sqT_mono (e : ∀ a o, F a = some o → F' a = some o) {a : Addr} {xs : List V} (h : SqT K F a xs) : SqT K F' a xs := by
  rcases h with (h | ⟨o, h⟩) | h
  · exact .inl (.inl (e _ _ h))
  · exact .inl (.inr ⟨o, e _ _ h⟩)
  · exact .inr h
theorem rd_mono (e : ∀ a o, F a = some o → F' a = some o) {a : Addr} {u : HO} (h : Rd F a u) : Rd F' a u := by
  rcases h with h | ⟨o, h⟩
  · exact .inl (e _ _ h)
  · exact .inr ⟨o, e _ _ h⟩
theorem sqL_mono (e : ∀ a o, F a = some o → F' a = some o) {a : Addr} {xs : List V} (h : SqL K F a xs) : SqL K F' a xs := by
  rcases h with (h | ⟨o, h⟩) | h
  · exact .inl (.inl (e _ _ h))
  · exact .inl (.inr ⟨o, e _ _ h⟩)
  · exact .inr h
/-- an object of F as it lies in H: itself, a dict also locked -/
def Lie (F H : Hp) : Prop := ∀ a o, F a = some o → H a = some o ∨ ∃ ks ob, o = .dK ks ∧ H a = some (.frz ob (.dK ks))
theorem Lie.ex (e : Lie F H) {a : Addr} {o : HO} (n : ∀ ks, o ≠ .dK ks) (h : F a = some o) : H a = some o := by
  rcases e a o h with q | ⟨ks, ob, q, _⟩
  · exact q
  · exact absurd q (n ks)
theorem Lie.rd (e : Lie F H) {a : Addr} {o : HO} (h : F a = some o) : Rd H a o := by
  rcases e a o h with q | ⟨ks, ob, q, r⟩
  · exact .inl q
  · exact .inr ⟨ob, by rw [q]; exact r⟩
theorem Lie.sqT (e : Lie F H) {a : Addr} {xs : List V} (h : SqT K F a xs) : SqT K H a xs := by
  rcases h with (h | ⟨o, h⟩) | h
  · exact .inl (.inl (e.ex (fun _ z => by cases z) h))
  · exact .inl (.inr ⟨o, e.ex (fun _ z => by cases z) h⟩)
  · exact .inr h
theorem Lie.rdl (e : Lie F H) {a : Addr} {xs : List V} (h : Rd F a (.lst xs)) : Rd H a (.lst xs) := by
  rcases h with h | ⟨o, h⟩
  · exact .inl (e.ex (fun _ z => by cases z) h)
  · exact .inr ⟨o, e.ex (fun _ z => by cases z) h⟩
theorem Lie.sqL (e : Lie F H) {a : Addr} {xs : List V} (h : SqL K F a xs) : SqL K H a xs := by
  rcases h with (h | ⟨o, h⟩) | h
  · exact .inl (.inl (e.ex (fun _ z => by cases z) h))
  · exact .inl (.inr ⟨o, e.ex (fun _ z => by cases z) h⟩)
  · exact .inr h

/-- more frozen objects, more references -/
structure Grow (F : Hp) (θ : List Addr) (F' : Hp) (θ' : List Addr) : Prop where
  ext : ∀ a o, F a = some o → F' a = some o
  pre : ∃ t, θ' = θ ++ t
theorem Grow.get (g : Grow F θ F' θ') {n : Nat} {a : Addr} (h : θ[n]? = some a) : θ'[n]? = some a := by
  obtain ⟨t, rfl⟩ := g.pre
  rw [List.getElem?_append_left (List.getElem?_eq_some_iff.mp h).1]
  exact h
mutual
theorem Rep.mono (g : Grow F θ F' θ') : ∀ {v : V} {d : D}, Rep K T F θ v d → Rep K T F' θ' v d
  | _, _, .non => .non
  | _, _, .bl b => .bl b
  | _, _, .int i => .int i
  | _, _, .str s h => .str s h
  | _, _, .tup h r => .tup (sqT_mono g.ext h) (Reps.mono g r)
  | _, _, .lst h r => .lst (rd_mono g.ext h) (Reps.mono g r)
  | _, _, .dct h r => .dct (g.ext _ _ h) (RepK.mono g r)
  | _, _, .ins c h h2 r => .ins c (g.ext _ _ h) (g.ext _ _ h2) (RepF.mono g r)
  | _, _, .ref h => .ref (g.get h)
  | _, _, .kl h r => .kl (sqL_mono g.ext h) (Reps.mono g r)
theorem Reps.mono (g : Grow F θ F' θ') : ∀ {vs : List V} {ds : List D}, Reps K T F θ vs ds → Reps K T F' θ' vs ds
  | _, _, .nil => .nil
  | _, _, .cons r t => .cons (Rep.mono g r) (Reps.mono g t)
theorem RepK.mono (g : Grow F θ F' θ') : ∀ {vs : List (Key × V)} {ds : List (D × D)}, RepK K T F θ vs ds → RepK K T F' θ' vs ds
  | _, _, .nil => .nil
  | _, _, .cons r t => .cons (Rep.mono g r) (RepK.mono g t)
theorem RepF.mono (g : Grow F θ F' θ') : ∀ {vs : List (Str × V)} {ds : List (Nat × D)}, RepF K T F θ vs ds → RepF K T F' θ' vs ds
  | _, _, .nil => .nil
  | _, _, .cons r t => .cons (Rep.mono g r) (RepF.mono g t)
end
theorem Reps.length : ∀ {vs : List V} {ds : List D}, Reps K T F θ vs ds → vs.length = ds.length
  | _, _, .nil => rfl
  | _, _, .cons _ t => by rw [List.length_cons, List.length_cons, Reps.length t]
theorem Reps.get : ∀ {vs : List V} {ds : List D} {i : Nat} {d : D}, Reps K T F θ vs ds → ds[i]? = some d → ∃ v, vs[i]? = some v ∧ Rep K T F θ v d
  | _, _, _, _, .nil, h => by simp at h
  | _, _, 0, _, .cons r _, h => by simp at h; subst h; exact ⟨_, rfl, r⟩
  | _, _, i + 1, _, .cons _ t, h => by
    obtain ⟨v, h1, h2⟩ := Reps.get (i := i) t (by simpa using h)
    exact ⟨v, by simpa using h1, h2⟩
theorem Reps.getV : ∀ {vs : List V} {ds : List D} {i : Nat} {v : V}, Reps K T F θ vs ds → vs[i]? = some v → ∃ d, ds[i]? = some d ∧ Rep K T F θ v d
  | _, _, _, _, .nil, h => by simp at h
  | _, _, 0, _, .cons r _, h => by simp at h; subst h; exact ⟨_, rfl, r⟩
  | _, _, i + 1, _, .cons _ t, h => by
    obtain ⟨v, h1, h2⟩ := Reps.getV (i := i) t (by simpa using h)
    exact ⟨v, by simpa using h1, h2⟩
theorem Reps.append : ∀ {vs ws : List V} {ds es : List D}, Reps K T F θ vs ds → Reps K T F θ ws es → Reps K T F θ (vs ++ ws) (ds ++ es)
  | _, _, _, _, .nil, h => h
  | _, _, _, _, .cons r t, h => .cons r (Reps.append t h)
theorem Reps.take : ∀ {vs : List V} {ds : List D} (n : Nat), Reps K T F θ vs ds → Reps K T F θ (vs.take n) (ds.take n)
  | _, _, 0, _ => .nil
  | _, _, _ + 1, .nil => .nil
  | _, _, n + 1, .cons r t => .cons r (Reps.take n t)
theorem Reps.drop : ∀ {vs : List V} {ds : List D} (n : Nat), Reps K T F θ vs ds → Reps K T F θ (vs.drop n) (ds.drop n)
  | _, _, 0, h => h
  | _, _, _ + 1, .nil => .nil
  | _, _, n + 1, .cons _ t => Reps.drop n t
theorem Reps.set : ∀ {vs : List V} {ds : List D} (n : Nat) {v : V} {d : D}, Rep K T F θ v d → Reps K T F θ vs ds → Reps K T F θ (vs.set n v) (ds.set n d)
  | _, _, _, _, _, _, .nil => .nil
  | _, _, 0, _, _, q, .cons _ t => .cons q t
  | _, _, n + 1, _, _, q, .cons r t => .cons r (Reps.set n q t)
theorem Reps.eraseIdx : ∀ {vs : List V} {ds : List D} (n : Nat), Reps K T F θ vs ds → Reps K T F θ (vs.eraseIdx n) (ds.eraseIdx n)
  | _, _, _, .nil => .nil
  | _, _, 0, .cons _ t => t
  | _, _, n + 1, .cons r t => .cons r (Reps.eraseIdx n t)

/-! ### what may change -/
def OwnAt (K : PySem.W.Frag) (T : Tb) (F : Hp) (θ : List Addr) (H : Hp) (a : Addr) : Own → Prop
  | .lst ds => ∃ vs, H a = some (.lst vs) ∧ Reps K T F θ vs ds
  | .dct kvs => ∃ ks, H a = some (.dK ks) ∧ RepK K T F θ ks kvs
  | .ins c fs => ∃ C dx gs, T.cl c = C ∧ H a = some (.ins C dx gs) ∧ H dx = some (.own a) ∧ RepF K T F θ gs fs
/-- the object that is frozen -/
theorem OwnAt.grow {a : Addr} {o : Own} (g : Grow F θ F' θ') (h : OwnAt K T F θ H a o) (k : ∀ b u, (b = a ∨ H b = some (.own a)) → H b = some u → H' b = some u) : OwnAt K T F' θ' H' a o := by
  cases o with
  | lst ds => obtain ⟨vs, e, r⟩ := h; exact ⟨vs, k _ _ (.inl rfl) e, r.mono g⟩
  | dct kvs => obtain ⟨vs, e, r⟩ := h; exact ⟨vs, k _ _ (.inl rfl) e, r.mono g⟩
  | ins c fs => obtain ⟨C, dx, gs, c1, e, e2, r⟩ := h; exact ⟨C, dx, gs, c1, k _ _ (.inl rfl) e, k _ _ (.inr e2) e2, r.mono g⟩
theorem OwnAt.there {a : Addr} {o : Own} (h : OwnAt K T F θ H a o) : ∃ u, H a = some u ∧ Mut (some u) ∧ (∀ b, u ≠ .own b) := by
  cases o with
  | lst ds => obtain ⟨vs, e, r⟩ := h; exact ⟨_, e, trivial, fun _ z => by cases z⟩
  | dct kvs => obtain ⟨vs, e, r⟩ := h; exact ⟨_, e, trivial, fun _ z => by cases z⟩
  | ins c fs => obtain ⟨C, dx, gs, c1, e, e2, r⟩ := h; exact ⟨_, e, trivial, fun _ z => by cases z⟩

/-- the heap: frozen objects F, what the references stand for -/
structure Hl (K : PySem.W.Frag) (T : Tb) (F : Hp) (θ : List Addr) (w : Wd) (H : Hp) : Prop where
  fh : Lie F H
  dj : ∀ a ∈ θ, F a = none
  nd : θ.Nodup
  ln : θ.length = w.length
  ob : ∀ (n : Nat) (o : Own), w[n]? = some o → ∃ a, θ[n]? = some a ∧ OwnAt K T F θ H a o
/-- a step: what is no reference stays, what is new is new -/
structure Step (F : Hp) (θ : List Addr) (H : Hp) (F' : Hp) (θ' : List Addr) (H' : Hp) : Prop where
  keep : ∀ a o, H a = some o → a ∉ θ → H' a = some o
  ext : ∀ a o, F a = some o → F' a = some o
  pre : ∃ t, θ' = θ ++ t ∧ ∀ a ∈ t, H a = none
  fre : ∀ a o, F' a = some o → F a = some o ∨ H a = none
  live : ∀ a o, H a = some o → ∃ o', H' a = some o'
theorem Step.refl : Step F θ H F θ H := ⟨fun _ _ h _ => h, fun _ _ h => h, ⟨[], by simp, by simp⟩, fun _ _ h => .inl h, fun _ o h => ⟨o, h⟩⟩
theorem Step.grow (s : Step F θ H F' θ' H') : Grow F θ F' θ' := ⟨s.ext, let ⟨t, e, _⟩ := s.pre; ⟨t, e⟩⟩
theorem Step.non (s : Step F θ H F' θ' H') {a : Addr} (h : H' a = none) : H a = none := by
  cases q : H a with
  | none => rfl
  | some o =>
    obtain ⟨o', e⟩ := s.live a o q
    rw [h] at e; cases e
theorem Step.trans {F2 H2 : Hp} {θ2 : List Addr} (a : Step F θ H F' θ' H') (b : Step F' θ' H' F2 θ2 H2) : Step F θ H F2 θ2 H2 where
  keep := fun c o h n => by
    refine b.keep c o (a.keep c o h n) fun m => ?_
    obtain ⟨t, rfl, ht⟩ := a.pre
    rcases List.mem_append.mp m with m | m
    · exact n m
    · rw [ht c m] at h; cases h
  ext := fun c o h => b.ext c o (a.ext c o h)
  pre := by
    obtain ⟨t, rfl, ht⟩ := a.pre
    obtain ⟨u, rfl, hu⟩ := b.pre
    refine ⟨t ++ u, List.append_assoc .., fun c hc => ?_⟩
    rcases List.mem_append.mp hc with hc | hc
    · exact ht c hc
    · exact a.non (hu c hc)
  fre := fun c o h => by
    rcases b.fre c o h with q | q
    · exact a.fre c o q
    · exact .inr (a.non q)
  live := fun c o h => by
    obtain ⟨o1, h1⟩ := a.live c o h
    exact b.live c o1 h1
/-- a new frozen object -/
theorem Step.new {p : Addr} {u : HO} (h : H p = none) (hF : F p = none) : Step F θ H (upd F p u) θ (upd H p u) where
  keep := fun a o e _ => by rw [upd_ne (ne_of_none e h)]; exact e
  ext := fun a o e => by rw [upd_ne (ne_of_none e hF)]; exact e
  pre := ⟨[], by simp, by simp⟩
  fre := fun a o e => by
    by_cases q : a = p
    · subst q; exact .inr h
    · rw [upd_ne q] at e; exact .inl e
  live := fun a o e => ⟨o, by rw [upd_ne (ne_of_none e h)]; exact e⟩
/-- a new object that is nobody's -/
theorem Step.lay {p : Addr} {u : HO} (h : H p = none) : Step F θ H F θ (upd H p u) where
  keep := fun a o e _ => by rw [upd_ne (ne_of_none e h)]; exact e
  ext := fun _ _ e => e
  pre := ⟨[], by simp, by simp⟩
  fre := fun _ _ e => .inl e
  live := fun a o e => ⟨o, by rw [upd_ne (ne_of_none e h)]; exact e⟩
/-- an object that stands is frozen -/
theorem Hl.fnone {w : Wd} (hl : Hl K T F θ w H) {p : Addr} (h : H p = none) : F p = none := by
  cases q : F p with
  | none => rfl
  | some o =>
    rcases hl.fh p o q with e | ⟨_, _, _, e⟩ <;> (rw [h] at e; cases e)
theorem Hl.tnone {w : Wd} (hl : Hl K T F θ w H) {p : Addr} (h : H p = none) : p ∉ θ := fun m => by
  obtain ⟨n, hn⟩ := List.getElem?_of_mem m
  have hlt : n < w.length := by rw [← hl.ln]; exact (List.getElem?_eq_some_iff.mp hn).1
  obtain ⟨a, ha, q⟩ := hl.ob n _ (List.getElem?_eq_getElem hlt)
  rw [hn] at ha; cases ha
  obtain ⟨u, hu, _⟩ := q.there
  rw [h] at hu; cases hu
/-- what is no reference's own changes nothing -/
theorem Hl.move {w : Wd} {H' F' : Hp} (hl : Hl K T F θ w H) (e : ∀ a o, F a = some o → F' a = some o) (fh : Lie F' H') (dj : ∀ a ∈ θ, F' a = none)
    (k : ∀ a o, H a = some o → (∃ b ∈ θ, a = b ∨ H a = some (.own b)) → H' a = some o) : Hl K T F' θ w H' := by
  refine ⟨fh, dj, hl.nd, hl.ln, fun n o h => ?_⟩
  obtain ⟨a, ha, q⟩ := hl.ob n o h
  have ma := List.mem_of_getElem? ha
  refine ⟨a, ha, q.grow ⟨e, [], by simp⟩ fun b u hb hu => k b u hu ⟨a, ma, ?_⟩⟩
  rcases hb with rfl | hb
  · exact .inl rfl
  · rw [hu] at hb; rw [hb] at hu; exact .inr hu
/-- a new object laid, frozen -/
theorem Hl.new {w : Wd} {p : Addr} {u : HO} (hl : Hl K T F θ w H) (h : H p = none) : Hl K T (upd F p u) θ w (upd H p u) := by
  have hF := hl.fnone h
  refine hl.move (fun a o e => by rw [upd_ne (ne_of_none e hF)]; exact e) (fun a o e => ?_) (fun a m => ?_) (fun a o e _ => by rw [upd_ne (ne_of_none e h)]; exact e)
  · by_cases q : a = p
    · subst q; rw [upd_same] at e ⊢; exact .inl e
    · rw [upd_ne q] at e ⊢; exact hl.fh a o e
  · rw [upd_ne (by intro z; subst z; exact hl.tnone h m)]; exact hl.dj a m
/-- .. not frozen -/
theorem Hl.lay {w : Wd} {p : Addr} {u : HO} (hl : Hl K T F θ w H) (h : H p = none) : Hl K T F θ w (upd H p u) := by
  refine hl.move (fun a o e => e) (fun a o e => ?_) hl.dj (fun a o e _ => by rw [upd_ne (ne_of_none e h)]; exact e)
  have hF := hl.fnone h
  rw [upd_ne (ne_of_none e hF)]
  exact hl.fh a o e
/-- an object of one's own is frozen -/
theorem Hl.freeze {w : Wd} {p : Addr} {u : HO} (hl : Hl K T F θ w H) (h : H p = some u) (hF : F p = none) (ht : p ∉ θ) : Hl K T (upd F p u) θ w H := by
  refine hl.move (fun a o e => by rw [upd_ne (ne_of_none e hF)]; exact e) (fun a o e => ?_) (fun a m => ?_) (fun a o e _ => e)
  · by_cases q : a = p
    · subst q; rw [upd_same] at e; cases e; exact .inl h
    · rw [upd_ne q] at e; exact hl.fh a o e
  · rw [upd_ne (by intro z; subst z; exact ht m)]; exact hl.dj a m
end
end My

set_option Elab.async false
set_option linter.all false
set_option maxRecDepth 100000
set_option maxHeartbeats 4000000
/-! Mini4: frames, readings by the evaluator. -/
namespace My
open PySem L2

/-- what a frame started from; P: objects of its own that stood there -/
structure Bs where
  F : Hp
  θ : List Addr
  H : Hp
  P : List Addr
  xi : Option (Addr × Option Addr)
def XF (K : PySem.W.Frag) (T : Tb) (F : Hp) (θ : List Addr) (H : Hp) (fs : List (Nat × D)) : Option Addr → Prop
  | none => fs = []
  | some d => ∃ gs, H d = some (.xd gs) ∧ d ∉ θ ∧ RepF K T F θ gs fs
/-- the instance that is being made: its dict's place stays -/
def InsAt (B : Bs) (H : Hp) (p : Addr) : Prop := ∃ C dx gs gs0, H p = some (.ins C dx gs) ∧ B.H p = some (.ins C dx gs0)
def SlotOk (K : PySem.W.Frag) (T : Tb) (B : Bs) (F : Hp) (θ : List Addr) (H : Hp) (v : Option V) : Slot → Prop
  | .u => True
  | .v d => ∃ x, v = some x ∧ Rep K T F θ x d
  | .o o => ∃ p, v = some (.ref p) ∧ F p = none ∧ p ∉ θ ∧ ((o.isI = false ∧ B.H p = none) ∨ ((p ∈ B.P ∧ InsAt B H p) ∧ o.isI = true)) ∧ OwnAt K T F θ H p o
  | .x c fs => ∃ a d, v = some (.ref a) ∧ B.xi = some (a, d) ∧ XF K T F θ H fs d
structure Fr (K : PySem.W.Frag) (T : Tb) (B : Bs) (F : Hp) (θ : List Addr) (w : Wd) (H : Hp) (σ : St) (ρ : Env) : Prop where
  hl : Hl K T F θ w H
  keep : ∀ a o, B.H a = some o → a ∉ B.θ → a ∉ B.P → H a = some o
  ext : ∀ a o, B.F a = some o → F a = some o
  pre : ∃ t, θ = B.θ ++ t ∧ ∀ a ∈ t, B.H a = none
  fre : ∀ a o, F a = some o → B.F a = some o ∨ B.H a = none ∨ a ∈ B.P
  live : ∀ a o, B.H a = some o → ∃ o', H a = some o'
  len : σ.length = ρ.length
  sl : ∀ (i : Nat) (s : Slot) (v : Option V), ρ[i]? = some s → σ[i]? = some v → SlotOk K T B F θ H v s
  di : ∀ (i j : Nat) (o o' : Own) (p : Addr), i ≠ j → ρ[i]? = some (.o o) → ρ[j]? = some (.o o') → σ[i]? = some (some (.ref p)) → σ[j]? = some (some (.ref p)) → False
section
variable {K : PySem.W.Frag} {T : Tb} {B : Bs} {F F' H H' : Hp} {θ θ' : List Addr} {w w' : Wd} {σ : St} {ρ : Env} {v : V} {d : D}
theorem Hl.notown (hl : Hl K T F θ w H) {a b : Addr} (h : H a = some (.own b)) : a ∉ θ := fun m => by
  obtain ⟨n, hn⟩ := List.getElem?_of_mem m
  have hlt : n < w.length := by rw [← hl.ln]; exact (List.getElem?_eq_some_iff.mp hn).1
  obtain ⟨a', ha, q⟩ := hl.ob n _ (List.getElem?_eq_getElem hlt)
  rw [hn] at ha; cases ha
  obtain ⟨u, hu, _, z⟩ := q.there
  rw [h] at hu; cases hu
  exact z b rfl
theorem XF.step {fs : List (Nat × D)} {d : Option Addr} (s : Step F θ H F' θ' H') (h : XF K T F θ H fs d) : XF K T F' θ' H' fs d := by
  cases d with
  | none => exact h
  | some d =>
    obtain ⟨gs, e, n, r⟩ := h
    refine ⟨gs, s.keep _ _ e n, fun m => ?_, r.mono s.grow⟩
    obtain ⟨t, rfl, ht⟩ := s.pre
    rcases List.mem_append.mp m with m | m
    · exact n m
    · rw [ht _ m] at e; cases e
theorem SlotOk.step {x : Option V} {sl : Slot} (hl : Hl K T F θ w H) (s : Step F θ H F' θ' H') (h : SlotOk K T B F θ H x sl) : SlotOk K T B F' θ' H' x sl := by
  cases sl with
  | u => trivial
  | v d => obtain ⟨y, e, r⟩ := h; exact ⟨y, e, r.mono s.grow⟩
  | o o =>
    obtain ⟨p, e, n, nt, nb, q⟩ := h
    obtain ⟨u, hu, _⟩ := q.there
    refine ⟨p, e, ?_, fun m => ?_, nb.imp id fun z => ⟨⟨z.1.1, let ⟨C, dx, gs, gs0, e1, e2⟩ := z.1.2; ⟨C, dx, gs, gs0, s.keep _ _ e1 nt, e2⟩⟩, z.2⟩, q.grow s.grow fun b u' hb e' => ?_⟩
    · cases z : F' p with
      | none => rfl
      | some u' =>
        rcases s.fre p u' z with z | z
        · rw [n] at z; cases z
        · rw [hu] at z; cases z
    · obtain ⟨t, rfl, ht⟩ := s.pre
      rcases List.mem_append.mp m with m | m
      · exact nt m
      · rw [ht _ m] at hu; cases hu
    · refine s.keep b u' e' ?_
      rcases hb with rfl | hb
      · exact nt
      · exact hl.notown hb
  | x c fs =>
    obtain ⟨a, d, e, e2, q⟩ := h
    exact ⟨a, d, e, e2, q.step s⟩
/-- the frame behind a step that leaves its slots -/
theorem Fr.step (f : Fr K T B F θ w H σ ρ) (s : Step F θ H F' θ' H') (hl : Hl K T F' θ' w' H') : Fr K T B F' θ' w' H' σ ρ where
  hl := hl
  keep := fun a o h n m => by
    refine s.keep a o (f.keep a o h n m) fun mt => ?_
    obtain ⟨t, rfl, ht⟩ := f.pre
    rcases List.mem_append.mp mt with mt | mt
    · exact n mt
    · rw [ht _ mt] at h; cases h
  ext := fun a o h => s.ext a o (f.ext a o h)
  pre := by
    obtain ⟨t, rfl, ht⟩ := f.pre
    obtain ⟨u, rfl, hu⟩ := s.pre
    refine ⟨t ++ u, List.append_assoc .., fun c hc => ?_⟩
    rcases List.mem_append.mp hc with hc | hc
    · exact ht c hc
    · cases q : B.H c with
      | none => rfl
      | some o =>
        obtain ⟨o', e⟩ := f.live c o q
        rw [hu c hc] at e; cases e
  fre := fun a o h => by
    rcases s.fre a o h with q | q
    · exact f.fre a o q
    · refine .inr (.inl ?_)
      cases z : B.H a with
      | none => rfl
      | some o =>
        obtain ⟨o', e⟩ := f.live a o z
        rw [q] at e; cases e
  live := fun a o h => by
    obtain ⟨o', e⟩ := f.live a o h
    exact s.live a o' e
  len := f.len
  sl := fun i s' v h1 h2 => (f.sl i s' v h1 h2).step f.hl s
  di := f.di

/-- an exception: its class, its fields -/
def XRel (K : PySem.W.Frag) (T : Tb) (F : Hp) (θ : List Addr) (H : Hp) (c : Nat) (fs : List (Nat × D)) (cls : Value) (od : Option Addr) : Prop :=
  T.xc c = true ∧ cls = .ref (T.cl c) ∧ XF K T F θ H fs od
/-- what is wanted of a result -/
def Po (K : PySem.W.Frag) (T : Tb) (F : Hp) (θ : List Addr) (H : Hp) (σ : St) {α : Type} (r : R α) (k : α → Hp → List Addr → Wd → Hp → Prop) (Wx : WX) : Prop :=
  match r with
  | .ok a w' => ∀ F' θ' H', Step F θ H F' θ' H' → Hl K T F' θ' w' H' → k a F' θ' w' H'
  | .exc c fs w' => ∀ F' θ' H' cls od, Step F θ H F' θ' H' → Hl K T F' θ' w' H' → XRel K T F' θ' H' c fs cls od → Wx cls od σ H'
  | .bad => False
theorem Po.bd {α β : Type} {m : M α} {f : α → M β} {k : β → Hp → List Addr → Wd → Hp → Prop} {Wx : WX} (h : Po K T F θ H σ ((m.bd f) w) k Wx) :
    Po K T F θ H σ (m w) (fun a F1 θ1 w1 H1 => Po K T F1 θ1 H1 σ (f a w1) k Wx) Wx := by
  unfold M.bd at h
  cases e : m w with
  | ok a w1 =>
    rw [e] at h
    intro F1 θ1 H1 s1 h1
    show Po K T F1 θ1 H1 σ (f a w1) k Wx
    dsimp only at h
    cases e2 : f a w1 with
    | ok b w2 => rw [e2] at h; exact fun F2 θ2 H2 s2 h2 => h F2 θ2 H2 (s1.trans s2) h2
    | exc c fs w2 => rw [e2] at h; exact fun F2 θ2 H2 cls od s2 h2 x => h F2 θ2 H2 cls od (s1.trans s2) h2 x
    | bad => rw [e2] at h; exact h
  | exc c fs w1 => rw [e] at h; exact h
  | bad => rw [e] at h; exact h
theorem Po.imp {α : Type} {r : R α} {k k' : α → Hp → List Addr → Wd → Hp → Prop} {Wx : WX} (h : Po K T F θ H σ r k Wx)
    (i : ∀ a F' θ' w' H', Step F θ H F' θ' H' → Hl K T F' θ' w' H' → k a F' θ' w' H' → k' a F' θ' w' H') : Po K T F θ H σ r k' Wx := by
  cases r with
  | ok a w1 => exact fun F' θ' H' s hl => i a F' θ' w1 H' s hl (h F' θ' H' s hl)
  | exc c fs w1 => exact h
  | bad => exact h
/-- no step at all -/
theorem Po.ret {α : Type} {a : α} {k : α → Hp → List Addr → Wd → Hp → Prop} {Wx : WX} (hl : Hl K T F θ w H) (h : Po K T F θ H σ (.ok a w) k Wx) : k a F θ w H := h F θ H Step.refl hl
/-- a value that is read at once -/
def Src (K : PySem.W.Frag) (T : Tb) (F : Hp) (θ : List Addr) (H : Hp) (v : V) (d : D) : Prop :=
  Rep K T F θ v d ∨ ∃ p o, v = .ref p ∧ d = o.frz ∧ p ∉ θ ∧ OwnAt K T F θ H p o
theorem Src.step (hl : Hl K T F θ w H) (s : Step F θ H F' θ' H') (h : Src K T F θ H v d) : Src K T F' θ' H' v d := by
  rcases h with h | ⟨p, o, e1, e2, n, q⟩
  · exact .inl (h.mono s.grow)
  · obtain ⟨u, hu, _⟩ := q.there
    refine .inr ⟨p, o, e1, e2, fun m => ?_, q.grow s.grow fun b u' hb e' => ?_⟩
    · obtain ⟨t, rfl, ht⟩ := s.pre
      rcases List.mem_append.mp m with m | m
      · exact n m
      · rw [ht _ m] at hu; cases hu
    · refine s.keep b u' e' ?_
      rcases hb with rfl | hb
      · exact n
      · exact hl.notown hb
/-- .. behind its reference -/
def Drf (K : PySem.W.Frag) (T : Tb) (F : Hp) (θ : List Addr) (H : Hp) (v : V) (d : D) : Prop :=
  Rep K T F θ v d ∨ ∃ p o, v = .ref p ∧ d = o.frz ∧ OwnAt K T F θ H p o
theorem Src.drf (hl : Hl K T F θ w H) (h : Src K T F θ H v d) : Drf K T F θ H v (deref w d) := by
  rcases h with h | ⟨p, o, e1, e2, n, q⟩
  · cases h with
    | ref e =>
      rename_i a n
      cases z : w[n]? with
      | none =>
        have e0 : deref w (.ref n) = .ref n := by simp only [deref, z]
        rw [e0]
        exact .inl (.ref e)
      | some o =>
        obtain ⟨a', ha, q⟩ := hl.ob n o z
        rw [e] at ha; cases ha
        cases o with
        | lst ds =>
          have e0 : deref w (.ref n) = .lst ds := by simp only [deref, z]
          rw [e0]
          exact .inr ⟨a, .lst ds, rfl, rfl, q⟩
        | dct ds =>
          have e0 : deref w (.ref n) = .dct ds := by simp only [deref, z]
          rw [e0]
          exact .inr ⟨a, .dct ds, rfl, rfl, q⟩
        | ins c fs =>
          have e0 : deref w (.ref n) = .ref n := by simp only [deref, z]
          rw [e0]
          exact .inl (.ref e)
    | _ => exact .inl (by first | exact .non | exact .bl _ | exact .int _ | exact .str _ ‹_› | exact .tup ‹_› ‹_› | exact .lst ‹_› ‹_› | exact .dct ‹_› ‹_› | exact .ins ‹_› ‹_› ‹_› ‹_› | exact .kl ‹_› ‹_›)
  · refine .inr ⟨p, o, e1, ?_, q⟩
    rw [e2]
    cases o <;> rfl
theorem Drf.lst (hl : Hl K T F θ w H) {ds : List D} (h : Drf K T F θ H v (.lst ds)) : ∃ a vs, v = .ref a ∧ Rd H a (.lst vs) ∧ Reps K T F θ vs ds := by
  rcases h with h | ⟨p, o, rfl, e2, q⟩
  · cases h with
    | lst h r => exact ⟨_, _, rfl, hl.fh.rdl h, r⟩
  · cases o with
    | lst ds =>
      obtain rfl : _ = ds := D.lst.inj e2
      obtain ⟨vs, e, r⟩ := q
      exact ⟨p, vs, rfl, .inl e, r⟩
    | dct kvs => cases e2
    | ins c fs => cases e2
theorem Drf.tup (hl : Hl K T F θ w H) {ds : List D} (h : Drf K T F θ H v (.tup ds)) : ∃ a vs, v = .ref a ∧ SqT K H a vs ∧ Reps K T F θ vs ds := by
  rcases h with h | ⟨p, o, rfl, e2, q⟩
  · cases h with
    | tup h r => exact ⟨_, _, rfl, hl.fh.sqT h, r⟩
  · cases o <;> cases e2
theorem Drf.dct (hl : Hl K T F θ w H) {kvs : List (D × D)} (h : Drf K T F θ H v (.dct kvs)) : ∃ a ks, v = .ref a ∧ Rd H a (.dK ks) ∧ RepK K T F θ ks kvs := by
  rcases h with h | ⟨p, o, rfl, e2, q⟩
  · cases h with
    | dct h r => exact ⟨_, _, rfl, hl.fh.rd h, r⟩
  · cases o with
    | dct ds =>
      obtain rfl : _ = ds := D.dct.inj e2
      obtain ⟨vs, e, r⟩ := q
      exact ⟨p, vs, rfl, .inl e, r⟩
    | lst kvs => cases e2
    | ins c fs => cases e2
theorem Drf.rep {d : D} (h : Drf K T F θ H v d) (n : ∀ o : Own, d ≠ o.frz) : Rep K T F θ v d := by
  rcases h with h | ⟨p, o, _, e2, _⟩
  · exact h
  · exact absurd e2 (n o)
theorem Drf.int {i : Int} (h : Drf K T F θ H v (.int i)) : v = .int i := by
  cases h.rep (fun o => by cases o <;> (intro z; cases z)); rfl
theorem Drf.str {s : List Nat} (h : Drf K T F θ H v (.str s)) : v = .str (S8 s) ∧ okS s := by
  cases h.rep (fun o => by cases o <;> (intro z; cases z)); exact ⟨rfl, ‹_›⟩
theorem Drf.bl {b : Bool} (h : Drf K T F θ H v (.bl b)) : v = .bl b := by
  cases h.rep (fun o => by cases o <;> (intro z; cases z)); rfl
theorem Drf.non (h : Drf K T F θ H v .non) : v = .non := by
  cases h.rep (fun o => by cases o <;> (intro z; cases z)); rfl

/-! ### the wants -/
/-- a new object -/
def NewAt (H H' : Hp) (p : Addr) : Prop := H p = none ∧ ∀ C dx gs, H' p = some (.ins C dx gs) → H dx = none
def KE (K : PySem.W.Frag) (T : Tb) (Q : VK) (H : Hp) : Rv → Hp → List Addr → Wd → Hp → Prop
  | .v d, F', θ', _, H' => ∀ v, Rep K T F' θ' v d → Q v H'
  | .o o, F', θ', _, H' => ∀ p, F' p = none → p ∉ θ' → NewAt H H' p → OwnAt K T F' θ' H' p o → Q (.ref p) H'
def KD (K : PySem.W.Frag) (T : Tb) (Q : VK) (_ : Hp) : D → Hp → List Addr → Wd → Hp → Prop := fun d F' θ' _ H' => ∀ v, Rep K T F' θ' v d → Q v H'
def KB (K : PySem.W.Frag) (T : Tb) (Q : VK) (_ : Hp) : D → Hp → List Addr → Wd → Hp → Prop := fun d F' θ' _ H' => ∀ v, Src K T F' θ' H' v d → Q v H'
def KT (Q : Bool → Hp → Prop) (_ : Hp) : Bool → Hp → List Addr → Wd → Hp → Prop := fun b _ _ _ H' => Q b H'
def KA (K : PySem.W.Frag) (T : Tb) (Q : List V → Hp → Prop) (_ : Hp) : List D → Hp → List Addr → Wd → Hp → Prop := fun ds F' θ' _ H' => ∀ vs, Reps K T F' θ' vs ds → Q vs H'
inductive Srcs (K : PySem.W.Frag) (T : Tb) (F : Hp) (θ : List Addr) (H : Hp) : List V → List D → Prop
  | nil : Srcs K T F θ H [] []
  | cons {v : V} {vs : List V} {d : D} {ds : List D} : Src K T F θ H v d → Srcs K T F θ H vs ds → Srcs K T F θ H (v :: vs) (d :: ds)
def KBs (K : PySem.W.Frag) (T : Tb) (Q : List V → Hp → Prop) (_ : Hp) : List D → Hp → List Addr → Wd → Hp → Prop := fun ds F' θ' _ H' => ∀ vs, Srcs K T F' θ' H' vs ds → Q vs H'
def Tr (K : PySem.W.Frag) (T : Tb) (xi : Option (Addr × Option Addr)) {α : Type} (m : Env → M α) (k : Hp → α → Hp → List Addr → Wd → Hp → Prop) (Wx : WX) (σ : St) (H : Hp) : Prop :=
  ∃ B F θ w ρ, B.xi = xi ∧ Fr K T B F θ w H σ ρ ∧ Po K T F θ H σ (m ρ w) (k H) Wx
def tE (K : PySem.W.Frag) (T : Tb) (xi : Option (Addr × Option Addr)) (m : Env → M Rv) (Wx : WX) : TE := fun σ H Q => Tr K T xi m (KE K T Q) Wx σ H
def tD (K : PySem.W.Frag) (T : Tb) (xi : Option (Addr × Option Addr)) (m : Env → M D) (Wx : WX) : TE := fun σ H Q => Tr K T xi m (KD K T Q) Wx σ H
def tBs (K : PySem.W.Frag) (T : Tb) (xi : Option (Addr × Option Addr)) (m : Env → M D) (Wx : WX) : TE := fun σ H Q => Tr K T xi m (KB K T Q) Wx σ H
def tT (K : PySem.W.Frag) (T : Tb) (xi : Option (Addr × Option Addr)) (m : Env → M Bool) (Wx : WX) : TT := fun σ H Q => Tr K T xi m (KT Q) Wx σ H
def tA (K : PySem.W.Frag) (T : Tb) (xi : Option (Addr × Option Addr)) (m : Env → M (List D)) (Wx : WX) : TA := fun σ H Q => Tr K T xi m (KA K T Q) Wx σ H
def tAb (K : PySem.W.Frag) (T : Tb) (xi : Option (Addr × Option Addr)) (m : Env → M (List D)) (Wx : WX) : TA := fun σ H Q => Tr K T xi m (KBs K T Q) Wx σ H

/-- an instance and its dict are frozen -/
def frzI (F : Hp) (p dx : Addr) (u : HO) : Hp := fun a => if a = p then some u else if a = dx then some (.own p) else F a
theorem Hl.freezeI {p dx C : Addr} {gs : List (Str × V)} (hl : Hl K T F θ w H) (h : H p = some (.ins C dx gs)) (hd : H dx = some (.own p)) (hF : F p = none) (ht : p ∉ θ) :
    Hl K T (frzI F p dx (.ins C dx gs)) θ w H ∧ ∀ a o, F a = some o → frzI F p dx (.ins C dx gs) a = some o := by
  have ex : ∀ a o, F a = some o → frzI F p dx (.ins C dx gs) a = some o := fun a o e => by
    unfold frzI
    rw [if_neg (ne_of_none e hF)]
    by_cases z : a = dx
    · subst z
      rw [if_pos rfl]
      rcases hl.fh a o e with q | ⟨_, _, _, q⟩ <;> (rw [hd] at q; cases q)
      rfl
    · rw [if_neg z]; exact e
  refine ⟨hl.move ex (fun a o e => ?_) (fun a m => ?_) (fun a o e _ => e), ex⟩
  · unfold frzI at e
    by_cases q : a = p
    · subst q; rw [if_pos rfl] at e; cases e; exact .inl h
    · rw [if_neg q] at e
      by_cases z : a = dx
      · subst z; rw [if_pos rfl] at e; cases e; exact .inl hd
      · rw [if_neg z] at e; exact hl.fh a o e
  · unfold frzI
    rw [if_neg (by intro z; subst z; exact ht m), if_neg (by intro z; subst z; exact hl.notown hd m)]
    exact hl.dj a m
/-- what a def hands back, as a value -/
theorem KE.of {Q : VK} {Wx : WX} {r : Rv} {F' : Hp} {θ' : List Addr} {w' : Wd} {H' : Hp} (s : Step F θ H F' θ' H') (hl : Hl K T F' θ' w' H')
    (h : Po K T F θ H σ (.ok r.d w') (KD K T Q H) Wx) : KE K T Q H r F' θ' w' H' := by
  cases r with
  | v d => exact fun v rv => h F' θ' H' s hl v rv
  | o o =>
    intro p pF pt pN q
    have g : ∀ u : HO, Grow F' θ' (upd F' p u) θ' := fun u => ⟨fun a o e => by rw [upd_ne (ne_of_none e pF)]; exact e, [], by simp⟩
    have st : ∀ u : HO, Step F θ H (upd F' p u) θ' H' := fun u => ⟨s.keep, fun a o e => (g u).ext a o (s.ext a o e), s.pre, fun a o e => by
      by_cases z : a = p
      · subst z; exact .inr pN.1
      · rw [upd_ne z] at e; exact s.fre a o e, s.live⟩
    cases o with
    | lst ds => obtain ⟨vs, e, r⟩ := q; exact h _ θ' H' (st _) (hl.freeze e pF pt) (.ref p) (.lst (.inl upd_same) (r.mono (g _)))
    | dct ds => obtain ⟨vs, e, r⟩ := q; exact h _ θ' H' (st _) (hl.freeze e pF pt) (.ref p) (.dct upd_same (r.mono (g _)))
    | ins c fs =>
      obtain ⟨C, dx, gs, hc, e, ed, r⟩ := q
      obtain ⟨hl2, ex⟩ := hl.freezeI e ed pF pt
      refine h _ θ' H' ⟨s.keep, fun a o e => ex a o (s.ext a o e), s.pre, fun a o e' => ?_, s.live⟩ hl2 (.ref p) (.ins hc (if_pos rfl) ?_ (r.mono ⟨ex, [], by simp⟩))
      · unfold frzI at e'
        by_cases q : a = p
        · subst q; exact .inr pN.1
        · rw [if_neg q] at e'
          by_cases z : a = dx
          · subst z; exact .inr (pN.2 _ _ _ e)
          · rw [if_neg z] at e'; exact s.fre a o e'
      · have nd : dx ≠ p := fun z => by rw [z, e] at ed; cases ed
        exact (if_neg nd).trans (if_pos rfl)
end
end My

set_option Elab.async false
set_option linter.all false
set_option maxRecDepth 100000
set_option maxHeartbeats 4000000
/-! Mini5: the rules of expressions. -/
namespace My
open PySem L2

theorem imE {X : Cx} {e : Expr} {t t' : TE} (h : PE X e t) (i : ∀ σ H Q, t' σ H Q → t σ H Q) : PE X e t' := ⟨fun pins s σ H Q I q => h.run pins s σ H Q I (i σ H Q q)⟩
theorem imT {X : Cx} {e : Expr} {t t' : TT} (h : PT X e t) (i : ∀ σ H Q, t' σ H Q → t σ H Q) : PT X e t' := ⟨fun pins s σ H Q I q => h.run pins s σ H Q I (i σ H Q q)⟩
theorem imW {X : Cx} {e : Expr} {t t' : TT} (h : PW X e t) (i : ∀ σ H Q, t' σ H Q → t σ H Q) : PW X e t' := ⟨fun wh pins s σ H Q I q => h.run wh pins s σ H Q I (i σ H Q q)⟩
theorem imA {X : Cx} {e : List Expr} {t t' : TA} (h : PA X e t) (i : ∀ σ H Q, t' σ H Q → t σ H Q) : PA X e t' := ⟨fun pos pins s σ H Q I q => h.run pos pins s σ H Q I (i σ H Q q)⟩

/-- a def, a method, a making: what it does is m -/
def SpA (K : PySem.W.Frag) (T : Tb) (m : List D → M Rv) (vs : List V) (H : Hp) (Q : VK) (E : XK) : Prop :=
  ∃ F θ w ds, Hl K T F θ w H ∧ Reps K T F θ vs ds ∧ Po K T F θ H [] (m ds w) (KE K T Q H) (fun c d _ H' => E c d H')
def SpN (K : PySem.W.Frag) (T : Tb) (m : List D → M Rv) (n : Nat) (dvs : List V) : Sp := fun vs H Q E => ∃ as, vs = as ++ dvs ∧ as.length = n ∧ SpA K T m as H Q E
/-- an __init__: the new object, then the arguments -/
def SpI (K : PySem.W.Frag) (T : Tb) (c : Nat) (m : List D → M Rv) (n : Nat) (dvs : List V) : Sp := fun vs H Q E => ∃ x dx as H0, vs = .ref x :: (as ++ dvs) ∧ as.length = n ∧
  H0 x = none ∧ H0 dx = none ∧ dx ≠ x ∧ H = upd (upd H0 dx (.own x)) x (.ins (T.cl c) dx []) ∧
  ∃ F θ w ds, Hl K T F θ w H0 ∧ Reps K T F θ as ds ∧ Po K T F θ H0 [] (m ds w) (fun r F' θ' _ H' => match r with
    | .o o => F' x = none → F' dx = none → x ∉ θ' → (∃ gs, H' x = some (.ins (T.cl c) dx gs)) → OwnAt K T F' θ' H' x o → Q .non H'
    | .v _ => False) (fun c d _ H' => E c d H')
structure FnAt (X : Cx) (T : Tb) (k : Nat) (x : Str) (m : List D → M Rv) (n : Nat) : Prop where
  h : ∃ f fd ps ds dvs, FnOk X.prog X.w X.K X.mg X.base (CX X.prog X.w) k f fd ps (SpN X.K T m n dvs) ∧ X.mg x = some (.ref f) ∧ PySem.W.keepIn X.K (.ref f) = true ∧ Binds X.K fd ps ds ∧ Vals dvs ds
structure MtAt (X : Cx) (T : Tb) (k : Nat) (c : Nat) (x : Str) (m : List D → M Rv) (n : Nat) : Prop where
  h : ∃ f fd ps ds dvs, FnOk X.prog X.w X.K X.mg X.base (CX X.prog X.w) k f fd ps (SpN X.K T m (n + 1) dvs) ∧ Cls X.K (T.cl c) ∧ Meth X.K (T.cl c) x f ∧ Binds X.K fd ps ds ∧ Vals dvs ds
structure MkAt (X : Cx) (T : Tb) (k : Nat) (c : Nat) (x : Str) (m : List D → M Rv) (n : Nat) : Prop where
  h : ∃ j f fd ps ds dvs, k = j + 1 ∧ FnOk X.prog X.w X.K X.mg X.base (CX X.prog X.w) j f fd ps (SpI X.K T c m n dvs) ∧ Mk X.K (T.cl c) f ∧ X.mg x = some (.ref (T.cl c)) ∧ Binds X.K fd ps ds ∧ Vals dvs ds

/-- a class of exceptions without own __init__ -/
def RzAt (X : Cx) (x : Str) (a : Addr) : Prop := ∃ B newId initId bmB, PySem.ExcBaseFacts B newId initId bmB ∧ PySem.W.excIn X.K a bmB newId = true ∧ X.mg x = some (.ref a) ∧ PySem.W.keepIn X.K (.ref a) = true ∧ Raises X (.ref a)
structure Ctx where
  T : Tb
  G : Gx
  N : List Str
  sc : Scope
  xi : Option (Addr × Option Addr)
  k : Nat
  cm : Bool
  fnm : Nat → Str
  cnm : Nat → Str
  mnm : Nat → Str
  gnm : Nat → Str
  gdn : Nat → Str
  okF : Nat → Nat → Bool
  okT : Nat → Nat → Nat → Nat → Bool
  okM : Nat → Nat → Nat → Bool
  okA : Nat → Nat → Bool
  okZ : Nat → Bool
  okG : Nat → Bool
  okD : Nat → Bool
  okI : Nat → Bool
def bnames : List Str := ["len", "all", "any", "int", "list", "sorted", "str", "sum", "tuple", "min", "set", "isinstance", "range", "enumerate", "zip", "bool", "dict"]
structure On (C : Ctx) (X : Cx) : Prop where
  N : X.N = C.N
  nd : C.N.Nodup
  sc : X.env.scope = C.sc
  calm : C.cm = true → X.calm = true
  hr : C.cm = true → Room C.k X.A
  fre : ∀ x ∈ bnames, X.mg x = none
  glb : ∀ x d, C.okG x = true → C.G.gl x = some d → ∃ v u, X.mg (C.gnm x) = some u ∧ RelV v u ∧ ∀ F θ, Rep X.K C.T F θ v d
  gd : ∀ x k d, C.okD x = true → lookD (C.G.gd x) k = some d → ∃ s p v, k = .str s ∧ X.mg (C.gdn x) = some (.ref p) ∧ KDct X.K X.w p (S8 s) v ∧ ∀ F θ, Rep X.K C.T F θ v d
  fn : ∀ f n, C.okF f n = true → FnAt X C.T C.k (C.fnm f) (C.G.fn f) n
  mt : ∀ f c m n, C.okT f c m n = true → MtAt X C.T C.k c (C.mnm m) (C.G.fn f) n
  mkr : ∀ f c n, C.okM f c n = true → MkAt X C.T C.k c (C.cnm c) (C.G.fn f) n
  at_ : ∀ c f, C.okA c f = true → Cls X.K (C.T.cl c) ∧ NoAttr X.K (C.T.cl c) (C.T.fl f)
  isc : ∀ c, C.okI c = true → C8.InsC X.K (C.T.cl c) ∧ PySem.W.selfFirst X.K (C.T.cl c) = true ∧ X.mg (C.cnm c) = some (.ref (C.T.cl c))

/-- .. exceptions -/
structure OnX (C : Ctx) (X : Cx) : Prop where
  rz : ∀ c, C.okZ c = true → C.T.xc c = true ∧ C.G.efs c = [] ∧ RzAt X (C.cnm c) (C.T.cl c)
  xn : ∀ c, C.T.xc c = true → X.mg (C.cnm c) = some (.ref (C.T.cl c))
  sb : ∀ c c', C.T.xc c = true → C.T.xc c' = true → PySem.W.exmOne X.K (.ref (C.T.cl c)) (.ref (C.T.cl c')) = some (C.G.sub c c')

def JE (C : Ctx) (e : Expr) (m : Env → M Rv) : Prop := ∀ X, On C X → ∀ Wx, Takes X Wx → PE X e (tE X.K C.T C.xi m Wx)
def JD (C : Ctx) (e : Expr) (m : Env → M D) : Prop := ∀ X, On C X → ∀ Wx, Takes X Wx → PE X e (tD X.K C.T C.xi m Wx)
def JB (C : Ctx) (e : Expr) (m : Env → M D) : Prop := ∀ X, On C X → ∀ Wx, Takes X Wx → PE X e (tBs X.K C.T C.xi m Wx)
def JT (C : Ctx) (e : Expr) (m : Env → M Bool) : Prop := ∀ X, On C X → ∀ Wx, Takes X Wx → PT X e (tT X.K C.T C.xi m Wx)
def JA (C : Ctx) (es : List Expr) (m : Env → M (List D)) : Prop := ∀ X, On C X → ∀ Wx, Takes X Wx → PA X es (tA X.K C.T C.xi m Wx)
def JAb (C : Ctx) (es : List Expr) (m : Env → M (List D)) : Prop := ∀ X, On C X → ∀ Wx, Takes X Wx → PA X es (tAb X.K C.T C.xi m Wx)

section
variable {C : Ctx}
theorem Po.vd {K : PySem.W.Frag} {T : Tb} {F : Hp} {θ : List Addr} {w : Wd} {H : Hp} {σ : St} {m : M Rv} {Q : VK} {Wx : WX} (h : Po K T F θ H σ (val m w) (KD K T Q H) Wx) : Po K T F θ H σ (m w) (KE K T Q H) Wx := by
  unfold val M.bd at h
  cases e : m w with
  | ok r w' =>
    rw [e] at h
    exact fun F' θ' H' s hl => KE.of s hl h
  | exc c fs w' => rw [e] at h; exact h
  | bad => rw [e] at h; exact h
theorem JE.d {e : Expr} {m : Env → M Rv} (h : JE C e m) : JD C e (fun ρ => val (m ρ)) := fun X on Wx tk => imE (h X on Wx tk) fun σ H Q q => by
  obtain ⟨B, F, θ, w, ρ, hx, fr, po⟩ := q
  exact ⟨B, F, θ, w, ρ, hx, fr, po.vd⟩
/-- what is read at once: any value -/
theorem JD.b {e : Expr} {m : Env → M D} (h : JD C e m) : JB C e m := fun X on Wx tk => imE (h X on Wx tk) fun σ H Q q => by
  obtain ⟨B, F, θ, w, ρ, hx, fr, po⟩ := q
  exact ⟨B, F, θ, w, ρ, hx, fr, po.imp fun d F' θ' w' H' s hl p v r => p v (.inl r)⟩

/-! ### names, constants -/
theorem je_var {i : Nat} {x : Str} {pos : Pos} (hN : C.N[i]? = some x) (hv : Vis C.sc x) (hd : (x == ("__debug__" : Str)) = false) (hcd : (x == ("__classdict__" : Str)) = false) : JE C (.Name x pos) (ev C.G (.var i)) := fun X on Wx tk =>
  imE (pe_var (i := i) (by rw [on.N]; exact hN) (by rw [on.sc]; exact hv) hd hcd) fun σ H Q q => by
    obtain ⟨B, F, θ, w, ρ, hx, fr, po⟩ := q
    unfold ev at po
    cases e : ρ[i]? with
    | none => rw [e] at po; exact po.elim
    | some s =>
      rw [e] at po
      cases s with
      | v d =>
        have hi : i < σ.length := by rw [fr.len]; exact (List.getElem?_eq_some_iff.mp e).1
        obtain ⟨v, hv, r⟩ := fr.sl i _ _ e (List.getElem?_eq_getElem hi)
        refine ⟨v, by rw [List.getElem?_eq_getElem hi, hv], ?_⟩
        exact po F θ H Step.refl fr.hl v r
      | u => exact po.elim
      | o o => exact po.elim
      | x c fs => exact po.elim
/-- a name whose own object is read at once -/
theorem jb_var {i : Nat} {x : Str} {pos : Pos} (hN : C.N[i]? = some x) (hv : Vis C.sc x) (hd : (x == ("__debug__" : Str)) = false) (hcd : (x == ("__classdict__" : Str)) = false) : JB C (.Name x pos) (fun ρ => bas (.var i) ρ (ev C.G (.var i) ρ)) := fun X on Wx tk =>
  imE (pe_var (i := i) (by rw [on.N]; exact hN) (by rw [on.sc]; exact hv) hd hcd) fun σ H Q q => by
    obtain ⟨B, F, θ, w, ρ, hx, fr, po⟩ := q
    unfold bas ev at po
    dsimp only at po
    cases e : ρ[i]? with
    | none => rw [e] at po; exact po.elim
    | some s =>
      rw [e] at po
      have hi : i < σ.length := by rw [fr.len]; exact (List.getElem?_eq_some_iff.mp e).1
      have q := fr.sl i _ _ e (List.getElem?_eq_getElem hi)
      cases s with
      | v d =>
        obtain ⟨v, hv, r⟩ := q
        refine ⟨v, by rw [List.getElem?_eq_getElem hi, hv], ?_⟩
        exact po F θ H Step.refl fr.hl v (.inl r)
      | u => exact po.elim
      | o o =>
        obtain ⟨p, hv, pF, pt, _, qo⟩ := q
        refine ⟨.ref p, by rw [List.getElem?_eq_getElem hi, hv], ?_⟩
        exact po F θ H Step.refl fr.hl (.ref p) (.inr ⟨p, o, rfl, rfl, pt, qo⟩)
      | x c fs => exact po.elim
/-- a written value -/
theorem je_c {e : Expr} {v : V} {d : D} (h : ∀ X, PE X e (tC v)) (r : ∀ K T F θ, Rep K T F θ v d) : JE C e (ev C.G (.cst d)) := fun X on Wx tk =>
  imE (h X) fun σ H Q q => by
    obtain ⟨B, F, θ, w, ρ, hx, fr, po⟩ := q
    exact po F θ H Step.refl fr.hl v (r _ _ _ _)
theorem je_glb {x : Nat} {pos : Pos} (ho : C.okG x = true) (hg : C.sc.names.lookup (C.gnm x) = some .globalImplicit) (hd : (C.gnm x == ("__debug__" : Str)) = false) : JE C (.Name (C.gnm x) pos) (ev C.G (.glb x)) := fun X on Wx tk => by
  have hG : Gl X (C.gnm x) := by show X.env.scope.names.lookup _ = _; rw [on.sc]; exact hg
  cases e : C.G.gl x with
  | none =>
    refine ⟨fun pins s σ H Q I q => ?_⟩
    obtain ⟨B, F, θ, w, ρ, hx, fr, po⟩ := q
    unfold ev vl M.opt at po
    rw [e] at po
    exact po.elim
  | some d =>
    obtain ⟨v, u, hm, rl, r⟩ := on.glb x d ho e
    refine imE (pe_glob hG hm rl hd) fun σ H Q q => ?_
    obtain ⟨B, F, θ, w, ρ, hx, fr, po⟩ := q
    unfold ev vl M.opt at po
    rw [e] at po
    exact po F θ H Step.refl fr.hl v (r _ _)
end
end My

set_option Elab.async false
set_option linter.all false
set_option maxRecDepth 100000
set_option maxHeartbeats 4000000
/-! Mini6: operators. -/
namespace My
open PySem L2

section
variable {K : PySem.W.Frag} {T : Tb} {F F' H H' : Hp} {θ θ' : List Addr} {w w' : Wd} {σ : St} {ρ : Env} {v : V} {d : D}
theorem KE.back {Q : VK} {r : Rv} {F1 : Hp} {θ1 : List Addr} {H1 : Hp} (s : Step F θ H F1 θ1 H1) (h : KE K T Q H r F' θ' w' H') : KE K T Q H1 r F' θ' w' H' := by
  cases r with
  | v d => exact h
  | o o => exact fun p a b c e => h p a b ⟨s.non c.1, fun C dx gs z => s.non (c.2 C dx gs z)⟩ e
/-- a result that is there -/
def Okr (K : PySem.W.Frag) (T : Tb) (F : Hp) (θ : List Addr) (H : Hp) (w : Wd) (r : Rv) (Q : VK) : Prop :=
  ∀ F' θ' H', Step F θ H F' θ' H' → Hl K T F' θ' w H' → KE K T Q H r F' θ' w H'
theorem Okr.val {Q : VK} (hl : Hl K T F θ w H) (h : Okr K T F θ H w (.v d) Q) (r : Rep K T F θ v d) : Q v H := h F θ H Step.refl hl v r
/-- a new list, a new tuple -/
theorem Okr.newL {Q : VK} {ds : List D} {vs : List V} (hl : Hl K T F θ w H) (h : Okr K T F θ H w (.o (.lst ds)) Q) (r : Reps K T F θ vs ds) : ∀ p, H p = none → Q (.ref p) (upd H p (.lst vs)) := fun p hp =>
  h F θ _ (Step.lay hp) (hl.lay hp) p (hl.fnone hp) (hl.tnone hp) ⟨hp, fun C dx gs e => by rw [upd_same] at e; cases e⟩ ⟨vs, upd_same, r⟩
theorem Okr.newT {Q : VK} {ds : List D} {vs : List V} (hl : Hl K T F θ w H) (h : Okr K T F θ H w (.v (.tup ds)) Q) (r : Reps K T F θ vs ds) : ∀ p, H p = none → Q (.ref p) (upd H p (.tup vs)) := fun p hp => by
  have st : Step F θ H (upd F p (.tup vs)) θ (upd H p (.tup vs)) := Step.new hp (hl.fnone hp)
  exact h _ θ _ st (hl.new hp) (.ref p) (.tup (.inl (.inl upd_same)) (r.mono st.grow))
theorem okS_append {x y : List Nat} (hx : okS x) (hy : okS y) (h : x.length + y.length ≤ lim) : okS (x ++ y) :=
  ⟨fun c m => (List.mem_append.mp m).elim (hx.1 c) (hy.1 c), by rw [List.length_append]; exact h⟩
theorem S8_append (x y : List Nat) : S8 x ++ S8 y = S8 (x ++ y) := by
  show (⟨x.toArray ++ y.toArray⟩ : Str) = ⟨(x ++ y).toArray⟩
  rw [List.append_toArray]
theorem S8_length (x : List Nat) : (S8 x).length = x.length := by show x.toArray.size = _; simp
end

/-- list + list -/
theorem op_catR {X : Cx} : OpR X (binaryOp .Add) (fun x y H Q => ∃ l b xs zs, x = .ref l ∧ y = .ref b ∧ Rd H l (.lst xs) ∧ Rd H b (.lst zs) ∧ xs.length + zs.length ≤ sizeLine ∧ ∀ p, H p = none → Q (.ref p) (upd H p (.lst (xs ++ zs)))) := by
  intro pins s σ H x y v u Q I rx ry h
  obtain ⟨l, b, xs, zs, rfl, rfl, h1, h2, hz, q⟩ := h
  cases rx
  cases ry
  obtain ⟨z, its, n, r, e⟩ := h1.ok I.hok
  obtain ⟨z2, its2, n2, r2, e2⟩ := h2.ok I.hok
  have hl1 := r.length
  have hl2 := r2.length
  refine PySem.P.add_list e e2 ?_ (by rw [List.size_toArray, List.size_toArray]; omega)
  have ea : its.toArray ++ its2.toArray = (its ++ its2).toArray := by rw [List.append_toArray]
  rw [ea]
  exact ⟨.ref _, _, I.lnew (t' := s.toks) (r.append r2) (by rw [List.length_append]; omega), rfl, q _ I.fresh⟩
theorem S8_cps (x : List Nat) : (S8 x).cps.toList = x := by show x.toArray.toList = x; simp
theorem foldl_app (l : List (Array Nat)) : ∀ a : Array Nat, (l.foldl (· ++ ·) a).toList = a.toList ++ (l.map Array.toList).flatten := by
  induction l with
  | nil => intro a; simp
  | cons b r ih => intro a; rw [List.foldl_cons, ih]; simp [List.append_assoc]
/-- a text times an int -/
theorem op_mulS {X : Cx} : OpR X (binaryOp .Mult) (fun x y H Q => ∃ (a : List Nat) (j : Int), x = .str (S8 a) ∧ y = .int j ∧ 0 ≤ j ∧ j < 2 ^ 62 ∧ a.length * j.toNat ≤ lim ∧ Q (.str (S8 (List.replicate j.toNat a).flatten)) H) := by
  intro pins s σ H x y v u Q I rx ry h
  obtain ⟨a, j, rfl, rfl, h0, h62, hz, q⟩ := h
  obtain ⟨t, rfl⟩ := rx
  obtain ⟨t', rfl⟩ := ry
  have hlen := S8_length a
  refine SB.mul ⟨?_, fun h1 h2 h3 => ?_, fun h1 h2 => ?_⟩ fun t2 k => ⟨.str _, H, I.tok _, ⟨t2, rfl⟩, ?_⟩
  · simp only [Bool.or_eq_false_iff, decide_eq_false_iff_not]
    omega
  · rw [hlen] at h3
    have e : j = (j.toNat : Int) := (Int.toNat_of_nonneg h0).symm
    have p1 : 0 < j := by omega
    have h4 : (9223372036854775807 : Int) / j < (a.length : Int) := h3
    have h5 := (Int.ediv_lt_iff_lt_mul p1).mp h4
    have h6 : (a.length : Int) * j ≤ (lim : Int) := by rw [e]; exact_mod_cast hz
    have h7 : (lim : Int) = 16777216 := rfl
    omega
  · rw [hlen]
    unfold Builtin.Str.tooLong
    exact decide_eq_false (by have h7 : sizeLine = lim := by decide
                              omega)
  · have e : Txt.mul (S8 a) j = S8 (List.replicate j.toNat a).flatten := by
      unfold Txt.mul
      by_cases h1 : j < 1
      · have e0 : j.toNat = 0 := by omega
        rw [if_pos h1, e0]
        rfl
      · rw [if_neg h1]
        by_cases h2 : (j == 1 || (S8 a).length == 0) = true
        · rw [if_pos h2]
          rw [hlen] at h2
          simp only [Bool.or_eq_true, beq_iff_eq, List.length_eq_zero_iff] at h2
          rcases h2 with h2 | h2
          · subst h2
            show S8 a = S8 (List.replicate 1 a).flatten
            rw [show (List.replicate 1 a).flatten = a by simp]
          · subst h2
            rw [show (List.replicate j.toNat ([] : List Nat)).flatten = [] by simp]
        · rw [if_neg h2]
          congr 1
          rw [← Array.toList_inj, foldl_app]
          simp
    rw [e]
    exact q

def pyOp : Op → Operator
  | .add => .Add
  | .sub => .Sub
  | .mul => .Mult
  | .mod => .Mod
  | .fdiv => .FloorDiv
  | .pow => .Pow
/-- an operator on what the evaluator knows -/
def rOpD (K : PySem.W.Frag) (T : Tb) (o : Op) : R2 := fun x y H Q => ∃ F θ w d e r, Hl K T F θ w H ∧ Drf K T F θ H x d ∧ Drf K T F θ H y e ∧ dOp o d e = some r ∧ Okr K T F θ H w r Q
theorem opR_op {X : Cx} {T : Tb} (o : Op) : OpR X (binaryOp (pyOp o)) (rOpD X.K T o) := by
  intro pins s σ H x y v u Q I rx ry h
  obtain ⟨F, θ, w, d, e, r, hl, hd, he, ho, ok⟩ := h
  cases o with
  | add =>
    cases d <;> cases e <;> first | (cases ho; done) | skip
    · obtain rfl := hd.int
      obtain rfl := he.int
      cases ho
      exact op_add pins s σ H _ _ v u Q I rx ry ⟨_, _, rfl, rfl, ok.val hl (.int _)⟩
    · obtain ⟨rfl, o1⟩ := hd.str
      obtain ⟨rfl, o2⟩ := he.str
      simp only [dOp] at ho
      split at ho
      · rename_i hz
        cases ho
        refine op_add_str pins s σ H _ _ v u Q I rx ry ⟨_, _, rfl, rfl, ?_, ?_⟩
        · rw [S8_length, S8_length, ← lim_size]; exact hz
        · rw [S8_append]; exact ok.val hl (.str _ (okS_append o1 o2 hz))
      · cases ho
    · obtain ⟨a, xs, rfl, h1, r1⟩ := hd.tup hl
      obtain ⟨b, ys, rfl, h2, r2⟩ := he.tup hl
      simp only [dOp] at ho
      split at ho
      · rename_i hz
        cases ho
        refine op_catA pins s σ H _ _ v u Q I rx ry ⟨a, b, xs, ys, rfl, rfl, h1, h2, ?_, fun z => ?_, fun z z2 => ?_, fun _ _ => ok.newT hl (r1.append r2)⟩
        · rw [r1.length, r2.length, ← lim_size]; exact hz
        · subst z
          cases r1
          exact ok.val hl (he.rep (fun o => by cases o <;> (intro z; cases z)))
        · subst z2
          cases r2
          exact ok.val hl (by rw [List.append_nil]; exact hd.rep (fun o => by cases o <;> (intro z; cases z)))
      · cases ho
    · obtain ⟨a, xs, rfl, h1, r1⟩ := hd.lst hl
      obtain ⟨b, ys, rfl, h2, r2⟩ := he.lst hl
      simp only [dOp] at ho
      split at ho
      · rename_i hz
        cases ho
        refine op_catR pins s σ H _ _ v u Q I rx ry ⟨a, b, xs, ys, rfl, rfl, h1, h2, ?_, ok.newL hl (r1.append r2)⟩
        rw [r1.length, r2.length, ← lim_size]; exact hz
      · cases ho
  | sub =>
    cases d <;> cases e <;> first | (cases ho; done) | skip
    obtain rfl := hd.int
    obtain rfl := he.int
    cases ho
    exact op_sub pins s σ H _ _ v u Q I rx ry ⟨_, _, rfl, rfl, ok.val hl (.int _)⟩
  | mul =>
    cases d <;> cases e <;> first | (cases ho; done) | skip
    · obtain rfl := hd.int
      obtain rfl := he.int
      simp only [dOp] at ho
      split at ho
      · rename_i hz
        cases ho
        refine op_mul pins s σ H _ _ v u Q I rx ry ⟨_, _, rfl, rfl, ?_, ok.val hl (.int _)⟩
        unfold smallI at hz
        simp only [Bool.or_eq_true, Bool.and_eq_true, decide_eq_true_eq] at hz
        exact hz
      · cases ho
    · obtain ⟨rfl, o1⟩ := hd.str
      obtain rfl := he.int
      simp only [dOp] at ho
      split at ho
      · rename_i hz
        cases ho
        refine op_mulS pins s σ H _ _ v u Q I rx ry ⟨_, _, rfl, rfl, hz.1, hz.2.1, hz.2.2, ok.val hl (.str _ ⟨fun c m => ?_, ?_⟩)⟩
        · obtain ⟨l, hl, hc⟩ := List.mem_flatten.mp m
          rw [(List.mem_replicate.mp hl).2] at hc
          exact o1.1 c hc
        · rw [List.length_flatten, List.map_replicate, List.sum_replicate_nat]
          rw [Nat.mul_comm]; exact hz.2.2
      · cases ho
  | mod =>
    cases d <;> cases e <;> first | (cases ho; done) | skip
    obtain rfl := hd.int
    obtain rfl := he.int
    simp only [dOp] at ho
    split at ho
    · rename_i hz
      cases ho
      exact op_mod pins s σ H _ _ v u Q I rx ry ⟨_, _, rfl, rfl, hz, ok.val hl (.int _)⟩
    · cases ho
  | fdiv =>
    cases d <;> cases e <;> first | (cases ho; done) | skip
    obtain rfl := hd.int
    obtain rfl := he.int
    simp only [dOp] at ho
    split at ho
    · rename_i hz
      cases ho
      exact op_fdiv pins s σ H _ _ v u Q I rx ry ⟨_, _, rfl, rfl, hz, ok.val hl (.int _)⟩
    · cases ho
  | pow =>
    cases d <;> cases e <;> first | (cases ho; done) | skip
    obtain rfl := hd.int
    obtain rfl := he.int
    simp only [dOp] at ho
    split at ho
    · rename_i hz
      cases ho
      exact op_pow pins s σ H _ _ v u Q I rx ry ⟨_, _, rfl, rfl, hz, ok.val hl (.int _)⟩
    · cases ho

section
variable {C : Ctx}
/-- two operands, read at once, then an operator by values -/
theorem je_op2 {a b : Expr} {ma mb : Env → M D} {f : D → D → Option Rv} {op : Operator} {pos : Pos} {r : (K : PySem.W.Frag) → R2}
    (ho : ∀ X, On C X → OpR X (binaryOp op) (r X.K))
    (hr : ∀ K F θ w H x y d e z Q, Hl K C.T F θ w H → Drf K C.T F θ H x d → Drf K C.T F θ H y e → f d e = some z → Okr K C.T F θ H w z Q → r K x y H Q)
    (ha : JB C a ma) (hb : JB C b mb) : JE C (.BinOp a op b pos) (fun ρ => (ma ρ).bd fun x => (mb ρ).bd fun y w => rv (f (deref w x) (deref w y)) w) := fun X on Wx tk =>
  imE (pe_op (ho X on) (ha X on Wx tk) (hb X on Wx tk)) fun σ H Q q => by
    obtain ⟨B, F, θ, w, ρ, hx, fr, po⟩ := q
    refine ⟨B, F, θ, w, ρ, hx, fr, (Po.bd (f := fun x => (mb ρ).bd fun y w => rv (f (deref w x) (deref w y)) w) po).imp fun d1 F1 θ1 w1 H1 s1 hl1 p1 v1 src1 => ?_⟩
    refine ⟨B, F1, θ1, w1, ρ, hx, fr.step s1 hl1, (Po.bd (f := fun y w => rv (f (deref w d1) (deref w y)) w) p1).imp fun d2 F2 θ2 w2 H2 s2 hl2 p2 v2 src2 => ?_⟩
    unfold rv M.opt at p2
    cases e : f (deref w2 d1) (deref w2 d2) with
    | none => rw [e] at p2; exact p2.elim
    | some z =>
      rw [e] at p2
      exact hr X.K F2 θ2 w2 H2 v1 v2 _ _ z Q hl2 ((src1.step hl1 s2).drf hl2) (src2.drf hl2) e fun F' θ' H' s hl => (p2 F' θ' H' s hl).back (s1.trans s2)
theorem je_op {o : Op} {a b : Expr} {ma mb : Env → M D} {pos : Pos} (ha : JB C a ma) (hb : JB C b mb) :
    JE C (.BinOp a (pyOp o) b pos) (fun ρ => (ma ρ).bd fun x => (mb ρ).bd fun y w => rv (dOp o (deref w x) (deref w y)) w) :=
  je_op2 (r := fun K => rOpD K C.T o) (fun X _ => opR_op o) (fun K F θ w H x y d e z Q h1 h2 h3 h4 h5 => ⟨F, θ, w, d, e, z, h1, h2, h3, h4, h5⟩) ha hb
end
end My

set_option Elab.async false
set_option linter.all false
set_option maxRecDepth 100000
set_option maxHeartbeats 4000000
/-! Mini7: comparisons, truth. -/
namespace My
open PySem L2

mutual
def toPy : D → PyData
  | .non => .none
  | .bl b => .bool b
  | .int i => .int i
  | .str s => .str (S8 s)
  | .tup ds => .tuple (toPys ds)
  | .lst ds => .list (toPys ds)
  | _ => .none
def toPys : List D → List PyData
  | [] => []
  | d :: r => toPy d :: toPys r
end
theorem toPys_map : ∀ ds : List D, toPys ds = ds.map toPy
  | [] => by simp [toPys]
  | d :: r => by simp [toPys, toPys_map r]
theorem S8_inj {x y : List Nat} : (S8 x = S8 y) ↔ x = y := by
  constructor
  · intro h
    have := congrArg (fun s : Str => s.cps.toList) h
    simpa using this
  · rintro rfl; rfl
theorem S8_beq (x y : List Nat) : (S8 x == S8 y) = (x == y) := by
  by_cases h : x = y
  · subst h; simp
  · have h2 : ¬ S8 x = S8 y := fun z => h (S8_inj.mp z)
    rw [beq_eq_false_iff_ne.mpr h, beq_eq_false_iff_ne.mpr h2]
mutual
theorem eqv_py : ∀ (n : Nat) (a b : D), a.plain n = true → b.plain n = true → PyData.eqv (toPy a) (toPy b) = a.eqv b
  | n, a, b, ha, hb => by
    cases n with
    | zero =>
      cases a <;> first | (simp [D.plain] at ha; done) | skip
      all_goals (cases b <;> first | (simp [D.plain] at hb; done) | simp [toPy, PyData.eqv, D.eqv, S8_beq])
    | succ n =>
      cases a <;> first | (simp [D.plain] at ha; done) | skip
      all_goals (cases b <;> first | (simp [D.plain] at hb; done) | skip)
      all_goals first | (simp [toPy, PyData.eqv, D.eqv, S8_beq]; done) | skip
      · simp only [toPy, PyData.eqv, D.eqv]
        exact eqvs_py n _ _ (by simpa [D.plain] using ha) (by simpa [D.plain] using hb)
      · simp only [toPy, PyData.eqv, D.eqv]
        exact eqvs_py n _ _ (by simpa [D.plain] using ha) (by simpa [D.plain] using hb)
theorem eqvs_py : ∀ (n : Nat) (as bs : List D), (∀ a ∈ as, a.plain n = true) → (∀ b ∈ bs, b.plain n = true) → PyData.eqvAll (toPys as) (toPys bs) = D.eqvs as bs
  | n, [], [], _, _ => by simp [toPys, PyData.eqvAll, D.eqvs]
  | n, [], _ :: _, _, _ => by simp [toPys, PyData.eqvAll, D.eqvs]
  | n, _ :: _, [], _, _ => by simp [toPys, PyData.eqvAll, D.eqvs]
  | n, a :: as, b :: bs, ha, hb => by
    simp only [toPys, PyData.eqvAll, D.eqvs]
    rw [eqv_py n a b (ha a List.mem_cons_self) (hb b List.mem_cons_self), eqvs_py n as bs (fun c m => ha c (List.mem_cons_of_mem _ m)) (fun c m => hb c (List.mem_cons_of_mem _ m))]
end

section
variable {K : PySem.W.Frag} {T : Tb} {F F' H H' : Hp} {θ θ' : List Addr} {w w' : Wd} {σ : St} {ρ : Env} {v : V} {d : D}
mutual
theorem Rep.dp (hl : Lie F H) : ∀ {v : V} {d : D} (n : Nat), Rep K T F θ v d → d.plain n = true → Dp K H v (toPy d) ∧ (toPy d).canLay0 = true ∧ (toPy d).depth ≤ n
  | _, _, _, .non, _ => ⟨.non, rfl, Nat.zero_le _⟩
  | _, _, _, .bl b, _ => ⟨.bl b, rfl, Nat.zero_le _⟩
  | _, _, _, .int i, _ => ⟨.int i, rfl, Nat.zero_le _⟩
  | _, _, _, .str s h, _ => ⟨.str _, by
      show (S8 s).cps.all (fun c => decide (c < 0x110000)) = true
      rw [← Array.all_toList, S8_cps, List.all_eq_true]
      exact fun c m => decide_eq_true (h.1 c m), Nat.zero_le _⟩
  | _, _, 0, .tup h r, hp => by simp [D.plain] at hp
  | _, _, n + 1, .tup h r, hp => by
    obtain ⟨h1, h2, h3⟩ := Reps.dp hl n r (by simpa [D.plain] using hp)
    exact ⟨by simp only [toPy]; exact .tup (hl.sqT h) h1, by simpa [toPy, PyData.canLay0] using h2, by simpa [toPy, PyData.depth] using h3⟩
  | _, _, 0, .lst h r, hp => by simp [D.plain] at hp
  | _, _, n + 1, .lst h r, hp => by
    obtain ⟨h1, h2, h3⟩ := Reps.dp hl n r (by simpa [D.plain] using hp)
    exact ⟨by simp only [toPy]; exact .lst (.inl (hl.rdl h)) h1, by simpa [toPy, PyData.canLay0] using h2, by simpa [toPy, PyData.depth] using h3⟩
  | _, _, 0, .dct h r, hp => by simp [D.plain] at hp
  | _, _, n + 1, .dct h r, hp => by simp [D.plain] at hp
  | _, _, 0, .ins _ _ _ _, hp => by simp [D.plain] at hp
  | _, _, n + 1, .ins _ _ _ _, hp => by simp [D.plain] at hp
  | _, _, 0, .ref _, hp => by simp [D.plain] at hp
  | _, _, n + 1, .ref _, hp => by simp [D.plain] at hp
  | _, _, 0, .kl _ _, hp => by simp [D.plain] at hp
  | _, _, n + 1, .kl _ _, hp => by simp [D.plain] at hp
theorem Reps.dp (hl : Lie F H) : ∀ {vs : List V} {ds : List D} (n : Nat), Reps K T F θ vs ds → (∀ d ∈ ds, d.plain n = true) → DpAll K H vs (toPys ds) ∧ PyData.canLayAll0 (toPys ds) = true ∧ PyData.depthAll (toPys ds) ≤ n
  | _, _, n, .nil, _ => ⟨.nil, rfl, Nat.zero_le _⟩
  | _, _, n, .cons r t, hp => by
    obtain ⟨h1, h2, h3⟩ := Rep.dp hl n r (hp _ List.mem_cons_self)
    obtain ⟨k1, k2, k3⟩ := Reps.dp hl n t (fun c m => hp c (List.mem_cons_of_mem _ m))
    exact ⟨by simp only [toPys]; exact .cons h1 k1, by simp [toPys, PyData.canLayAll0, h2, k2], by simp only [toPys, PyData.depthAll]; omega⟩
end
theorem Drf.dp (hl : Hl K T F θ w H) (n : Nat) (h : Drf K T F θ H v d) (hp : d.plain n = true) : Dp K H v (toPy d) ∧ (toPy d).canLay0 = true ∧ (toPy d).depth ≤ n := by
  rcases h with h | ⟨p, o, rfl, rfl, q⟩
  · exact h.dp hl.fh n hp
  · cases o with
    | lst ds =>
      obtain ⟨vs, e, r⟩ := q
      cases n with
      | zero => simp [Own.frz, D.plain] at hp
      | succ n =>
        obtain ⟨h1, h2, h3⟩ := Reps.dp hl.fh n r (by simpa [Own.frz, D.plain] using hp)
        exact ⟨by simp only [Own.frz, toPy]; exact .lst (SqL.of e) h1, by simpa [Own.frz, toPy, PyData.canLay0] using h2, by simpa [Own.frz, toPy, PyData.depth] using h3⟩
    | dct ds => cases n <;> simp [Own.frz, D.plain] at hp
    | ins c fs => cases n <;> simp [Own.frz, D.plain] at hp
theorem shaped_of {p : PyData} {n : Nat} (h1 : p.canLay0 = true) (h2 : p.depth ≤ n) (hn : n ≤ 64) : SeqAt.shaped p = true := by
  unfold SeqAt.shaped
  rw [h1, decide_eq_true (Nat.le_trans h2 hn)]
  rfl
theorem pEq_some {a b : D} {k : Bool} (h : pEq a b = some k) : a.plain 60 = true ∧ b.plain 60 = true ∧ k = a.eqv b := by
  unfold pEq at h
  split at h
  · rename_i hz
    simp only [Bool.and_eq_true] at hz
    exact ⟨hz.1, hz.2, (Option.some.inj h).symm⟩
  · cases h
theorem ltL_eq : ∀ x y : List Nat, ltL x y = decide (x < y)
  | [], [] => by simp [ltL]
  | [], _ :: _ => by simp [ltL]
  | _ :: _, [] => by simp [ltL]
  | x :: xs, y :: ys => by
    unfold ltL
    by_cases h : x = y
    · subst h
      rw [if_pos rfl, ltL_eq xs ys]
      simp [List.cons_lt_cons_iff]
    · rw [if_neg h]
      simp [List.cons_lt_cons_iff, h]
end
def pyCm : Cm → CmpOp
  | .eq => .Eq
  | .ne => .NotEq
  | .lt => .Lt
  | .le => .LtE
  | .gt => .Gt
  | .ge => .GtE
  | .isn => .Is
  | .notn => .IsNot
  | .isin => .In
  | .nin => .NotIn
def rCmD (K : PySem.W.Frag) (T : Tb) (c : Cm) : R2 := fun x y H Q => ∃ F θ w d e b, Hl K T F θ w H ∧ Drf K T F θ H x d ∧ Drf K T F θ H y e ∧ dCmp c d e = some b ∧ Q (.bl b) H
theorem opR_lt {X : Cx} {T : Tb} {pins : List (Addr × Obj)} {s : Shared} {σ : St} {H F : Hp} {θ : List Addr} {x y : V} {v u : Value} {Q : VK} {d e : D} (op : CmpOp) (g : Bool → Bool → Bool → Bool)
    (hi : OpR X (compareOp op) (rI0 fun i j => .bl (g (decide (i < j)) (decide (j < i)) true)))
    (hs : OpR X (compareOp op) (fun x y H Q => ∃ i j, x = .str i ∧ y = .str j ∧ Q (.bl (g (decide (i.cps.toList < j.cps.toList)) (decide (j.cps.toList < i.cps.toList)) true)) H))
    (I : L2.Inv X pins σ H s) (rx : RelV x v) (ry : RelV y u) (hd : Drf X.K T F θ H x d) (he : Drf X.K T F θ H y e) (a c : Bool) (h1 : dLt d e = some a) (h2 : dLt e d = some c) (q : Q (.bl (g a c true)) H) :
    wpAny (model X.prog X.w) X.A (compareOp op v u) (EP X pins σ Q) X.xe s := by
  cases d <;> cases e <;> first | (simp [dLt] at h1; done) | skip
  · obtain rfl := hd.int
    obtain rfl := he.int
    simp only [dLt, Option.some.injEq] at h1 h2
    subst h1; subst h2
    exact hi pins s σ H _ _ v u Q I rx ry ⟨_, _, rfl, rfl, q⟩
  · obtain ⟨rfl, _⟩ := hd.str
    obtain ⟨rfl, _⟩ := he.str
    simp only [dLt, Option.some.injEq, ltL_eq] at h1 h2
    subst h1; subst h2
    exact hs pins s σ H _ _ v u Q I rx ry ⟨_, _, rfl, rfl, by simpa only [S8_cps] using q⟩
theorem dLt_flip {d e : D} {a : Bool} (h : dLt d e = some a) : ∃ c, dLt e d = some c := by
  cases d <;> cases e <;> first | (simp [dLt] at h; done) | exact ⟨_, rfl⟩
theorem Drf.isN {K : PySem.W.Frag} {T : Tb} {F H : Hp} {θ : List Addr} {x : V} {d : D} (h : Drf K T F θ H x d) : decide (x = .non) = isNon d := by
  rcases h with h | ⟨p, o, rfl, rfl, q⟩
  · cases h <;> first | rfl | (rw [decide_eq_false (fun z => by cases z)])
  · cases o <;> (rw [decide_eq_false (fun z => by cases z)]; rfl)
/-- a key of a dict by values -/
theorem key_of {K : PySem.W.Frag} {T : Tb} {F H : Hp} {θ : List Addr} {x : V} {d : D} (h : Drf K T F θ H x d) (hk : keyOk d = true) : ∃ k : Key, x = kV k ∧ d = kD k := by
  cases d <;> first | (simp [keyOk] at hk; done) | skip
  · obtain rfl := h.int; exact ⟨.inl _, rfl, rfl⟩
  · obtain ⟨rfl, _⟩ := h.str
    exact ⟨.inr (S8 _), rfl, by show D.str _ = D.str (S8 _).cps.toList; rw [S8_cps]⟩
theorem kD_eqv (a b : Key) : (kD a).eqv (kD b) = decide (a = b) := by
  cases a with
  | inl i =>
    cases b with
    | inl j => rw [key_ll]; rfl
    | inr y => simp [kD, D.eqv]
  | inr x =>
    cases b with
    | inl j => simp [kD, D.eqv]
    | inr y =>
      simp only [kD, D.eqv, key_rr]
      by_cases h : x = y
      · subst h; simp
      · rw [decide_eq_false h, beq_eq_false_iff_ne]
        intro z
        apply h
        cases x; cases y
        simpa using z
theorem RepK.look {K : PySem.W.Frag} {T : Tb} {F : Hp} {θ : List Addr} (k : Key) : ∀ {ks : List (Key × V)} {kvs : List (D × D)}, RepK K T F θ ks kvs →
    (lookD kvs (kD k) = none ∧ valV ks k = none) ∨ ∃ v d, lookD kvs (kD k) = some d ∧ valV ks k = some v ∧ Rep K T F θ v d
  | _, _, .nil => .inl ⟨rfl, rfl⟩
  | _, _, .cons (k := k2) (v := v) (ks := ks) (d := d) (kvs := kvs) r t => by
    unfold lookD valV
    rw [kD_eqv, List.find?_cons]
    by_cases h : k2 = k
    · subst h
      simp only [decide_true, if_true]
      exact .inr ⟨v, d, rfl, rfl, r⟩
    · simp only [decide_eq_false h, Bool.false_eq_true, if_false]
      exact RepK.look k t
theorem plain_more : ∀ {n : Nat} {d : D}, d.plain n = true → d.plain (n + 1) = true
  | 0, d, h => by cases d <;> first | (simp [D.plain] at h; done) | rfl
  | n + 1, d, h => by
    cases d <;> first | (simp [D.plain] at h; done) | rfl | skip
    · simp only [D.plain, List.all_eq_true] at h ⊢
      exact fun c m => plain_more (h c m)
    · simp only [D.plain, List.all_eq_true] at h ⊢
      exact fun c m => plain_more (h c m)
theorem any_py (x : D) (hx : x.plain 60 = true) : ∀ (ds : List D), (∀ d ∈ ds, d.plain 59 = true) → ((toPys ds).any fun z => PyData.eqv z (toPy x)) = ds.any fun y => y.eqv x
  | [], _ => rfl
  | d :: r, h => by
    have e := eqv_py 60 d x (plain_more (h d List.mem_cons_self)) hx
    simp only [toPys, List.any_cons]
    rw [e, any_py x hx r fun c m => h c (List.mem_cons_of_mem _ m)]
theorem mem_contains (c : Nat) (s : List Nat) : decide (c ∈ s) = s.contains c := by
  rw [Bool.eq_iff_iff]; simp
section
variable {X : Cx} {T : Tb} {pins : List (Addr × Obj)} {s : Shared} {σ : St} {H F : Hp} {θ : List Addr} {w : Wd} {x y : V} {v u : Value} {Q : VK} {d e : D} {b : Bool}
/-- the ways of in -/
theorem in_ways (hl : Hl X.K T F θ w H) (hd : Drf X.K T F θ H x d) (he : Drf X.K T F θ H y e) (h : dIn d e = some b) :
    (∃ c s, x = .str ⟨#[c]⟩ ∧ y = .str (S8 s) ∧ b = decide (c ∈ (S8 s).cps.toList)) ∨
    (∃ p ps, Dp X.K H x p ∧ Dp X.K H y (.list ps) ∧ SeqAt.shaped p = true ∧ SeqAt.shaped (.list ps) = true ∧ b = ps.any fun z => PyData.eqv z p) ∨
    (∃ p ps, Dp X.K H x p ∧ Dp X.K H y (.tuple ps) ∧ SeqAt.shaped p = true ∧ SeqAt.shaped (.tuple ps) = true ∧ b = ps.any fun z => PyData.eqv z p) ∨
    (∃ a ks k, y = .ref a ∧ x = kV k ∧ Rd H a (.dK ks) ∧ b = (valV ks k).isSome) := by
  cases e with
  | str s =>
    cases d <;> first | (simp [dIn] at h; done) | skip
    rename_i z
    cases z with
    | nil => simp [dIn] at h
    | cons c r =>
      cases r with
      | cons _ _ => simp [dIn] at h
      | nil =>
        obtain ⟨rfl, _⟩ := hd.str
        obtain ⟨rfl, _⟩ := he.str
        simp only [dIn, Option.some.injEq] at h
        exact .inl ⟨c, s, rfl, rfl, by rw [S8_cps, mem_contains, h]⟩
  | lst ds =>
    have h' : (if (d.plain 60 && ds.all (D.plain 59)) = true then some (ds.any fun y => y.eqv d) else none) = some b := by cases d <;> exact h
    split at h'
    · rename_i hz
      simp only [Bool.and_eq_true, List.all_eq_true] at hz
      obtain ⟨a1, a2, a3⟩ := hd.dp hl 60 hz.1
      obtain ⟨b1, b2, b3⟩ := he.dp hl 60 (by simpa [D.plain] using hz.2)
      simp only [toPy] at b1 b2 b3
      exact .inr (.inl ⟨_, _, a1, b1, shaped_of a2 a3 (by decide), shaped_of b2 b3 (by decide), by rw [any_py d hz.1 ds hz.2]; exact (Option.some.inj h').symm⟩)
    · cases h'
  | tup ds =>
    have h' : (if (d.plain 60 && ds.all (D.plain 59)) = true then some (ds.any fun y => y.eqv d) else none) = some b := by cases d <;> exact h
    split at h'
    · rename_i hz
      simp only [Bool.and_eq_true, List.all_eq_true] at hz
      obtain ⟨a1, a2, a3⟩ := hd.dp hl 60 hz.1
      obtain ⟨b1, b2, b3⟩ := he.dp hl 60 (by simpa [D.plain] using hz.2)
      simp only [toPy] at b1 b2 b3
      exact .inr (.inr (.inl ⟨_, _, a1, b1, shaped_of a2 a3 (by decide), shaped_of b2 b3 (by decide), by rw [any_py d hz.1 ds hz.2]; exact (Option.some.inj h').symm⟩))
    · cases h'
  | dct kvs =>
    have h' : (if keyOk d = true then some (lookD kvs d).isSome else none) = some b := by cases d <;> exact h
    split at h'
    · rename_i hz
      obtain ⟨a, ks, rfl, hr, rk⟩ := he.dct hl
      obtain ⟨k, rfl, rfl⟩ := key_of hd hz
      refine .inr (.inr (.inr ⟨a, ks, k, rfl, rfl, hr, ?_⟩))
      rcases rk.look k with ⟨e1, e2⟩ | ⟨v, d, e1, e2, _⟩ <;> (rw [e1] at h'; rw [e2]; exact (Option.some.inj h').symm)
    · cases h'
  | _ => cases d <;> simp [dIn] at h
theorem room_in {A : Around} {p q : PyData} (hu : A.units + 64 < cLine) (h1 : p.depth ≤ 60) : A.units + 1 + min q.depth p.depth < cLine := by
  have := Nat.min_le_right q.depth p.depth
  omega
theorem opR_in (hu : X.A.units + 200 < cLine) (hl : Hl X.K T F θ w H) (hd : Drf X.K T F θ H x d) (he : Drf X.K T F θ H y e) (I : L2.Inv X pins σ H s) (rx : RelV x v) (ry : RelV y u) (h : dIn d e = some b) (q : Q (.bl b) H) :
    wpAny (model X.prog X.w) X.A (compareOp .In v u) (EP X pins σ Q) X.xe s := by
  rcases in_ways hl hd he h with ⟨c, z, rfl, rfl, rfl⟩ | ⟨p, ps, h1, h2, h3, h4, rfl⟩ | ⟨p, ps, h1, h2, h3, h4, rfl⟩ | ⟨a, ks, k, rfl, rfl, hr, rfl⟩
  · exact op_in_sign pins s σ H _ _ v u Q I rx ry ⟨c, S8 z, rfl, rfl, q⟩
  · exact op_inD (by omega) pins s σ H _ _ v u Q I rx ry ⟨p, ps, h1, h2, h3, h4, q⟩
  · obtain ⟨as, r1⟩ := Dp.reads I p x v h1 rx
    obtain ⟨bs, r2⟩ := Dp.reads I (.tuple ps) y u h2 ry
    have m1 := SeqAt.depth_of_shaped h3
    have m2 := Nat.min_le_right (PyData.depthAll ps) p.depth
    exact SeqAt.in_tuple_reads r2 r1 (SeqAt.canLay_of_shaped h4) (SeqAt.canLay_of_shaped h3) (by omega) ⟨.bl _, H, I, rfl, q⟩
  · cases ry
    exact d_in (by omega) I (.inl ⟨ks, k, hr, rfl, rfl⟩) rx fun s3 I3 => ⟨.bl _, H, I3, rfl, q⟩
theorem opR_nin (hu : X.A.units + 200 < cLine) (hl : Hl X.K T F θ w H) (hd : Drf X.K T F θ H x d) (he : Drf X.K T F θ H y e) (I : L2.Inv X pins σ H s) (rx : RelV x v) (ry : RelV y u) (h : dIn d e = some b) (q : Q (.bl (!b)) H) :
    wpAny (model X.prog X.w) X.A (compareOp .NotIn v u) (EP X pins σ Q) X.xe s := by
  rcases in_ways hl hd he h with ⟨c, z, rfl, rfl, rfl⟩ | ⟨p, ps, h1, h2, h3, h4, rfl⟩ | ⟨p, ps, h1, h2, h3, h4, rfl⟩ | ⟨a, ks, k, rfl, rfl, hr, rfl⟩
  · exact op_notIn_sign pins s σ H _ _ v u Q I rx ry ⟨c, S8 z, rfl, rfl, q⟩
  · exact op_notInD (by omega) pins s σ H _ _ v u Q I rx ry ⟨p, ps, h1, h2, h3, h4, q⟩
  · obtain ⟨as, r1⟩ := Dp.reads I p x v h1 rx
    obtain ⟨bs, r2⟩ := Dp.reads I (.tuple ps) y u h2 ry
    have m1 := SeqAt.depth_of_shaped h3
    have m2 := Nat.min_le_right (PyData.depthAll ps) p.depth
    exact SeqAt.notIn_tuple_reads r2 r1 (SeqAt.canLay_of_shaped h4) (SeqAt.canLay_of_shaped h3) (by omega) ⟨.bl _, H, I, rfl, q⟩
  · cases ry
    exact d_notIn (by omega) I (.inl ⟨ks, k, hr, rfl, rfl⟩) rx fun s3 I3 => ⟨.bl _, H, I3, rfl, q⟩
end
theorem opR_cm {X : Cx} {T : Tb} {k : Nat} (hr : Room (k + 1) X.A) (c : Cm) : OpR X (compareOp (pyCm c)) (rCmD X.K T c) := by
  intro pins s σ H x y v u Q I rx ry h
  obtain ⟨F, θ, w, d, e, b, hl, hd, he, ho, q⟩ := h
  have hu : X.A.units + 200 < cLine := by have := hr.un; omega
  cases c with
  | eq =>
    obtain ⟨p1, p2, rfl⟩ := pEq_some ho
    obtain ⟨a1, a2, a3⟩ := hd.dp hl 60 p1
    obtain ⟨b1, b2, b3⟩ := he.dp hl 60 p2
    refine op_eqD (by omega) pins s σ H _ _ v u Q I rx ry ⟨_, _, a1, b1, shaped_of a2 a3 (by decide), shaped_of b2 b3 (by decide), ?_⟩
    rw [eqv_py 60 _ _ p1 p2]
    exact q
  | ne =>
    simp only [dCmp, Option.map_eq_some_iff] at ho
    obtain ⟨b', ho, rfl⟩ := ho
    obtain ⟨p1, p2, rfl⟩ := pEq_some ho
    obtain ⟨a1, a2, a3⟩ := hd.dp hl 60 p1
    obtain ⟨b1, b2, b3⟩ := he.dp hl 60 p2
    refine op_neD (by omega) pins s σ H _ _ v u Q I rx ry ⟨_, _, a1, b1, shaped_of a2 a3 (by decide), shaped_of b2 b3 (by decide), ?_⟩
    rw [eqv_py 60 _ _ p1 p2]
    exact q
  | lt =>
    obtain ⟨c, hc⟩ := dLt_flip ho
    exact opR_lt .Lt (fun a _ _ => a) op_lt op_lt_str I rx ry hd he b c ho hc q
  | gt =>
    obtain ⟨c, hc⟩ := dLt_flip ho
    exact opR_lt .Gt (fun _ c _ => c) op_gt op_gt_str I rx ry hd he c b hc ho q
  | le =>
    simp only [dCmp, Option.map_eq_some_iff] at ho
    obtain ⟨b', ho, rfl⟩ := ho
    obtain ⟨c, hc⟩ := dLt_flip ho
    refine opR_lt .LtE (fun _ c _ => !c) (fun pins s σ H x y v u Q I rx ry h => ?_) op_le_str I rx ry hd he c b' hc ho q
    obtain ⟨i, j, e1, e2, q⟩ := h
    refine op_le pins s σ H x y v u Q I rx ry ⟨i, j, e1, e2, ?_⟩
    show Q (.bl (decide (i ≤ j))) H
    rw [show decide (i ≤ j) = !decide (j < i) by rw [← decide_not]; congr 1; simp only [eq_iff_iff]; omega]
    exact q
  | ge =>
    simp only [dCmp, Option.map_eq_some_iff] at ho
    obtain ⟨b', ho, rfl⟩ := ho
    obtain ⟨c, hc⟩ := dLt_flip ho
    refine opR_lt .GtE (fun a _ _ => !a) (fun pins s σ H x y v u Q I rx ry h => ?_) op_ge_str I rx ry hd he b' c ho hc q
    obtain ⟨i, j, e1, e2, q⟩ := h
    refine op_ge pins s σ H x y v u Q I rx ry ⟨i, j, e1, e2, ?_⟩
    show Q (.bl (decide (j ≤ i))) H
    rw [show decide (j ≤ i) = !decide (i < j) by rw [← decide_not]; congr 1; simp only [eq_iff_iff]; omega]
    exact q
  | isn =>
    cases e <;> first | (simp [dCmp] at ho; done) | skip
    obtain rfl := he.non
    simp only [dCmp, Option.some.injEq] at ho
    subst ho
    refine op_isN pins s σ H _ _ v u Q I rx ry ⟨rfl, ?_⟩
    rw [hd.isN]
    exact q
  | notn =>
    cases e <;> first | (simp [dCmp] at ho; done) | skip
    obtain rfl := he.non
    simp only [dCmp, Option.some.injEq] at ho
    subst ho
    refine op_notN pins s σ H _ _ v u Q I rx ry ⟨rfl, ?_⟩
    rw [hd.isN]
    exact q
  | isin => exact opR_in hu hl hd he I rx ry ho q
  | nin =>
    simp only [dCmp, Option.map_eq_some_iff] at ho
    obtain ⟨b', ho, rfl⟩ := ho
    exact opR_nin hu hl hd he I rx ry ho q
end My

set_option Elab.async false
set_option linter.all false
set_option maxRecDepth 100000
set_option maxHeartbeats 4000000
/-! Mini8: the rules of expressions and tests, by their parts. -/
namespace My
open PySem L2

section
variable {C : Ctx}
/-! ### comparisons -/
theorem je_cmp (hcm : C.cm = true) {c : Cm} {a b : Expr} {ma mb : Env → M D} {pos : Pos} (hm : behindInMarks (pyCm c) b = false) (hk : ∃ j, C.k = j + 1) (ha : JB C a ma) (hb : JB C b mb) :
    JE C (.Compare a [pyCm c] [b] pos) (fun ρ => (ma ρ).bd fun x => (mb ρ).bd fun y w => bl (dCmp c (deref w x) (deref w y)) w) := fun X on Wx tk => by
  obtain ⟨j, hj⟩ := hk
  refine imE (pe_cmpR (opR_cm (T := C.T) (k := j) (hj ▸ on.hr hcm) c) (ha X on Wx tk) (hb X on Wx tk) hm) fun σ H Q q => ?_
  obtain ⟨B, F, θ, w, ρ, hx, fr, po⟩ := q
  refine ⟨B, F, θ, w, ρ, hx, fr, (Po.bd (f := fun x => (mb ρ).bd fun y w => bl (dCmp c (deref w x) (deref w y)) w) po).imp fun d1 F1 θ1 w1 H1 s1 hl1 p1 v1 src1 => ?_⟩
  refine ⟨B, F1, θ1, w1, ρ, hx, fr.step s1 hl1, (Po.bd (f := fun y w => bl (dCmp c (deref w d1) (deref w y)) w) p1).imp fun d2 F2 θ2 w2 H2 s2 hl2 p2 v2 src2 => ?_⟩
  unfold bl M.opt at p2
  cases e : dCmp c (deref w2 d1) (deref w2 d2) with
  | none => rw [e] at p2; exact p2.elim
  | some z =>
    rw [e] at p2
    exact ⟨F2, θ2, w2, _, _, z, hl2, (src1.step hl1 s2).drf hl2, src2.drf hl2, e, p2 F2 θ2 H2 Step.refl hl2 _ (.bl z)⟩
/-- a test of the evaluator, from its value -/
def tstM (m : M Rv) : M Bool := m.bd fun r w => match truth (deref w r.d) with
  | some b => .ok b w
  | none => .bad
theorem jt_cmp (hcm : C.cm = true) {c : Cm} {a b : Expr} {ma mb : Env → M D} {pos : Pos} (hm : behindInMarks (pyCm c) b = false) (hk : ∃ j, C.k = j + 1) (ha : JB C a ma) (hb : JB C b mb) :
    JT C (.Compare a [pyCm c] [b] pos) (fun ρ => (ma ρ).bd fun x => (mb ρ).bd fun y w => match dCmp c (deref w x) (deref w y) with
      | some b => .ok b w
      | none => .bad) := fun X on Wx tk => by
  obtain ⟨j, hj⟩ := hk
  refine imT (pt_cmpR (opR_cm (T := C.T) (k := j) (hj ▸ on.hr hcm) c) (ha X on Wx tk) (hb X on Wx tk) hm) fun σ H Q q => ?_
  obtain ⟨B, F, θ, w, ρ, hx, fr, po⟩ := q
  refine ⟨B, F, θ, w, ρ, hx, fr, (Po.bd (f := fun x => (mb ρ).bd fun y w => match dCmp c (deref w x) (deref w y) with
      | some b => .ok b w
      | none => .bad) po).imp fun d1 F1 θ1 w1 H1 s1 hl1 p1 v1 src1 => ?_⟩
  refine ⟨B, F1, θ1, w1, ρ, hx, fr.step s1 hl1, (Po.bd (f := fun y w => match dCmp c (deref w d1) (deref w y) with
      | some b => .ok b w
      | none => .bad) p1).imp fun d2 F2 θ2 w2 H2 s2 hl2 p2 v2 src2 => ?_⟩
  cases e : dCmp c (deref w2 d1) (deref w2 d2) with
  | none => rw [e] at p2; exact p2.elim
  | some z =>
    rw [e] at p2
    exact ⟨F2, θ2, w2, _, _, z, hl2, (src1.step hl1 s2).drf hl2, src2.drf hl2, e, z, rfl, p2 F2 θ2 H2 Step.refl hl2⟩

/-! ### and, or, not, if -/
theorem je_and {a b : Expr} {rest : List Expr} {ma mb : Env → M Rv} {pos : Pos} (ha : JE C a ma) (hb : JE C (.BoolOp .And (b :: rest) pos) mb) :
    JE C (.BoolOp .And (a :: b :: rest) pos) (fun ρ => (ma ρ).bd fun x => (match x with
      | .v (.bl true) => mb ρ
      | .v (.bl false) => M.ret (.v (.bl false))
      | _ => fun _ => .bad)) := fun X on Wx tk =>
  imE (pe_and (ha X on Wx tk) (hb X on Wx tk)) fun σ H Q q => by
    obtain ⟨B, F, θ, w, ρ, hx, fr, po⟩ := q
    refine ⟨B, F, θ, w, ρ, hx, fr, (Po.bd (f := fun x => (match x with
      | .v (.bl true) => mb ρ
      | .v (.bl false) => M.ret (.v (.bl false))
      | _ => fun _ => .bad)) po).imp fun r F1 θ1 w1 H1 s1 hl1 p1 => ?_⟩
    cases r with
    | o o => exact p1.elim
    | v d =>
      intro v rv
      cases rv with
      | bl b =>
        refine ⟨b, rfl, ?_⟩
        cases b with
        | true => exact iteT ⟨B, F1, θ1, w1, ρ, hx, fr.step s1 hl1, p1.imp fun r F2 θ2 w2 H2 s2 hl2 p2 => p2.back s1⟩
        | false => exact iteF (p1 F1 θ1 H1 Step.refl hl1 _ (.bl false))
      | _ => exact p1.elim
theorem je_or {a b : Expr} {rest : List Expr} {ma mb : Env → M Rv} {pos : Pos} (ha : JE C a ma) (hb : JE C (.BoolOp .Or (b :: rest) pos) mb) :
    JE C (.BoolOp .Or (a :: b :: rest) pos) (fun ρ => (ma ρ).bd fun x => (match x with
      | .v (.bl true) => M.ret (.v (.bl true))
      | .v (.bl false) => mb ρ
      | _ => fun _ => .bad)) := fun X on Wx tk =>
  imE (pe_or (ha X on Wx tk) (hb X on Wx tk)) fun σ H Q q => by
    obtain ⟨B, F, θ, w, ρ, hx, fr, po⟩ := q
    refine ⟨B, F, θ, w, ρ, hx, fr, (Po.bd (f := fun x => (match x with
      | .v (.bl true) => M.ret (.v (.bl true))
      | .v (.bl false) => mb ρ
      | _ => fun _ => .bad)) po).imp fun r F1 θ1 w1 H1 s1 hl1 p1 => ?_⟩
    cases r with
    | o o => exact p1.elim
    | v d =>
      intro v rv
      cases rv with
      | bl b =>
        refine ⟨b, rfl, ?_⟩
        cases b with
        | true => exact iteT (p1 F1 θ1 H1 Step.refl hl1 _ (.bl true))
        | false => exact iteF ⟨B, F1, θ1, w1, ρ, hx, fr.step s1 hl1, p1.imp fun r F2 θ2 w2 H2 s2 hl2 p2 => p2.back s1⟩
      | _ => exact p1.elim
theorem je_one {a : Expr} {op : BoolOp} {m : Env → M Rv} {pos : Pos} (ha : JE C a m) : JE C (.BoolOp op [a] pos) m := fun X on Wx tk => pe_one (ha X on Wx tk)
/-- truth, by values -/
theorem tru_of {K : PySem.W.Frag} {T : Tb} {F H : Hp} {θ : List Addr} {w : Wd} {v : V} {d : D} {b : Bool} (hl : Hl K T F θ w H) (h : Drf K T F θ H v d) (e : truth d = some b) : TruV K v H b := by
  cases d <;> first | (simp [truth] at e; done) | skip
  · obtain rfl := h.non; exact (Option.some.inj e).symm
  · obtain rfl := h.bl; exact (Option.some.inj e).symm
  · obtain rfl := h.int; exact (Option.some.inj e).symm
  · obtain ⟨rfl, o⟩ := h.str
    refine ⟨by rw [S8_length, ← lim_size]; exact o.2, ?_⟩
    rw [S8_length, ← Option.some.inj e]
    rename_i s
    cases s with
    | nil => simp
    | cons c r => simp; omega
  · obtain ⟨a, vs, rfl, h1, r⟩ := h.tup hl
    refine .inr (.inl ⟨vs, h1, ?_⟩)
    rw [← Option.some.inj e]
    cases r <;> rfl
  · obtain ⟨a, vs, rfl, h1, r⟩ := h.lst hl
    refine .inl ⟨vs, .inl h1, ?_⟩
    rw [← Option.some.inj e]
    cases r <;> rfl
theorem je_not {a : Expr} {ma : Env → M Rv} {pos : Pos} (ha : JE C a ma) : JE C (.UnaryOp .Not a pos) (fun ρ => (tru (ma ρ)).bd fun b => M.ret (.v (.bl (!b)))) := fun X on Wx tk =>
  imE (pe_notT (ha.d X on Wx tk)) fun σ H Q q => by
    obtain ⟨B, F, θ, w, ρ, hx, fr, po⟩ := q
    refine ⟨B, F, θ, w, ρ, hx, fr, ?_⟩
    have p0 := Po.bd (m := tru (ma ρ)) (f := fun b => M.ret (Rv.v (D.bl (!b)))) po
    show Po X.K C.T F θ H σ (val (ma ρ) w) _ Wx
    cases e : ma ρ w with
    | bad =>
      have h1 : tru (ma ρ) w = .bad := by unfold tru M.bd; rw [e]
      rw [h1] at p0
      exact p0.elim
    | exc c fs w' =>
      have h1 : tru (ma ρ) w = .exc c fs w' := by unfold tru M.bd; rw [e]
      have h2 : val (ma ρ) w = .exc c fs w' := by unfold val M.bd; rw [e]
      rw [h1] at p0
      rw [h2]
      exact p0
    | ok r w' =>
      have h2 : val (ma ρ) w = .ok r.d w' := by unfold val M.bd; rw [e]; rfl
      rw [h2]
      intro F1 θ1 H1 s1 hl1 v rv
      cases e2 : truth (deref w' r.d) with
      | none =>
        have h1 : tru (ma ρ) w = .bad := by unfold tru M.bd; rw [e]; simp only [e2]
        rw [h1] at p0
        exact p0.elim
      | some b =>
        have h1 : tru (ma ρ) w = .ok b w' := by unfold tru M.bd; rw [e]; simp only [e2]
        rw [h1] at p0
        exact ⟨b, tru_of hl1 (Src.drf hl1 (.inl rv)) e2, p0 F1 θ1 H1 s1 hl1 F1 θ1 H1 Step.refl hl1 _ (.bl _)⟩
theorem je_ite {t a b : Expr} {mt : Env → M Bool} {ma mb : Env → M Rv} {pos : Pos} (ht : JT C t mt) (ha : JE C a ma) (hb : JE C b mb) :
    JE C (.IfExp t a b pos) (fun ρ => (mt ρ).bd fun c => if c then ma ρ else mb ρ) := fun X on Wx tk =>
  imE (pe_ifExp (ht X on Wx tk) (ha X on Wx tk) (hb X on Wx tk)) fun σ H Q q => by
    obtain ⟨B, F, θ, w, ρ, hx, fr, po⟩ := q
    refine ⟨B, F, θ, w, ρ, hx, fr, (Po.bd (f := fun c => if c = true then ma ρ else mb ρ) po).imp fun c F1 θ1 w1 H1 s1 hl1 p1 => ?_⟩
    cases c with
    | true =>
      show (if true = true then tE X.K C.T C.xi ma Wx σ H1 Q else tE X.K C.T C.xi mb Wx σ H1 Q)
      exact iteT ⟨B, F1, θ1, w1, ρ, hx, fr.step s1 hl1, (show Po _ _ _ _ _ _ (ma ρ w1) _ _ from p1).imp fun r F2 θ2 w2 H2 s2 hl2 p2 => p2.back s1⟩
    | false =>
      show (if false = true then tE X.K C.T C.xi ma Wx σ H1 Q else tE X.K C.T C.xi mb Wx σ H1 Q)
      exact iteF ⟨B, F1, θ1, w1, ρ, hx, fr.step s1 hl1, (show Po _ _ _ _ _ _ (mb ρ w1) _ _ from p1).imp fun r F2 θ2 w2 H2 s2 hl2 p2 => p2.back s1⟩
theorem je_neg {a : Expr} {ma : Env → M D} {pos : Pos} (ha : JD C a ma) : JE C (.UnaryOp .USub a pos) (fun ρ => (ma ρ).bd fun x => (match x with
      | .int i => M.ret (.v (.int (-i)))
      | _ => fun _ => .bad)) := fun X on Wx tk =>
  imE (pe_un un_neg (ha X on Wx tk)) fun σ H Q q => by
    obtain ⟨B, F, θ, w, ρ, hx, fr, po⟩ := q
    refine ⟨B, F, θ, w, ρ, hx, fr, (Po.bd (m := ma ρ) (f := fun x => (match x with
      | .int i => M.ret (Rv.v (.int (-i)))
      | _ => fun _ => .bad)) po).imp fun d F1 θ1 w1 H1 s1 hl1 p1 v r => ?_⟩
    cases r with
    | int i => exact ⟨i, rfl, p1 F1 θ1 H1 Step.refl hl1 _ (.int _)⟩
    | _ => exact p1.elim

/-! ### tests -/
theorem jt_and {a : Expr} {es : List Expr} {ma mb : Env → M Bool} {pos : Pos} (ha : JT C a ma) (hb : ∀ X, On C X → ∀ Wx, Takes X Wx → PW X (.BoolOp .And es pos) (tT X.K C.T C.xi mb Wx)) (he : es ≠ []) :
    ∀ X, On C X → ∀ Wx, Takes X Wx → PW X (.BoolOp .And (a :: es) pos) (tT X.K C.T C.xi (fun ρ => (ma ρ).bd fun x => if x then mb ρ else M.ret false) Wx) := fun X on Wx tk => by
  cases es with
  | nil => exact absurd rfl he
  | cons b rest =>
    refine imW (pw_and (ha X on Wx tk) (hb X on Wx tk)) fun σ H Q q => ?_
    obtain ⟨B, F, θ, w, ρ, hx, fr, po⟩ := q
    refine ⟨B, F, θ, w, ρ, hx, fr, (Po.bd (f := fun x => if x = true then mb ρ else M.ret false) po).imp fun c F1 θ1 w1 H1 s1 hl1 p1 => ?_⟩
    cases c with
    | true =>
      show (if true = true then tT X.K C.T C.xi mb Wx σ H1 Q else Q false H1)
      exact iteT ⟨B, F1, θ1, w1, ρ, hx, fr.step s1 hl1, p1⟩
    | false =>
      show (if false = true then tT X.K C.T C.xi mb Wx σ H1 Q else Q false H1)
      exact iteF (p1 F1 θ1 H1 Step.refl hl1)
theorem jt_or {a : Expr} {es : List Expr} {ma mb : Env → M Bool} {pos : Pos} (ha : JT C a ma) (hb : ∀ X, On C X → ∀ Wx, Takes X Wx → PW X (.BoolOp .Or es pos) (tT X.K C.T C.xi mb Wx)) (he : es ≠ []) :
    ∀ X, On C X → ∀ Wx, Takes X Wx → PW X (.BoolOp .Or (a :: es) pos) (tT X.K C.T C.xi (fun ρ => (ma ρ).bd fun x => if x then M.ret true else mb ρ) Wx) := fun X on Wx tk => by
  cases es with
  | nil => exact absurd rfl he
  | cons b rest =>
    refine imW (pw_or (ha X on Wx tk) (hb X on Wx tk)) fun σ H Q q => ?_
    obtain ⟨B, F, θ, w, ρ, hx, fr, po⟩ := q
    refine ⟨B, F, θ, w, ρ, hx, fr, (Po.bd (f := fun x => if x = true then M.ret true else mb ρ) po).imp fun c F1 θ1 w1 H1 s1 hl1 p1 => ?_⟩
    cases c with
    | true =>
      show (if true = true then Q true H1 else tT X.K C.T C.xi mb Wx σ H1 Q)
      exact iteT (p1 F1 θ1 H1 Step.refl hl1)
    | false =>
      show (if false = true then Q true H1 else tT X.K C.T C.xi mb Wx σ H1 Q)
      exact iteF ⟨B, F1, θ1, w1, ρ, hx, fr.step s1 hl1, p1⟩
theorem jt_not {a : Expr} {ma : Env → M Bool} {pos : Pos} (ha : JT C a ma) : JT C (.UnaryOp .Not a pos) (fun ρ => (ma ρ).bd fun b => M.ret (!b)) := fun X on Wx tk =>
  imT (pt_not (ha X on Wx tk)) fun σ H Q q => by
    obtain ⟨B, F, θ, w, ρ, hx, fr, po⟩ := q
    exact ⟨B, F, θ, w, ρ, hx, fr, (Po.bd (f := fun b => M.ret (!b)) po).imp fun c F1 θ1 w1 H1 s1 hl1 p1 => p1 F1 θ1 H1 Step.refl hl1⟩
/-- truth of a value that is read at once -/
theorem jt_tru {a : Expr} {ma : Env → M D} (ha : JB C a ma) (he : ∀ (env : PySem.Env) (whole : Sem Value), PySem.isTrue a env whole = (do let v ← whole; standAt a.pos; holding [v] (truthy v))) :
    JT C a (fun ρ => (ma ρ).bd fun x w => (match truth (deref w x) with
      | some b => .ok b w
      | none => .bad)) := fun X on Wx tk =>
  imT (pt_truth (ha X on Wx tk) (he X.env)) fun σ H Q q => by
    obtain ⟨B, F, θ, w, ρ, hx, fr, po⟩ := q
    refine ⟨B, F, θ, w, ρ, hx, fr, (Po.bd (f := fun x w => (match truth (deref w x) with
      | some b => .ok b w
      | none => .bad)) po).imp fun d F1 θ1 w1 H1 s1 hl1 p1 v src => ?_⟩
    cases e : truth (deref w1 d) with
    | none => rw [e] at p1; exact p1.elim
    | some b =>
      rw [e] at p1
      exact ⟨b, tru_of hl1 (src.drf hl1) e, p1 F1 θ1 H1 Step.refl hl1⟩

/-! ### lists of arguments, displays -/
theorem ja_nil : JA C [] (fun _ => M.ret []) := fun X on Wx tk => imA pa_nil fun σ H Q q => by
  obtain ⟨B, F, θ, w, ρ, hx, fr, po⟩ := q
  exact po F θ H Step.refl fr.hl [] .nil
def NoSt (e : Expr) : Prop := ∀ (es : List Expr) (env : PySem.Env), starEach (e :: es) env = (false, eval e env) :: starEach es env
theorem ja_cons {e : Expr} {es : List Expr} {m : Env → M D} {ms : Env → M (List D)} (hs : NoSt e) (h : JD C e m) (hr : JA C es ms) : JA C (e :: es) (fun ρ => (m ρ).bd fun x => (ms ρ).bd fun xs => M.ret (x :: xs)) := fun X on Wx tk =>
  imA (pa_cons (h X on Wx tk) (hr X on Wx tk) (hs es X.env)) fun σ H Q q => by
    obtain ⟨B, F, θ, w, ρ, hx, fr, po⟩ := q
    refine ⟨B, F, θ, w, ρ, hx, fr, (Po.bd (f := fun x => (ms ρ).bd fun xs => M.ret (x :: xs)) po).imp fun d F1 θ1 w1 H1 s1 hl1 p1 v r => ?_⟩
    refine ⟨B, F1, θ1, w1, ρ, hx, fr.step s1 hl1, (Po.bd (f := fun xs => M.ret (d :: xs)) p1).imp fun ds F2 θ2 w2 H2 s2 hl2 p2 vs rs => ?_⟩
    exact p2 F2 θ2 H2 Step.refl hl2 _ (.cons (r.mono s2.grow) rs)
theorem jab_nil : JAb C [] (fun _ => M.ret []) := fun X on Wx tk => imA pa_nil fun σ H Q q => by
  obtain ⟨B, F, θ, w, ρ, hx, fr, po⟩ := q
  exact po F θ H Step.refl fr.hl [] .nil
theorem jab_cons {e : Expr} {es : List Expr} {m : Env → M D} {ms : Env → M (List D)} (hs : NoSt e) (h : JB C e m) (hr : JAb C es ms) : JAb C (e :: es) (fun ρ => (m ρ).bd fun x => (ms ρ).bd fun xs => M.ret (x :: xs)) := fun X on Wx tk =>
  imA (pa_cons (h X on Wx tk) (hr X on Wx tk) (hs es X.env)) fun σ H Q q => by
    obtain ⟨B, F, θ, w, ρ, hx, fr, po⟩ := q
    refine ⟨B, F, θ, w, ρ, hx, fr, (Po.bd (f := fun x => (ms ρ).bd fun xs => M.ret (x :: xs)) po).imp fun d F1 θ1 w1 H1 s1 hl1 p1 v r => ?_⟩
    refine ⟨B, F1, θ1, w1, ρ, hx, fr.step s1 hl1, (Po.bd (f := fun xs => M.ret (d :: xs)) p1).imp fun ds F2 θ2 w2 H2 s2 hl2 p2 vs rs => ?_⟩
    exact p2 F2 θ2 H2 Step.refl hl2 _ (.cons (r.step hl1 s2) rs)
theorem small100 {n : Nat} (h : n ≤ 100) : n ≤ sizeLine := Nat.le_trans h (by decide)
theorem je_tup {es : List Expr} {x1 : Nat} {pos : Pos} {ms : Env → M (List D)} (h : JA C es ms) : JE C (.Tuple es x1 pos) (fun ρ => (ms ρ).bd fun ds => if ds.length ≤ 100 then M.ret (.v (.tup ds)) else fun _ => .bad) := fun X on Wx tk =>
  imE (pe_tup (h X on Wx tk)) fun σ H Q q => by
    obtain ⟨B, F, θ, w, ρ, hx, fr, po⟩ := q
    refine ⟨B, F, θ, w, ρ, hx, fr, (Po.bd (m := ms ρ) (f := fun ds => if ds.length ≤ 100 then M.ret (Rv.v (.tup ds)) else fun _ => .bad) po).imp fun ds F1 θ1 w1 H1 s1 hl1 p1 vs rs => ?_⟩
    by_cases hz : ds.length ≤ 100
    · simp only [if_pos hz] at p1
      refine ⟨by rw [rs.length]; exact small100 hz, Okr.newT hl1 (fun F' θ' H' s hl => (p1 F' θ' H' s hl).back s1) rs⟩
    · simp only [if_neg hz] at p1
      exact p1.elim
theorem je_lst {es : List Expr} {pos : Pos} {ms : Env → M (List D)} (h : JA C es ms) : JE C (.List es pos) (fun ρ => (ms ρ).bd fun ds => if ds.length ≤ 100 then M.ret (.o (.lst ds)) else fun _ => .bad) := fun X on Wx tk =>
  imE (pe_lst (h X on Wx tk)) fun σ H Q q => by
    obtain ⟨B, F, θ, w, ρ, hx, fr, po⟩ := q
    refine ⟨B, F, θ, w, ρ, hx, fr, (Po.bd (m := ms ρ) (f := fun ds => if ds.length ≤ 100 then M.ret (Rv.o (.lst ds)) else fun _ => .bad) po).imp fun ds F1 θ1 w1 H1 s1 hl1 p1 vs rs => ?_⟩
    by_cases hz : ds.length ≤ 100
    · simp only [if_pos hz] at p1
      refine ⟨by rw [rs.length]; exact small100 hz, Okr.newL hl1 (fun F' θ' H' s hl => (p1 F' θ' H' s hl).back s1) rs⟩
    · simp only [if_neg hz] at p1
      exact p1.elim
theorem je_dct0 {pos : Pos} : JE C (.Dict [] [] pos) (fun _ => M.ret (.o (.dct []))) := fun X on Wx tk =>
  imE pe_dnewK fun σ H Q q => by
    obtain ⟨B, F, θ, w, ρ, hx, fr, po⟩ := q
    intro p hp
    have hl := fr.hl
    exact po F θ _ (Step.lay hp) (hl.lay hp) p (hl.fnone hp) (hl.tnone hp) ⟨hp, fun C dx gs e => by rw [upd_same] at e; cases e⟩ ⟨[], upd_same, .nil⟩
end
end My

set_option Elab.async false
set_option linter.all false
set_option maxRecDepth 100000
set_option maxHeartbeats 4000000
/-! Mini9: subscripts, fields, calls. -/
namespace My
open PySem L2

section
variable {K : PySem.W.Frag} {T : Tb} {F F' H H' : Hp} {θ θ' : List Addr} {w w' : Wd} {σ : St} {ρ : Env} {v : V} {d : D} {vs : List V} {ds : List D}
theorem ixI_eq (n : Nat) (i : Int) : ixI n i = ixN n i := rfl
theorem Reps.nth {i : Int} (r : Reps K T F θ vs ds) (h : nth ds i = some d) : ∃ v, atI vs i = some v ∧ Rep K T F θ v d := by
  unfold My.nth at h
  rw [ixI_eq] at h
  unfold atI
  rw [r.length]
  cases e : ixN ds.length i with
  | none => rw [e] at h; cases h
  | some j =>
    rw [e] at h
    exact r.get h
theorem nthS {s : List Nat} {i : Int} {c : Nat} (h : nth s i = some c) : atI (S8 s).cps.toList i = some c := by
  rw [S8_cps]
  exact h
theorem okS_at {s : List Nat} {i : Int} {c : Nat} (o : okS s) (h : nth s i = some c) : okS [c] := by
  unfold nth at h
  cases e : ixI s.length i with
  | none => rw [e] at h; cases h
  | some j =>
    rw [e] at h
    have m := List.mem_of_getElem? (show s[j]? = some c from h)
    exact ⟨fun x hx => by rw [List.mem_singleton.mp hx]; exact o.1 c m, by show 1 ≤ lim; decide⟩
theorem okS_one {c : Nat} {s : List Nat} (o : okS s) (m : c ∈ s) : okS [c] := ⟨fun x hx => by rw [List.mem_singleton.mp hx]; exact o.1 c m, by show 1 ≤ lim; decide⟩
/-- a subscript on what the evaluator knows -/
def rIdD (K : PySem.W.Frag) (T : Tb) : R2 := fun x y H Q => ∃ F θ w d e r, Hl K T F θ w H ∧ Drf K T F θ H x d ∧ Drf K T F θ H y e ∧ dIdx d e = some r ∧ ∀ v, Rep K T F θ v r → Q v H
theorem ix_D {X : Cx} {T : Tb} {k : Nat} (hr : Room k X.A) : IxR X (rIdD X.K T) := by
  intro value slice pins s σ H x y v u Q I rx ry h hs
  obtain ⟨F, θ, w, d, e, r, hl, hd, he, ho, ok⟩ := h
  have hu : X.A.units + 200 < cLine := by have := hr.un; omega
  cases d with
  | lst ds =>
    cases e <;> first | (simp [dIdx] at ho; done) | skip
    obtain rfl := he.int
    obtain ⟨a, vs, rfl, h1, rs⟩ := hd.lst hl
    obtain ⟨z, hz, rz⟩ := rs.nth ho
    exact ix_list value slice pins s σ H _ _ v u Q I rx ry ⟨a, vs, _, z, rfl, rfl, .inl h1, hz, ok z rz⟩ hs
  | tup ds =>
    cases e <;> first | (simp [dIdx] at ho; done) | skip
    obtain rfl := he.int
    obtain ⟨a, vs, rfl, h1, rs⟩ := hd.tup hl
    obtain ⟨z, hz, rz⟩ := rs.nth ho
    exact ix_tup value slice pins s σ H _ _ v u Q I rx ry ⟨a, vs, _, z, rfl, rfl, h1, hz, ok z rz⟩ hs
  | str z =>
    cases e <;> first | (simp [dIdx] at ho; done) | skip
    obtain rfl := he.int
    obtain ⟨rfl, o⟩ := hd.str
    simp only [dIdx, Option.map_eq_some_iff] at ho
    obtain ⟨c, hc, rfl⟩ := ho
    exact ix_str value slice pins s σ H _ _ v u Q I rx ry ⟨S8 z, _, c, rfl, rfl, by rw [S8_length, ← lim_size]; exact o.2, nthS hc, ok _ (.str [c] (okS_at o hc))⟩ hs
  | dct kvs =>
    have ho' : (if keyOk e = true then lookD kvs e else none) = some r := by cases e <;> exact ho
    split at ho'
    · rename_i hk
      obtain ⟨a, ks, rfl, h1, rk⟩ := hd.dct hl
      obtain ⟨k, rfl, rfl⟩ := key_of he hk
      rcases rk.look k with ⟨e1, _⟩ | ⟨z, d, e1, e2, rz⟩
      · rw [e1] at ho'; cases ho'
      · rw [e1] at ho'
        cases ho'
        have g : DGet H a (kV k) (some z) := .inl ⟨ks, k, h1, rfl, e2.symm⟩
        obtain rfl : v = Value.ref a := rx
        exact PyProof.Rows.tail_any (dict_typeIs I g) slot_dict_getitem.lookup (d_getItem (by omega) I g ry fun w' s3 I3 rw' => ⟨z, H, I3, rw', ok z rz⟩) hs
    · cases ho'
  | _ => cases e <;> simp [dIdx] at ho
theorem sIx_eq (n d : Nat) (o : Option Int) : HT.sIx n d o = sIx n d o := by cases o <;> rfl
theorem cut_reps (r : Reps K T F θ vs ds) (lo hi : Option Int) : Reps K T F θ (cutV vs lo hi) (cut ds lo hi) := by
  unfold cutV cut
  rw [sIx_eq, sIx_eq, r.length]
  exact (r.drop _).take _
theorem cut_len {α : Type} (xs : List α) (lo hi : Option Int) : (cut xs lo hi).length ≤ xs.length := by
  unfold cut
  exact Nat.le_trans (List.length_take_le' _ _) (by rw [List.length_drop]; exact Nat.sub_le _ _)
theorem cut_mem {α : Type} {xs : List α} {lo hi : Option Int} {x : α} (h : x ∈ cut xs lo hi) : x ∈ xs := List.mem_of_mem_drop (List.mem_of_mem_take h)
def rSlD (K : PySem.W.Frag) (T : Tb) : V → Option Int → Option Int → Hp → VK → Prop := fun x lo hi H Q => ∃ F θ w d r, Hl K T F θ w H ∧ Drf K T F θ H x d ∧ dCut d lo hi = some r ∧ Okr K T F θ H w r Q
theorem sl_D {X : Cx} {T : Tb} : SlR X (rSlD X.K T) := by
  intro pins s σ H x v vl vu lo hi sl Q I rx hsl h1 h2 h
  obtain ⟨F, θ, w, d, r, hl, hd, ho, ok⟩ := h
  cases d with
  | lst ds =>
    cases ho
    obtain ⟨a, vs, rfl, h3, rs⟩ := hd.lst hl
    exact sl_list pins s σ H _ v vl vu lo hi sl Q I rx hsl h1 h2 ⟨a, vs, rfl, .inl h3, ok.newL hl (cut_reps rs lo hi)⟩
  | tup ds =>
    cases ho
    obtain ⟨a, vs, rfl, h3, rs⟩ := hd.tup hl
    refine sl_tupA pins s σ H _ v vl vu lo hi sl Q I rx hsl h1 h2 ⟨a, vs, rfl, h3, fun z => ?_, fun _ => ok.newT hl (cut_reps rs lo hi)⟩
    have e : cut ds lo hi = ds := by
      unfold cut
      rw [← sIx_eq, ← sIx_eq, ← rs.length, z.1, z.2, List.drop_zero, Nat.sub_zero, rs.length]
      exact List.take_length
    exact ok.val hl (by rw [e]; exact hd.rep (fun o => by cases o <;> (intro z; cases z)))
  | str z =>
    cases ho
    obtain ⟨rfl, o⟩ := hd.str
    refine sl_str pins s σ H _ v vl vu lo hi sl Q I rx hsl h1 h2 ⟨S8 z, rfl, by rw [S8_length, ← lim_size]; exact o.2, ?_⟩
    have e : cutS (S8 z) lo hi = S8 (cut z lo hi) := by
      unfold cutS cut
      rw [S8_cps, S8_length, sIx_eq, sIx_eq]
    rw [e]
    exact ok.val hl (.str _ ⟨fun c m => o.1 c (cut_mem m), Nat.le_trans (cut_len _ _ _) o.2⟩)
  | _ => cases ho
end

section
variable {C : Ctx}
def PlIx (b : Expr) : Prop := PlainIx b
theorem je_idx (hcm : C.cm = true) {a b : Expr} {ma mb : Env → M D} {pos : Pos} (hs : PlainIx b) (ha : JB C a ma) (hb : JD C b mb) :
    JE C (.Subscript a b pos) (fun ρ => (ma ρ).bd fun x => (mb ρ).bd fun y w => vl (dIdx (deref w x) y) w) := fun X on Wx tk =>
  imE (pe_ix (ix_D (T := C.T) (on.hr hcm)) (ha X on Wx tk) (hb X on Wx tk) hs) fun σ H Q q => by
    obtain ⟨B, F, θ, w, ρ, hx, fr, po⟩ := q
    refine ⟨B, F, θ, w, ρ, hx, fr, (Po.bd (f := fun x => (mb ρ).bd fun y w => vl (dIdx (deref w x) y) w) po).imp fun d1 F1 θ1 w1 H1 s1 hl1 p1 v1 src1 => ?_⟩
    refine ⟨B, F1, θ1, w1, ρ, hx, fr.step s1 hl1, (Po.bd (f := fun y w => vl (dIdx (deref w d1) y) w) p1).imp fun d2 F2 θ2 w2 H2 s2 hl2 p2 v2 r2 => ?_⟩
    unfold vl M.opt at p2
    cases e : dIdx (deref w2 d1) d2 with
    | none => rw [e] at p2; exact p2.elim
    | some z =>
      rw [e] at p2
      exact ⟨F2, θ2, w2, _, _, z, hl2, (src1.step hl1 s2).drf hl2, .inl r2, e, fun v r => p2 F2 θ2 H2 Step.refl hl2 v r⟩
def JO (C : Ctx) (e : Option Expr) (m : Env → M (Option Int)) : Prop := ∀ X, On C X → ∀ Wx, Takes X Wx → PO X e (fun σ H Q => Tr X.K C.T C.xi m (fun _ o F' θ' _ H' => Q o H') Wx σ H)
theorem jo_no : JO C none (fun _ => M.ret none) := fun X on Wx tk => by
  refine ⟨fun pins s σ H Q I q => ?_⟩
  obtain ⟨B, F, θ, w, ρ, hx, fr, po⟩ := q
  exact po_none.run pins s σ H Q I (po F θ H Step.refl fr.hl)
theorem jo_so {e : Expr} {m : Env → M D} (h : JD C e m) : JO C (some e) (fun ρ => (m ρ).bd fun x => (match x with
    | .int i => M.ret (some i)
    | _ => fun _ => .bad)) := fun X on Wx tk => by
  refine ⟨fun pins s σ H Q I q => (po_some (h X on Wx tk)).run pins s σ H Q I ?_⟩
  obtain ⟨B, F, θ, w, ρ, hx, fr, po⟩ := q
  refine ⟨B, F, θ, w, ρ, hx, fr, (Po.bd (m := m ρ) (f := fun x => (match x with
    | .int i => M.ret (some i)
    | _ => fun _ => R.bad)) po).imp fun d F1 θ1 w1 H1 s1 hl1 p1 v r => ?_⟩
  cases r with
  | int i => exact ⟨i, rfl, p1 F1 θ1 H1 Step.refl hl1⟩
  | _ => exact p1.elim
theorem je_slc {a : Expr} {lo hi : Option Expr} {ma : Env → M D} {ml mh : Env → M (Option Int)} {pos p2 : Pos} (ha : JB C a ma) (hl : JO C lo ml) (hh : JO C hi mh) :
    JE C (.Subscript a (.Slice lo hi none p2) pos) (fun ρ => (ma ρ).bd fun x => (ml ρ).bd fun i => (mh ρ).bd fun j w => rv (dCut (deref w x) i j) w) := fun X on Wx tk =>
  imE (pe_slice (sl_D (T := C.T)) (ha X on Wx tk) (hl X on Wx tk) (hh X on Wx tk)) fun σ H Q q => by
    obtain ⟨B, F, θ, w, ρ, hx, fr, po⟩ := q
    refine ⟨B, F, θ, w, ρ, hx, fr, (Po.bd (f := fun x => (ml ρ).bd fun i => (mh ρ).bd fun j w => rv (dCut (deref w x) i j) w) po).imp fun d1 F1 θ1 w1 H1 s1 hl1 p1 v1 src1 => ?_⟩
    refine ⟨B, F1, θ1, w1, ρ, hx, fr.step s1 hl1, (Po.bd (f := fun i => (mh ρ).bd fun j w => rv (dCut (deref w d1) i j) w) p1).imp fun i F2 θ2 w2 H2 s2 hl2 p2 => ?_⟩
    refine ⟨B, F2, θ2, w2, ρ, hx, (fr.step s1 hl1).step s2 hl2, (Po.bd (f := fun j w => rv (dCut (deref w d1) i j) w) p2).imp fun j F3 θ3 w3 H3 s3 hl3 p3 => ?_⟩
    unfold rv M.opt at p3
    cases e : dCut (deref w3 d1) i j with
    | none => rw [e] at p3; exact p3.elim
    | some z =>
      rw [e] at p3
      exact ⟨F3, θ3, w3, _, z, hl3, ((src1.step hl1 s2).step hl2 s3).drf hl3, e, fun F' θ' H' s hl => (p3 F' θ' H' s hl).back ((s1.trans s2).trans s3)⟩
/-- a subscript of a dict of the module -/
theorem je_gix {x : Nat} {b : Expr} {mb : Env → M D} {pos p1 : Pos} (ho : C.okD x = true) (hs : PlainIx b) (hg : C.sc.names.lookup (C.gdn x) = some .globalImplicit) (hdb : (C.gdn x == ("__debug__" : Str)) = false) (hne : ∃ k d, lookD (C.G.gd x) k = some d) (hb : JD C b mb) :
    JE C (.Subscript (.Name (C.gdn x) p1) b pos) (fun ρ => (mb ρ).bd fun k => vl (lookD (C.G.gd x) k)) := fun X on Wx tk => by
  have hG : Gl X (C.gdn x) := by show X.env.scope.names.lookup _ = _; rw [on.sc]; exact hg
  obtain ⟨k0, d0, h0⟩ := hne
  obtain ⟨_, p, _, _, hp, _, _⟩ := on.gd x k0 d0 ho h0
  refine imE (pe_ix ix_kdict (pe_glob (v := .ref p) hG hp rfl hdb) (hb X on Wx tk) hs) fun σ H Q q => ?_
  obtain ⟨B, F, θ, w, ρ, hx, fr, po⟩ := q
  refine ⟨B, F, θ, w, ρ, hx, fr, (Po.bd (m := mb ρ) (f := fun k => vl (lookD (C.G.gd x) k)) po).imp fun d1 F1 θ1 w1 H1 s1 hl1 p1 v1 r1 => ?_⟩
  unfold vl M.opt at p1
  cases e : lookD (C.G.gd x) d1 with
  | none => rw [e] at p1; exact p1.elim
  | some z =>
    rw [e] at p1
    obtain ⟨s, p', v, rfl, hp', hk, rr⟩ := on.gd x d1 z ho e
    rw [hp] at hp'
    cases hp'
    cases r1 with
    | str _ o => exact ⟨p, S8 s, v, rfl, rfl, hk, p1 F1 θ1 H1 Step.refl hl1 v (rr F1 θ1)⟩

/-! ### fields -/
theorem RepF.look {K : PySem.W.Frag} {T : Tb} {F : Hp} {θ : List Addr} (f : Nat) : ∀ {gs : List (Str × V)} {fs : List (Nat × D)}, RepF K T F θ gs fs →
    (lookF fs f = none ∧ gs.lookup (T.fl f) = none) ∨ ∃ v d, lookF fs f = some d ∧ gs.lookup (T.fl f) = some v ∧ Rep K T F θ v d
  | _, _, .nil => .inl ⟨rfl, rfl⟩
  | _, _, .cons (f := g) (v := v) (gs := gs) (d := d) (fs := fs) r t => by
    unfold lookF
    rw [List.lookup_cons]
    by_cases h : g = f
    · subst h
      simp only [beq_self_eq_true, if_true]
      exact .inr ⟨v, d, rfl, rfl, r⟩
    · have h2 : ¬ T.fl f = T.fl g := fun z => h (T.flI _ _ z.symm)
      have h3 : (g == f) = false := beq_eq_false_iff_ne.mpr h
      have h4 : (T.fl f == T.fl g) = false := beq_eq_false_iff_ne.mpr h2
      simp only [h3, h4, Bool.false_eq_true, if_false]
      exact RepF.look f t
theorem fld_at {K : PySem.W.Frag} {T : Tb} {F H : Hp} {θ : List Addr} {w : Wd} {v : V} {x d : D} {c f : Nat} (hl : Hl K T F θ w H) (h : Src K T F θ H v x) (e : fldOf w c f x = some d) :
    ∃ a dx gs u, v = .ref a ∧ H a = some (.ins (T.cl c) dx gs) ∧ gs.lookup (T.fl f) = some u ∧ Rep K T F θ u d := by
  rcases h with h | ⟨p, o, rfl, rfl, n, q⟩
  · cases h with
    | ins h1 h2 h3 h4 =>
      simp only [fldOf] at e
      split at e
      · rename_i hc
        subst hc
        rcases h4.look f with ⟨e1, _⟩ | ⟨u, d', e1, e2, r⟩
        · rw [e1] at e; cases e
        · rw [e1] at e; cases e
          exact ⟨_, _, _, u, rfl, h1 ▸ hl.fh.ex (fun _ z => by cases z) h2, e2, r⟩
      · cases e
    | ref h1 =>
      rename_i a n
      simp only [fldOf] at e
      cases z : w[n]? with
      | none => rw [z] at e; cases e
      | some o =>
        rw [z] at e
        obtain ⟨a', ha, q⟩ := hl.ob n o z
        rw [h1] at ha; cases ha
        cases o with
        | ins c' fs =>
          obtain ⟨C, dx, gs, hc, h2, h3, h4⟩ := q
          dsimp only at e
          split at e
          · rename_i hc'
            subst hc'
            rcases h4.look f with ⟨e1, _⟩ | ⟨u, d', e1, e2, r⟩
            · rw [e1] at e; cases e
            · rw [e1] at e; cases e
              exact ⟨_, _, _, u, rfl, hc ▸ h2, e2, r⟩
          · cases e
        | _ => cases e
    | _ => cases e
  · cases o with
    | ins c' fs =>
      obtain ⟨C, dx, gs, hc, h2, h3, h4⟩ := q
      simp only [fldOf, Own.frz] at e
      split at e
      · rename_i hc'
        subst hc'
        rcases h4.look f with ⟨e1, _⟩ | ⟨u, d', e1, e2, r⟩
        · rw [e1] at e; cases e
        · rw [e1] at e; cases e
          exact ⟨_, _, _, u, rfl, hc ▸ h2, e2, r⟩
      · cases e
    | _ => cases e
theorem je_fld {c f : Nat} {a : Expr} {ma : Env → M D} {pos : Pos} (hb : ∀ env, attributeBase a (C.T.fl f) env (eval a env) = eval a env) (hA : C.okA c f = true) (ha : JB C a ma) :
    JE C (.Attribute a (C.T.fl f) pos) (fun ρ => (ma ρ).bd fun x w => vl (fldOf w c f x) w) := fun X on Wx tk =>
  imE (pe_fld (ha X on Wx tk) (hb X.env)) fun σ H Q q => by
    obtain ⟨B, F, θ, w, ρ, hx, fr, po⟩ := q
    obtain ⟨c1, c2⟩ := on.at_ c f hA
    refine ⟨B, F, θ, w, ρ, hx, fr, (Po.bd (m := ma ρ) (f := fun x w => vl (fldOf w c f x) w) po).imp fun d1 F1 θ1 w1 H1 s1 hl1 p1 v1 src => ?_⟩
    unfold vl M.opt at p1
    cases e : fldOf w1 c f d1 with
    | none => rw [e] at p1; exact p1.elim
    | some z =>
      rw [e] at p1
      obtain ⟨p, dx, gs, u, rfl, h2, h3, r⟩ := fld_at hl1 src e
      exact ⟨p, _, dx, gs, u, rfl, h2, c1, c2, h3, p1 F1 θ1 H1 Step.refl hl1 u r⟩
end
end My

set_option Elab.async false
set_option linter.all false
set_option maxRecDepth 100000
set_option maxHeartbeats 4000000
/-! Mini10: calls of defs, methods, classes. -/
namespace My
open PySem L2

section
variable {X : Cx} {k : Nat} {f Ca : Addr} {fd : FuncData} {ps : List Str} {sp : Sp} {dvs : List V} {ds : List Value} {Wx : WX} {x m : Str} {p pos apos : Pos} {e o : Expr} {es : List Expr} {t : TA} {ta : TE}
/-- what a call's arguments must look like -/
def NoStL (es : List Expr) : Prop := ∀ (env : PySem.Env) (pos : Pos), (backTo pos (starEach es env)).any (·.1) = false
theorem nostl_nil : NoStL [] := fun _ _ => rfl
theorem nostl_cons (h : NoSt e) (r : NoStL es) : NoStL (e :: es) := fun env pos => by
  rw [h es env]
  show ((false, _) :: backTo pos (starEach es env)).any (·.1) = false
  rw [List.any_cons, r env pos]
  rfl
/-- f() without arguments, what is raised wished for at the slots -/
theorem pe_call0W (hF : FnOk X.prog X.w X.K X.mg X.base (CX X.prog X.w) k f fd ps sp) (room : Room k X.A) (glob : Gl X x) (at_ : X.mg x = some (.ref f)) (kept : PySem.W.keepIn X.K (.ref f) = true) (bnd : Binds X.K fd ps ds) (dv : Vals dvs ds) (takes : Takes X Wx)
    (nd : (x == ("__debug__" : Str)) = false) : PE X (.Call (.Name x p) [] [] pos) (tCallSD sp dvs (WE Wx) tNil) := by
  constructor
  intro pins s σ H Q I hq
  exact wpAny_Call_Name_kw (ld_glob I glob at_ (PySem.W.callWith_K0 I.kIn kept (run_fnSD (us := []) hF room bnd dv (passAt takes σ) I .nil hq)) nd)
def MethCall (o : Expr) (m : Str) (es : List Expr) (apos pos : Pos) : Prop := ∀ (env : PySem.Env), ∃ pl : Sem Bool, eval (.Call (.Attribute o m apos) es [] pos) env = (do
      let ov ← eval o env
      standAt apos.atName
      let (f, first) ← holding [ov] (getMethod ov m pl)
      callWith pos f first (backTo pos (starEach es env)) (backToKw pos (keywordEach [] env)))
theorem methCall_of {apos : Pos} (ho : ∀ env, attributeBase o m env (eval o env) = eval o env) (nl : NoStL es) (hl : es.length < 29) (hp : (apos.endLine == pos.line) = true) : MethCall o m es apos pos := fun env => by
  have hform : methodCallForm (es.length + ([] : List Keyword).length) (backTo pos (starEach es env)) (backToKw pos (keywordEach [] env)) = true := by
    unfold methodCallForm
    have h1 : (backTo pos (starEach es env)).all (fun x => !x.1) = true := by
      have := nl env pos
      rw [List.all_eq_not_any_not]
      simp only [Bool.not_not]
      rw [this]
      rfl
    rw [h1]
    show (true && true && decide (es.length + 0 + 0 < 30)) = true
    simp; omega
  have hpos : methodCallPos true o env apos pos = pure pos := by unfold methodCallPos; simp [hp]
  have hq : eval (.Call (.Attribute o m apos) es [] pos) env = (do
    let ov ← attributeBase o m env (eval o env)
    standAt apos.atName
    methodCall o m apos pos env ov (es.length + ([] : List Keyword).length) (backTo pos (starEach es env)) (backToKw pos (keywordEach [] env))) := rfl
  refine ⟨(do return (← importBound o env).getD true), ?_⟩
  rw [hq, ho env]
  unfold methodCall
  rw [hform, hpos]
  rfl
theorem pe_methW {c : Addr} (ho : PE X o ta) (cls : Cls X.K c) (mth : Meth X.K c m f) (hF : FnOk X.prog X.w X.K X.mg X.base (CX X.prog X.w) k f fd ps sp) (room : Room k X.A) (bnd : Binds X.K fd ps ds) (dv : Vals dvs ds) (takes : Takes X Wx) (args : PA X (e :: es) t)
    (ns : NoSt e) (nl : NoStL es) (mc : MethCall o m (e :: es) apos pos) :
    PE X (.Call (.Attribute o m apos) (e :: es) [] pos) (fun σ H Q => ta σ H fun x H1 => ∃ a dx fs, x = .ref a ∧ H1 a = some (.ins c dx fs) ∧ fs.lookup m = none ∧ t σ H1 fun vs H2 => sp (x :: (vs ++ dvs)) H2 Q (WE Wx σ)) := by
  constructor
  intro pins s σ H Q I hq
  obtain ⟨pl, ev⟩ := mc X.env
  refine PySem.W.methodCall_KW (pl := pl) (thn (ho.run pins s σ H _ I hq) fun u s1 h1 => ?_) ev
  obtain ⟨x, H1, I1, rx, a, dx, fs, rfl, ea, lk, q⟩ := h1
  obtain rfl : u = Value.ref a := rx
  refine getmeth_ok I1 ea cls mth lk ?_
  refine PySem.W.callWith_K (first := [.ref a]) (h₀ := X.base) I.ok.mod.kin mth.kp (thn (args.run pos pins s1 σ H1 _ I1 q) fun us s2 h2 => ?_) (ns es X.env) (nl X.env pos)
  obtain ⟨vs, H2, I2, r, q2⟩ := h2
  exact ⟨I2.kIn, run_fnSD (us := .ref a :: us) (vs := .ref a :: vs) hF room bnd dv (passAt takes σ) I2 (.cons rfl r) q2⟩
theorem pe_meth0W {c : Addr} (ho : PE X o ta) (cls : Cls X.K c) (mth : Meth X.K c m f) (hF : FnOk X.prog X.w X.K X.mg X.base (CX X.prog X.w) k f fd ps sp) (room : Room k X.A) (bnd : Binds X.K fd ps ds) (dv : Vals dvs ds) (takes : Takes X Wx)
    (mc : MethCall o m [] apos pos) :
    PE X (.Call (.Attribute o m apos) [] [] pos) (fun σ H Q => ta σ H fun x H1 => ∃ a dx fs, x = .ref a ∧ H1 a = some (.ins c dx fs) ∧ fs.lookup m = none ∧ sp (x :: dvs) H1 Q (WE Wx σ)) := by
  constructor
  intro pins s σ H Q I hq
  obtain ⟨pl, ev⟩ := mc X.env
  refine PySem.W.methodCall_KW (pl := pl) (thn (ho.run pins s σ H _ I hq) fun u s1 h1 => ?_) ev
  obtain ⟨x, H1, I1, rx, a, dx, fs, rfl, ea, lk, q⟩ := h1
  obtain rfl : u = Value.ref a := rx
  refine getmeth_ok I1 ea cls mth lk ?_
  exact PySem.W.callWith_K0 (first := [.ref a]) I1.kIn mth.kp (run_fnSD (us := [.ref a]) (vs := [.ref a]) hF room bnd dv (passAt takes σ) I1 (.cons rfl .nil) q)
/-- an instance is made, what is raised wished for at the slots -/
theorem run_makeW {pins : List (Addr × Obj)} {σ : St} {H : Hp} {s : Shared} {Q : VK} {us : List Value} {vs : List V} (mk : Mk X.K Ca f) (hF : FnOk X.prog X.w X.K X.mg X.base (CX X.prog X.w) k f fd ps sp) (room : Room (k + 1) X.A) (bnd : Binds X.K fd ps ds) (dv : Vals dvs ds)
    (takes : Takes X Wx) (I : L2.Inv X pins σ H s) (r : Vals vs us)
    (hq : ∀ x dx, H x = none → H dx = none → dx ≠ x → sp (.ref x :: (vs ++ dvs)) (upd (upd H dx (.own x)) x (.ins Ca dx [])) (fun v H2 => v = .non ∧ Q (.ref x) H2) (WE Wx σ)) :
    wpAny (model X.prog X.w) X.A (call (.ref Ca) us) (EP X pins σ Q) X.xe s := by
  have new := hq (s.heap.objs.size + 1) s.heap.objs.size (I.hok.fresh (Nat.le_succ _)) (I.hok.fresh (Nat.le_refl _)) (Nat.ne_of_lt (Nat.lt_succ_self _))
  have J := Inv.made (C := Ca) I
  have rel : Vals (V.ref (s.heap.objs.size + 1) :: (vs ++ dvs)) (Value.ref (s.heap.objs.size + 1) :: (us ++ ds)) := .cons rfl (r.append dv)
  have len : (Value.ref (s.heap.objs.size + 1) :: us ++ ds).length = ps.length := (rel.length.symm.trans (hF.len _ _ _ _ new))
  have body := hF.run _ X.stack _ _ ⟨Value.ref (s.heap.objs.size + 1) :: us, []⟩ (Value.ref (s.heap.objs.size + 1) :: (us ++ ds)) _ _ (WE Wx σ) (room.make Ca us []) (J.env0.make Ca us []) (bnd _ (Value.ref (s.heap.objs.size + 1) :: us) J.kIn len) rel new
  refine wpAny_call (make_map (f := f) I.kIn mk.makes mk.init (beq_iff_eq.mp mk.fn) (codeAny_mono body fun r s' res => ?_))
  cases r with
  | error e => exact passAt takes σ pins _ _ e s' J res
  | ok fl =>
    cases fl with
    | ret u =>
      obtain ⟨v, H', J3, rv, ev, q3⟩ := J.after res
      subst ev
      exact ⟨rv, V.ref (s.heap.objs.size + 1), H', J3, rfl, q3⟩
    | next => exact res.elim
    | brk => exact res.elim
    | cont => exact res.elim
theorem pe_makeW (mk : Mk X.K Ca f) (hF : FnOk X.prog X.w X.K X.mg X.base (CX X.prog X.w) k f fd ps sp) (room : Room (k + 1) X.A) (glob : Gl X x) (at_ : X.mg x = some (.ref Ca)) (bnd : Binds X.K fd ps ds) (dv : Vals dvs ds) (takes : Takes X Wx)
    (args : PA X (e :: es) t) (nd : (x == ("__debug__" : Str)) = false) (ns : NoSt e) (nl : NoStL es) :
    PE X (.Call (.Name x p) (e :: es) [] pos) (fun σ H Q => t σ H fun vs H1 => ∀ x dx, H1 x = none → H1 dx = none → dx ≠ x → sp (.ref x :: (vs ++ dvs)) (upd (upd H1 dx (.own x)) x (.ins Ca dx [])) (fun v H2 => v = .non ∧ Q (.ref x) H2) (WE Wx σ)) := by
  constructor
  intro pins s σ H Q I hq
  refine wpAny_Call_Name_kw (ld_glob I glob at_ ?_ nd)
  refine PySem.W.callWith_K (h₀ := X.base) I.ok.mod.kin mk.kp (thn (args.run pos pins s σ H _ I hq) fun us s1 h1 => ?_) (ns es X.env) (nl X.env pos)
  obtain ⟨vs, H1, I1, r, q⟩ := h1
  exact ⟨I1.kIn, run_makeW mk hF room bnd dv takes I1 r q⟩
end

section
variable {C : Ctx}
theorem Po.sig {K : PySem.W.Frag} {T : Tb} {F H : Hp} {θ : List Addr} {σ σ' : St} {α : Type} {r : R α} {k : α → Hp → List Addr → Wd → Hp → Prop} {Wx Wx' : WX} (h : Po K T F θ H σ r k Wx) (i : ∀ c d H', Wx c d σ H' → Wx' c d σ' H') : Po K T F θ H σ' r k Wx' := by
  cases r with
  | ok a w => exact h
  | exc c fs w => exact fun F' θ' H' cls od s hl x => i _ _ _ (h F' θ' H' cls od s hl x)
  | bad => exact h
/-- f(a, b, ..) -/
theorem je_call (hcm : C.cm = true) {f : Nat} {n : Nat} {e : Expr} {es : List Expr} {ms : Env → M (List D)} {p pos : Pos} (hg : C.sc.names.lookup (C.fnm f) = some .globalImplicit) (hdb : (C.fnm f == ("__debug__" : Str)) = false) (ok : C.okF f (es.length + 1) = true)
    (ns : NoSt e) (nl : NoStL es) (hn : ∀ ρ w ds w', ms ρ w = .ok ds w' → ds.length = es.length + 1) (ha : JA C (e :: es) ms) : JE C (.Call (.Name (C.fnm f) p) (e :: es) [] pos) (fun ρ => (ms ρ).bd fun ds => C.G.fn f ds) := fun X on Wx tk => by
  have hG : Gl X (C.fnm f) := by show X.env.scope.names.lookup _ = _; rw [on.sc]; exact hg
  obtain ⟨a, fd, ps, ds, dvs, hF, hm, hk, hb, hd⟩ := (on.fn f _ ok).h
  refine imE (pe_callSD hF (on.hr hcm) hG hm hk hb hd (fun σ => passAt tk σ) (ha X on Wx tk) hdb (ns es X.env) (nl X.env pos)) fun σ H Q q => ?_
  obtain ⟨B, F, θ, w, ρ, hx, fr, po⟩ := q
  refine ⟨B, F, θ, w, ρ, hx, fr, ?_⟩
  have p0 := Po.bd (m := ms ρ) (f := fun ds => C.G.fn f ds) po
  cases e0 : ms ρ w with
  | bad => rw [e0] at p0; exact p0.elim
  | exc c fs w' => rw [e0] at p0; exact p0
  | ok xs w1 =>
    rw [e0] at p0
    intro F1 θ1 H1 s1 hl1 vs rs
    have hl := hn ρ w xs w1 e0
    exact ⟨vs, rfl, by rw [rs.length, hl], F1, θ1, w1, xs, hl1, rs, ((p0 F1 θ1 H1 s1 hl1).imp fun r F2 θ2 w2 H2 s2 hl2 p2 => p2.back s1).sig fun c d H' z => z⟩
/-- an instance by its fields' class -/
theorem cls_at {K : PySem.W.Frag} {T : Tb} {F H : Hp} {θ : List Addr} {w : Wd} {v : V} {x : D} {c : Nat} (hl : Hl K T F θ w H) (h : Rep K T F θ v x) (e : isCls w c x = true) :
    ∃ a dx gs fs, v = .ref a ∧ H a = some (.ins (T.cl c) dx gs) ∧ RepF K T F θ gs fs := by
  cases h with
  | ins h1 h2 h3 h4 =>
    simp only [isCls, beq_iff_eq] at e
    subst e
    exact ⟨_, _, _, _, rfl, h1 ▸ hl.fh.ex (fun _ z => by cases z) h2, h4⟩
  | ref h1 =>
    rename_i a n
    simp only [isCls] at e
    cases z : w[n]? with
    | none => rw [z] at e; cases e
    | some o =>
      rw [z] at e
      obtain ⟨a', ha, q⟩ := hl.ob n o z
      rw [h1] at ha; cases ha
      cases o with
      | ins c' fs =>
        obtain ⟨C, dx, gs, hc, h2, h3, h4⟩ := q
        simp only [beq_iff_eq] at e
        subst e
        exact ⟨_, _, _, _, rfl, hc ▸ h2, h4⟩
      | _ => cases e
  | _ => cases e
theorem RepF.names {K : PySem.W.Frag} {T : Tb} {F : Hp} {θ : List Addr} {m : Str} (hm : ∀ f, T.fl f ≠ m) : ∀ {gs : List (Str × V)} {fs : List (Nat × D)}, RepF K T F θ gs fs → gs.lookup m = none
  | _, _, .nil => rfl
  | _, _, .cons (f := f) r t => by
    rw [List.lookup_cons, beq_eq_false_iff_ne.mpr (hm f).symm]
    exact RepF.names hm t
/-- o.m(a, b, ..) of a class of the program -/
theorem je_met (hcm : C.cm = true) {f c m : Nat} {o e : Expr} {es : List Expr} {mo : Env → M D} {ms : Env → M (List D)} {apos pos : Pos} (ok : C.okT f c m (es.length + 1) = true) (hfl : ∀ g, C.T.fl g ≠ C.mnm m)
    (ns : NoSt e) (nl : NoStL es) (mc : MethCall o (C.mnm m) (e :: es) apos pos) (hn : ∀ ρ w ds w', ms ρ w = .ok ds w' → ds.length = es.length + 1) (ho : JD C o mo) (ha : JA C (e :: es) ms) :
    JE C (.Call (.Attribute o (C.mnm m) apos) (e :: es) [] pos) (fun ρ => (mo ρ).bd fun x w => if isCls w c x then ((ms ρ).bd fun ds => C.G.fn f (x :: ds)) w else .bad) := fun X on Wx tk => by
  obtain ⟨a, fd, ps, ds, dvs, hF, hc, hm, hb, hd⟩ := (on.mt f c m _ ok).h
  refine imE (pe_methW (ho X on Wx tk) hc hm hF (on.hr hcm) hb hd tk (ha X on Wx tk) ns nl mc) fun σ H Q q => ?_
  obtain ⟨B, F, θ, w, ρ, hx, fr, po⟩ := q
  refine ⟨B, F, θ, w, ρ, hx, fr, (Po.bd (m := mo ρ) (f := fun x w => if isCls w c x then ((ms ρ).bd fun ds => C.G.fn f (x :: ds)) w else .bad) po).imp fun x F1 θ1 w1 H1 s1 hl1 p1 v r => ?_⟩
  by_cases hz : isCls w1 c x = true
  · simp only [if_pos hz] at p1
    obtain ⟨p, dx, gs, fs, rfl, h2, r4⟩ := cls_at hl1 r hz
    refine ⟨p, dx, gs, rfl, h2, r4.names hfl, B, F1, θ1, w1, ρ, hx, fr.step s1 hl1, ?_⟩
    have p2 := Po.bd (m := ms ρ) (f := fun ds => C.G.fn f (x :: ds)) p1
    cases e0 : ms ρ w1 with
    | bad => rw [e0] at p2; exact p2.elim
    | exc c fs w' => rw [e0] at p2; exact p2
    | ok xs w2 =>
      rw [e0] at p2
      intro F2 θ2 H2 s2 hl2 vs rs
      have hl := hn ρ w1 xs w2 e0
      exact ⟨.ref p :: vs, rfl, by rw [List.length_cons, rs.length, hl], F2, θ2, w2, x :: xs, hl2, .cons (r.mono s2.grow) rs, ((p2 F2 θ2 H2 s2 hl2).imp fun r F3 θ3 w3 H3 s3 hl3 p3 => p3.back (s1.trans s2)).sig fun c d H' z => z⟩
  · simp only [if_neg hz] at p1
    exact p1.elim
theorem je_met0 (hcm : C.cm = true) {f c m : Nat} {o : Expr} {mo : Env → M D} {apos pos : Pos} (ok : C.okT f c m 0 = true) (hfl : ∀ g, C.T.fl g ≠ C.mnm m) (mc : MethCall o (C.mnm m) [] apos pos) (ho : JD C o mo) :
    JE C (.Call (.Attribute o (C.mnm m) apos) [] [] pos) (fun ρ => (mo ρ).bd fun x w => if isCls w c x then ((M.ret []).bd fun ds => C.G.fn f (x :: ds)) w else .bad) := fun X on Wx tk => by
  obtain ⟨a, fd, ps, ds, dvs, hF, hc, hm, hb, hd⟩ := (on.mt f c m _ ok).h
  refine imE (pe_meth0W (ho X on Wx tk) hc hm hF (on.hr hcm) hb hd tk mc) fun σ H Q q => ?_
  obtain ⟨B, F, θ, w, ρ, hx, fr, po⟩ := q
  refine ⟨B, F, θ, w, ρ, hx, fr, (Po.bd (m := mo ρ) (f := fun x w => if isCls w c x then ((M.ret []).bd fun ds => C.G.fn f (x :: ds)) w else .bad) po).imp fun x F1 θ1 w1 H1 s1 hl1 p1 v r => ?_⟩
  by_cases hz : isCls w1 c x = true
  · simp only [if_pos hz] at p1
    obtain ⟨p, dx, gs, fs, rfl, h2, r4⟩ := cls_at hl1 r hz
    exact ⟨p, dx, gs, rfl, h2, r4.names hfl, [.ref p], rfl, rfl, F1, θ1, w1, [x], hl1, .cons r .nil, (show Po _ _ _ _ _ _ (C.G.fn f [x] w1) _ _ from p1).imp (fun r F3 θ3 w3 H3 s3 hl3 p3 => p3.back s1) |>.sig fun c d H' z => z⟩
  · simp only [if_neg hz] at p1
    exact p1.elim
/-- C(a, b, ..) -/
theorem je_mk (hcm : C.cm = true) {f c : Nat} {e : Expr} {es : List Expr} {ms : Env → M (List D)} {p pos : Pos} (hg : C.sc.names.lookup (C.cnm c) = some .globalImplicit) (hdb : (C.cnm c == ("__debug__" : Str)) = false) (ok : C.okM f c (es.length + 1) = true)
    (ns : NoSt e) (nl : NoStL es) (hn : ∀ ρ w ds w', ms ρ w = .ok ds w' → ds.length = es.length + 1) (ha : JA C (e :: es) ms) : JE C (.Call (.Name (C.cnm c) p) (e :: es) [] pos) (fun ρ => (ms ρ).bd fun ds => (C.G.fn f ds).bd onlyO) := fun X on Wx tk => by
  have hG : Gl X (C.cnm c) := by show X.env.scope.names.lookup _ = _; rw [on.sc]; exact hg
  obtain ⟨j, a, fd, ps, ds, dvs, hj, hF, mk, hm, hb, hd⟩ := (on.mkr f c _ ok).h
  refine imE (pe_makeW mk hF (hj ▸ on.hr hcm) hG hm hb hd tk (ha X on Wx tk) hdb ns nl) fun σ H Q q => ?_
  obtain ⟨B, F, θ, w, ρ, hx, fr, po⟩ := q
  refine ⟨B, F, θ, w, ρ, hx, fr, ?_⟩
  have p0 := Po.bd (m := ms ρ) (f := fun ds => (C.G.fn f ds).bd onlyO) po
  cases e0 : ms ρ w with
  | bad => rw [e0] at p0; exact p0.elim
  | exc c fs w' => rw [e0] at p0; exact p0
  | ok xs w1 =>
    rw [e0] at p0
    intro F1 θ1 H1 s1 hl1 vs rs x dx nx ndx ne
    have hl := hn ρ w xs w1 e0
    refine ⟨x, dx, vs, H1, rfl, by rw [rs.length, hl], nx, ndx, ne, rfl, F1, θ1, w1, xs, hl1, rs, ?_⟩
    have pp : Po X.K C.T F1 θ1 H1 σ (C.G.fn f xs w1) _ Wx := Po.bd (m := C.G.fn f xs) (f := onlyO) (p0 F1 θ1 H1 s1 hl1)
    cases e1 : C.G.fn f xs w1 with
    | bad => rw [e1] at pp; exact pp.elim
    | exc c' fs w2 =>
      rw [e1] at pp
      exact fun F2 θ2 H2 cls od s2 hl2 xr => pp F2 θ2 H2 cls od s2 hl2 xr
    | ok r w2 =>
      rw [e1] at pp
      intro F2 θ2 H2 st hl2
      cases r with
      | v d => exact pp F2 θ2 H2 st hl2
      | o o =>
        intro z1 z2 z3 z4 z5
        refine ⟨rfl, pp F2 θ2 H2 st hl2 F2 θ2 H2 Step.refl hl2 x z1 z3 ⟨s1.non nx, fun C' dx' gs' z => ?_⟩ z5⟩
        obtain ⟨gs, e⟩ := z4
        rw [e] at z
        cases z
        exact s1.non ndx
end
end My

set_option Elab.async false
set_option linter.all false
set_option maxRecDepth 100000
set_option maxHeartbeats 4000000
/-! MiniA: sorted. -/
namespace My
open PySem L2 PyProof.Rows
section
variable {prog : Program} {w : World} {A : Around} {E : Value → Shared → Prop} {s : Shared}
theorem collect_text {Q : List Value → Shared → Prop} (hh : A.handled = none) (x : Str) (t : Tok) (hn : x.cps.size ≤ sizeLine)
    (hQ : ∀ (h' : Heap) (tk : Nat) (acc : Array Value), (∀ b o, s.heap.get? b = some o → h'.get? b = some o) → ItemsOf (SignAt x) acc x.cps.size → Q acc.toList { s with heap := h', toks := tk }) :
    wpAny (model prog w) A (collect (.str x t)) Q E s := by
  unfold collect
  refine wpAny_bind (wpAny_runValue (codeAny_builtin F.entry_proto_collect ?_))
  rw [Around.under_plainId F.plain_proto_collect _]
  show wpAny _ A.in1 (newList [] >>= fun l => again (.builtin "list.__iadd__" ⟨[l, .str x t], []⟩)) _ _ s
  refine wpAny_bind (wpAny_newObj_type ?_)
  refine wpAny_pure ⟨plainId_quiet F.plain_list_iadd _, codeAny_builtin F.entry_list_iadd ?_⟩
  rw [Around.under_plainId F.plain_list_iadd _]
  show wpAny _ A.in1 (Builtin.List.listExtendWith (.ref s.heap.objs.size) (.str x t) (.ref s.heap.objs.size)) _ _ _
  have hS : (s.heap.push { cls := .type "list", data := .seq ([] : List Value).toArray }).get? s.heap.objs.size = some { cls := .type "list", data := .seq #[] 0 } := Heap.get?_push_size _ rfl
  refine wpAny_mono (wpAny_extend_str (A := A) (R := fun rr s' => rr = .ok (.ret (.ref s.heap.objs.size)) ∧ ∃ (h' : Heap) (tk : Nat) (acc : Array Value) (c' : Nat), s' = { s with heap := h', toks := tk } ∧
      (∀ b o, s.heap.get? b = some o → h'.get? b = some o) ∧ h'.get? s.heap.objs.size = some { cls := .type "list", dict := none, data := .seq acc c', slots := #[] } ∧ ItemsOf (SignAt x) acc x.cps.size)
    (s := { s with heap := s.heap.push { cls := .type "list", data := .seq ([] : List Value).toArray } }) hh x t _ _ 0 hS
    (fun h' tk acc c' hk e hi => ⟨rfl, h', tk, acc, c', rfl, fun b o q => hk b o (Nat.ne_of_lt (Heap.lt_size q)) (Heap.get?_push_of_some _ q), e, hi⟩) hn) (fun fin s' h => ?_) (fun e s' h => ?_)
  · cases fin with
    | done f =>
      obtain ⟨e, h', tk, acc, c', rfl, hk, hS', hi⟩ := h
      cases e
      show wpAny _ A (load s.heap.objs.size >>= _) _ _ _
      exact wpAny_bind (wpAny_load hS' (wpAny_pure (hQ h' tk acc hk hi)))
    | again c' =>
      refine ⟨h.1, codeAny_mono h.2 fun rr s'' hr' => ?_⟩
      obtain ⟨rfl, h', tk, acc, c', rfl, hk, hS', hi⟩ := hr'
      show wpAny _ A (load s.heap.objs.size >>= _) _ _ _
      exact wpAny_bind (wpAny_load hS' (wpAny_pure (hQ h' tk acc hk hi)))
  · exact absurd h.1 (by simp)
/-- the characters, as texts -/
def chS (l : List Nat) : List Str := l.map fun c => ⟨#[c]⟩
theorem strs_of_signs : ∀ (l : List Nat) (us : List Value), us.length = l.length → (∀ (j : Nat) (v : Value), us[j]? = some v → ∃ (c : Nat) (t : Tok), l[j]? = some c ∧ v = Value.str ⟨#[c]⟩ t) → PyProof.Rows.StrsAre us (chS l)
  | [], [], _, _ => .nil
  | [], _ :: _, h, _ => by simp at h
  | _ :: _, [], h, _ => by simp at h
  | c :: l, u :: us, h, q => by
    obtain ⟨c', t, e, rfl⟩ := q 0 u rfl
    cases e
    exact .cons _ t (strs_of_signs l us (by simpa using h) fun j v e => q (j + 1) v e)
end
section
variable {X : Cx}
theorem cr_sortedText (hc : X.calm = true) : CallR X (.builtin "sorted") (fun vs H Q => ∃ x : Str, vs = [.str x] ∧ x.cps.size < 64 ∧ ∀ (ys : List Str) (p : Addr), ys.Perm (chS x.cps.toList) → sortedS ys = true → H p = none → Q (.ref p) (upd H p (.lst (ys.map V.str)))) := by
  intro pins s σ H vs us Q I r h
  obtain ⟨x, rfl, h64, q⟩ := h
  cases r with
  | cons r1 r2 =>
  cases r2
  obtain ⟨t, rfl⟩ := r1
  refine PySem.Calls.call_function_entry PyProof.Rows.kind_sorted PyProof.Rows.plain_sorted PyProof.Rows.entry_sorted (PyProof.Rows.args_sorted1 _) ?_
  unfold Builtin.«sorted»
  refine wpAny_bind (m := checkCount "sorted" 1 1 _) (wpAny_pure ?_)
  refine wpAny_bind (collect_text (A := X.A.in1) (I.ok.hd hc) x t (Nat.le_trans (Nat.le_of_lt h64) (by decide)) fun h' tk acc hk hi => ?_)
  have hS : PyProof.Rows.StrsAre acc.toList (chS x.cps.toList) := strs_of_signs _ _ (by rw [Array.length_toList, hi.1]; simp) fun j v e => by
    obtain ⟨c, u, e1, e2⟩ := hi.2 j v (by rw [← Array.getElem?_toList]; exact e)
    exact ⟨c, u, by rw [Array.getElem?_toList]; exact e1, e2⟩
  have hl : acc.toList.length < 64 := by rw [Array.length_toList, hi.1]; exact h64
  refine wpAny_bind (wpAny_newList ?_ (Nat.le_trans (Nat.le_of_lt hl) (by decide)))
  have hoL : (h'.push (PyProof.Rows.seqObj "list" acc.toList.toArray 0)).get? h'.objs.size = some (PyProof.Rows.seqObj "list" acc.toList.toArray 0) := Heap.get?_push_size _ rfl
  refine wpAny_bind (wpAny_holding (wpAny_call_entry PyProof.Rows.slot_list_sort ⟨_, hoL, rfl⟩ PyProof.Rows.entry_list_sort (PyProof.Rows.list_sort_treeK PyProof.Rows.strKind_oneLt hoL hS.keysOf (fun v₁ v₂ rest e => PyProof.Rows.keyKind_strs (by rw [← e]; exact hS)) hl fun st' hp hs => ⟨_, rfl, ?_⟩) (PyProof.Rows.args_list_sort _)))
  obtain ⟨ys, g1, g2, g3⟩ := PyProof.Rows.sorted_out_str hS hp hs
  obtain ⟨ep, he'⟩ := PyProof.Rows.sortedHeap_at (vs := acc.toList) (out := (PyProof.Rows.arrOf st').map (·.2)) hoL
  have hlen : (ys.map V.str).length ≤ sizeLine := by
    rw [List.length_map, g2.length_eq]
    have : (chS x.cps.toList).length < 64 := by unfold chS; simpa using h64
    exact Nat.le_trans (Nat.le_of_lt this) (by decide)
  have I2 : Inv X pins σ H { s with heap := h', toks := tk } := I.kept hk
  refine wpAny_pure ⟨_, rfl, .ref h'.objs.size, upd H h'.objs.size (.lst (ys.map V.str)), I2.laid (t' := tk) (fun b u hb => ?_) (Nat.le_refl _) ⟨hlen, ((PyProof.Rows.arrOf st').map (·.2)).toList, ep, vals_of_strs g1, by rw [Array.toArray_toList]; exact he'⟩, rfl, q ys _ g2 g3 (I2.hok.fresh (Nat.le_refl _))⟩
  have hlt := Heap.lt_size hb
  rw [PyProof.Rows.sortedHeap_old (Nat.ne_of_lt hlt) (by rw [size_push']; exact Nat.lt_succ_of_lt hlt)]
  exact Heap.get?_push_of_some _ hb
end
/-! data of the sort -/
theorem kind1 {d : D} (h : sKind d = 1) : ∃ s, d = .str s := by
  unfold sKind at h
  split at h
  · exact ⟨_, rfl⟩
  · cases h
  · cases h
theorem kind2 {d : D} (h : sKind d = 2) : ∃ s i, d = .tup [.str s, .int i] := by
  unfold sKind at h
  split at h
  · cases h
  · exact ⟨_, _, rfl⟩
  · cases h
section
variable {X : Cx} {K : PySem.W.Frag} {T : Tb} {F H : Hp} {θ : List Addr} {w : Wd}
theorem reads_str {pins : List (Addr × Obj)} {σ : L2.St} {s : Shared} (I : Inv X pins σ H s) (hl : Hl X.K T F θ w H) {v : V} {x : List Nat} {u : Value} (r : Rep X.K T F θ v (.str x)) (rv : RelV v u) : ∃ as, Reads s.heap u (toPy (.str x)) as := by
  cases r with
  | str _ o =>
    obtain ⟨t, rfl⟩ := rv
    exact ⟨[], .str _ _⟩
theorem reads_pair {pins : List (Addr × Obj)} {σ : L2.St} {s : Shared} (I : Inv X pins σ H s) (hl : Hl X.K T F θ w H) {v : V} {x : List Nat} {i : Int} {u : Value} (r : Rep X.K T F θ v (.tup [.str x, .int i])) (rv : RelV v u) : ∃ as, Reads s.heap u (toPy (.tup [.str x, .int i])) as := by
  cases r with
  | tup h rs =>
    cases rs with
    | cons r1 rs =>
      cases rs with
      | cons r2 rs =>
        cases rs
        cases r1
        cases r2
        obtain ⟨its, rvs, ⟨o, ho, hc, n, hd⟩, _⟩ := I.tuple (hl.fh.sqT h)
        obtain rfl : u = Value.ref _ := rv
        cases rvs with
        | cons q1 qs =>
          cases qs with
          | cons q2 qs =>
            cases qs
            obtain ⟨t1, rfl⟩ := q1
            obtain ⟨t2, rfl⟩ := q2
            have e : toPy (.tup [.str x, .int i]) = .tuple [.str (S8 x), .int i] := by simp [toPy, toPys]
            rw [e]
            exact ⟨[] ++ ([] ++ []), .tuple ho hc hd (.cons (.str _ _) (.cons (.int _ _) .nil))⟩
theorem reads_D {pins : List (Addr × Obj)} {σ : L2.St} {s : Shared} (I : Inv X pins σ H s) (hl : Hl X.K T F θ w H) {v : V} {d : D} {u : Value} (r : Rep X.K T F θ v d) (rv : RelV v u) (hk : sKind d = 1 ∨ sKind d = 2) : ∃ as, Reads s.heap u (toPy d) as := by
  rcases hk with hk | hk
  · obtain ⟨x, rfl⟩ := kind1 hk
    exact reads_str I hl r rv
  · obtain ⟨x, i, rfl⟩ := kind2 hk
    exact reads_pair I hl r rv
theorem lt_S8 (x y : List Nat) : decide ((S8 x).cps.toList < (S8 y).cps.toList) = ltL x y := by rw [S8_cps, S8_cps, ltL_eq]
theorem leS_1 (x y : List Nat) : PySem.W.dataLe false toPy (.str x) (.str y) = leS (.str x) (.str y) := by
  show (!PySem.W.dataLt (toPy (.str y)) (toPy (.str x))) = !ltL y x
  simp only [toPy]
  rw [PySem.W.dataLt_str, lt_S8]
theorem leS_2 (x y : List Nat) (i j : Int) : PySem.W.dataLe false toPy (.tup [.str x, .int i]) (.tup [.str y, .int j]) = leS (.tup [.str x, .int i]) (.tup [.str y, .int j]) := by
  show (!PySem.W.dataLt (toPy (.tup [.str y, .int j])) (toPy (.tup [.str x, .int i]))) = !(ltL y x || (x == y && decide (j < i)))
  simp only [toPy, toPys]
  rw [PySem.W.dataLt_pair (by simp [PySem.W.alike]) (by simp [PySem.W.alike]), PySem.W.dataLt_str, PySem.W.dataLt_int, lt_S8]
  simp only [PyData.eqv, S8_beq, beq_iff_eq]
  by_cases e1 : y = x
  · subst e1
    have e3 : ltL y y = false := by rw [ltL_eq]; simp
    by_cases e2 : j = i
    · subst e2; simp [e3]
    · simp [e2, e3]
  · have e5 : (x == y) = false := by simpa using fun z => e1 z.symm
    simp [e1, e5]
theorem sort_le {ds : List D} (h : sortOk ds = true) : ∀ a ∈ ds, ∀ b ∈ ds, PySem.W.dataLe false toPy a b = leS a b := by
  unfold sortOk at h
  simp only [Bool.or_eq_true, List.all_eq_true, beq_iff_eq] at h
  intro a ha b hb
  rcases h with h | h
  · obtain ⟨x, rfl⟩ := kind1 (h a ha)
    obtain ⟨y, rfl⟩ := kind1 (h b hb)
    exact leS_1 x y
  · obtain ⟨x, i, rfl⟩ := kind2 (h a ha)
    obtain ⟨y, j, rfl⟩ := kind2 (h b hb)
    exact leS_2 x y i j
theorem sort_alike {ds : List D} (h : sortOk ds = true) : PySem.W.AllAlike (ds.map toPy) := by
  unfold sortOk at h
  simp only [Bool.or_eq_true, List.all_eq_true, beq_iff_eq] at h
  intro d hd d' hd'
  obtain ⟨a, ha, rfl⟩ := List.mem_map.mp hd
  obtain ⟨b, hb, rfl⟩ := List.mem_map.mp hd'
  rcases h with h | h
  · obtain ⟨x, rfl⟩ := kind1 (h a ha)
    obtain ⟨y, rfl⟩ := kind1 (h b hb)
    simp [toPy, PySem.W.alike]
  · obtain ⟨x, i, rfl⟩ := kind2 (h a ha)
    obtain ⟨y, j, rfl⟩ := kind2 (h b hb)
    simp [toPy, toPys, PySem.W.alike, PySem.W.alikeAll]
theorem sort_able {ds : List D} (h : sortOk ds = true) : PySem.W.Sortable (ds.map toPy) := by
  unfold sortOk at h
  simp only [Bool.or_eq_true, List.all_eq_true, beq_iff_eq] at h
  rcases h with h | h
  · refine .inr fun d hd => ?_
    obtain ⟨a, ha, rfl⟩ := List.mem_map.mp hd
    obtain ⟨x, rfl⟩ := kind1 (h a ha)
    simp [toPy]
  · refine .inl fun d hd => ?_
    obtain ⟨a, ha, rfl⟩ := List.mem_map.mp hd
    obtain ⟨x, i, rfl⟩ := kind2 (h a ha)
    exact ⟨_, _, by simp only [toPy, toPys]; rfl⟩
theorem sort_depth {ds : List D} (h : sortOk ds = true) : ∀ d ∈ ds, (toPy d).depth ≤ 8 := by
  unfold sortOk at h
  simp only [Bool.or_eq_true, List.all_eq_true, beq_iff_eq] at h
  intro d hd
  rcases h with h | h
  · obtain ⟨x, rfl⟩ := kind1 (h d hd)
    simp [toPy, PyData.depth]
  · obtain ⟨x, i, rfl⟩ := kind2 (h d hd)
    simp [toPy, toPys, PyData.depth, PyData.depthAll]
/-- values, their data, side by side -/
theorem each_of {us : List V} {its : List Value} (rv : Vals us its) : ∀ {ds : List D}, Reps X.K T F θ us ds → PySem.W.EachIs (fun u (b : V × D) => RelV b.1 u ∧ Rep X.K T F θ b.1 b.2) its (us.zip ds) := by
  induction rv with
  | nil => intro ds r; cases r; exact .nil
  | cons r1 t ih =>
    intro ds r
    cases r with
    | cons q qs => exact .cons ⟨r1, q⟩ (ih qs)
theorem each_back {out : List Value} {bs : List (V × D)} (e : PySem.W.EachIs (fun u (b : V × D) => RelV b.1 u ∧ Rep X.K T F θ b.1 b.2) out bs) : Vals (bs.map (·.1)) out ∧ Reps X.K T F θ (bs.map (·.1)) (bs.map (·.2)) := by
  induction e with
  | nil => exact ⟨.nil, .nil⟩
  | cons r t ih => exact ⟨.cons r.1 ih.1, .cons r.2 ih.2⟩
theorem zip_snd : ∀ {us : List V} {ds : List D}, us.length = ds.length → (us.zip ds).map (·.2) = ds
  | [], [], _ => rfl
  | u :: us, d :: ds, h => by simp only [List.zip_cons_cons, List.map_cons, zip_snd (us := us) (ds := ds) (by simpa using h)]
  | [], _ :: _, h => by simp at h
  | _ :: _, [], h => by simp at h
theorem cr_sortedD (hu : X.A.units + 64 < cLine) : CallR X (.builtin "sorted") (fun vs H Q => ∃ (F : Hp) (θ : List Addr) (w : Wd) (a : Addr) (us : List V) (ds : List D), vs = [.ref a] ∧ Hl X.K T F θ w H ∧ SqL X.K H a us ∧ Reps X.K T F θ us ds ∧ sortOk ds = true ∧
    ∀ (us' : List V) (p : Addr), Reps X.K T F θ us' (ds.mergeSort leS) → H p = none → Q (.ref p) (upd H p (.lst us'))) := by
  intro pins s σ H vs us0 Q I r h
  obtain ⟨F, θ, w, a, us, ds, rfl, hl, hs, rs, hk, q⟩ := h
  obtain ⟨its, rv, hli, hz⟩ := I.list hs
  obtain ⟨u, rfl, ru⟩ := vals1 r
  obtain rfl : u = Value.ref a := ru
  have hlen := rs.length
  have em := zip_snd hlen
  have hkm : ∀ b ∈ us.zip ds, sKind b.2 = 1 ∨ sKind b.2 = 2 := fun b hb => by
    have hm : b.2 ∈ ds := by rw [← em]; exact List.mem_map.mpr ⟨b, hb, rfl⟩
    have hk2 := hk
    unfold sortOk at hk2
    simp only [Bool.or_eq_true, List.all_eq_true, beq_iff_eq] at hk2
    exact hk2.imp (fun z => z _ hm) fun z => z _ hm
  have e1 := each_of (X := X) (T := T) (F := F) (θ := θ) rv rs
  have ee : (us.zip ds).map (fun b => toPy b.2) = ds.map toPy := by
    show (us.zip ds).map (toPy ∘ fun b => b.2) = _
    rw [← List.map_map, em]
  refine PySem.W.sorted_data (R := fun u (b : V × D) => RelV b.1 u ∧ Rep X.K T F θ b.1 b.2) (bs := us.zip ds) (enc := fun b => toPy b.2) hli.isList e1 ?_ (by rw [ee]; exact sort_alike hk) (by rw [ee]; exact sort_able hk) (by rw [List.length_zip, ← hlen, Nat.min_self]; exact hz) (fun b hb => ?_) fun out ho eo => ?_
  · exact (PySem.W.each_mem e1).mono fun u b ⟨⟨r1, r2⟩, hb⟩ => reads_D I hl r2 r1 (hkm b hb)
  · have hm : b.2 ∈ ds := by rw [← em]; exact List.mem_map.mpr ⟨b, hb, rfl⟩
    have := sort_depth hk b.2 hm
    show X.A.units + 2 + (toPy b.2).depth < cLine
    omega
  · obtain ⟨hv, hr⟩ := each_back eo
    have e2 : ((us.zip ds).mergeSort (PySem.W.dataLe false fun b : V × D => toPy b.2)).map (·.2) = ds.mergeSort leS := by
      have z := PySem.W.sort_maps (r := PySem.W.dataLe false fun b : V × D => toPy b.2) (s := leS) (fun b : V × D => b.2) (l := us.zip ds) (fun a ha b hb => sort_le hk a.2 (by rw [← em]; exact List.mem_map.mpr ⟨a, ha, rfl⟩) b.2 (by rw [← em]; exact List.mem_map.mpr ⟨b, hb, rfl⟩))
      rw [em] at z
      exact z
    rw [e2] at hr
    obtain ⟨ep, he'⟩ := PyProof.Rows.sortedAll_at s.heap its out.toArray
    have hlen2 : (((us.zip ds).mergeSort (PySem.W.dataLe false fun b : V × D => toPy b.2)).map (·.1)).length ≤ sizeLine := by
      rw [List.length_map, List.length_mergeSort, List.length_zip, ← hlen, Nat.min_self]; exact hz
    exact ⟨.ref _, upd H (s.heap.objs.size + 1) (.lst (((us.zip ds).mergeSort (PySem.W.dataLe false fun b : V × D => toPy b.2)).map (·.1))), I.laid (t' := s.toks) (fun _ _ => PyProof.Rows.sortedAll_old) (Nat.le_succ _) ⟨hlen2, out, ep, hv, by simpa using he'⟩, rfl, q _ _ hr (I.hok.fresh (Nat.le_succ _))⟩
/-! a text's characters in order -/
def dch (l : List Nat) : List D := l.map fun c => .str [c]
theorem ltL_one (a b : Nat) : ltL [a] [b] = decide (a < b) := by
  show (if a = b then ltL [] [] else decide (a < b)) = _
  by_cases h : a = b
  · rw [if_pos h]
    show false = _
    simp; omega
  · rw [if_neg h]
theorem leS_ch (a b : Nat) : leS (.str [a]) (.str [b]) = decide (a ≤ b) := by
  show (!ltL [b] [a]) = _
  rw [ltL_one, Bool.eq_iff_iff]
  simp
theorem sortN_dch (l : List Nat) : (dch l).mergeSort leS = dch (l.mergeSort fun a b => decide (a ≤ b)) := by
  unfold dch
  rw [List.map_mergeSort]
  intro a _ b _
  exact (leS_ch a b).symm
theorem rising_pw : ∀ (r : List Nat) (p : Nat), PyProof.Rows.risingS ⟨#[p]⟩ (chS r) = true → (∀ x ∈ r, p ≤ x) ∧ r.Pairwise (· ≤ ·)
  | [], p, _ => ⟨by simp, .nil⟩
  | x :: r, p, h => by
    have h' : (!Spec.ltCps [x] [p] && PyProof.Rows.risingS ⟨#[x]⟩ (chS r)) = true := h
    rw [Bool.and_eq_true, PyProof.Rows.ltCps_eq, ← ltL_eq, ltL_one] at h'
    obtain ⟨a, b⟩ := rising_pw r x h'.2
    have hpx : p ≤ x := by
      have := h'.1
      simpa using this
    refine ⟨fun y hy => ?_, .cons a b⟩
    rcases List.mem_cons.mp hy with rfl | hy
    · exact hpx
    · exact Nat.le_trans hpx (a y hy)
theorem sortedS_pw : ∀ r : List Nat, PyProof.Rows.sortedS (chS r) = true → r.Pairwise (· ≤ ·)
  | [], _ => .nil
  | x :: r, h => by
    obtain ⟨a, b⟩ := rising_pw r x h
    exact .cons a b
theorem sorted_chS {s : List Nat} {ys : List Str} (hp : ys.Perm (chS s)) (hs : PyProof.Rows.sortedS ys = true) : ys = chS (s.mergeSort fun a b => decide (a ≤ b)) := by
  have hr : ∃ r : List Nat, ys = chS r ∧ r.Perm s := by
    refine ⟨ys.map fun y => y.cps.toList.headD 0, ?_, ?_⟩
    · unfold chS
      rw [List.map_map]
      have : ∀ y ∈ ys, (⟨#[y.cps.toList.headD 0]⟩ : Str) = y := fun y hy => by
        obtain ⟨c, _, rfl⟩ := List.mem_map.mp (hp.mem_iff.mp hy)
        rfl
      exact (List.map_id ys).symm.trans (List.map_congr_left fun y hy => (this y hy).symm)
    · have := hp.map fun y : Str => y.cps.toList.headD 0
      unfold chS at this
      rw [List.map_map] at this
      have e : s.map ((fun y : Str => y.cps.toList.headD 0) ∘ fun c => (⟨#[c]⟩ : Str)) = s := (List.map_congr_left fun c _ => rfl).trans (List.map_id s)
      rwa [e] at this
  obtain ⟨r, rfl, hr⟩ := hr
  congr 1
  refine List.Perm.eq_of_pairwise (le := fun a b => a ≤ b) (fun a b _ _ h1 h2 => Nat.le_antisymm h1 h2) (sortedS_pw r hs) ?_ (hr.trans (List.mergeSort_perm s _).symm)
  have := List.pairwise_mergeSort (le := fun a b : Nat => decide (a ≤ b)) (fun a b c h1 h2 => by simp at *; omega) (fun a b => by simp; omega) s
  exact this.imp fun h => by simpa using h
end
end My

set_option Elab.async false
set_option linter.all false
set_option maxRecDepth 100000
set_option maxHeartbeats 4000000
/-! Mini11: built-ins by their names, methods of texts. -/
namespace My
open PySem L2

/-! ### texts -/
theorem glued_S8 (a : List Nat) : ∀ (ys : List (List Nat)), Txt.join (S8 a) (ys.map S8) = S8 (joinS a ys)
  | [] => rfl
  | y :: ys => by
    have h : ∀ (ys : List (List Nat)) (acc : List Nat), (ys.map S8).foldl (fun acc p => acc ++ a.toArray ++ p.cps) acc.toArray = (ys.foldl (fun acc p => acc ++ a ++ p) acc).toArray := by
      intro ys
      induction ys with
      | nil => intro acc; rfl
      | cons z zs ih =>
        intro acc
        rw [List.map_cons, List.foldl_cons, List.foldl_cons, ← ih]
        congr 1
        simp
    have h2 : ∀ (ys : List (List Nat)) (acc : List Nat), ys.foldl (fun acc p => acc ++ a ++ p) acc = acc ++ (ys.map (fun p => a ++ p)).flatten := by
      intro ys
      induction ys with
      | nil => intro acc; simp
      | cons z zs ih => intro acc; rw [List.foldl_cons, ih]; simp [List.append_assoc]
    have h3 : ∀ (ys : List (List Nat)) (y : List Nat), joinS a (y :: ys) = y ++ (ys.map (fun p => a ++ p)).flatten := by
      intro ys
      induction ys with
      | nil => intro y; simp [joinS]
      | cons z zs ih => intro y; simp only [joinS]; rw [ih]; simp [List.append_assoc]
    show (⟨(ys.map S8).foldl (fun acc p => acc ++ a.toArray ++ p.cps) y.toArray⟩ : Str) = _
    rw [h, h2, h3]
theorem join_len (a : List Nat) : ∀ ys : List (List Nat), (joinS a ys).length ≤ (ys.map (·.length)).sum + ys.length * a.length
  | [] => by simp [joinS]
  | [y] => by simp [joinS]
  | y :: z :: r => by
    have ih := join_len a (z :: r)
    simp only [joinS, List.length_append, List.map_cons, List.sum_cons, List.length_cons] at ih ⊢
    have e : (r.length + 1 + 1) * a.length = (r.length + 1) * a.length + a.length := by rw [Nat.succ_mul]
    omega
theorem join_mem {a : List Nat} {c : Nat} : ∀ {ys : List (List Nat)}, c ∈ joinS a ys → c ∈ a ∨ ∃ y ∈ ys, c ∈ y
  | [], h => by simp [joinS] at h
  | [y], h => .inr ⟨y, List.mem_cons_self, by simpa [joinS] using h⟩
  | y :: z :: r, h => by
    simp only [joinS, List.mem_append] at h
    rcases h with (h | h) | h
    · exact .inr ⟨y, List.mem_cons_self, h⟩
    · exact .inl h
    · rcases join_mem h with h | ⟨u, hu, hc⟩
      · exact .inl h
      · exact .inr ⟨u, List.mem_cons_of_mem _ hu, hc⟩
theorem occ_grown (s sub : Str) (hi : Nat) (i : Nat) : ∀ (l : List Nat) (f : Nat), (forIn l ((#[i] : Array Nat), f) (StrLaws.occBody s sub hi 1)).run.fst.toList = [i]
  | [], f => rfl
  | a :: l, f => by
    rw [List.forIn_cons]
    unfold StrLaws.occBody
    have c2 : ¬ (((((#[i] : Array Nat), f).fst.size < 1 ∧ ((#[i] : Array Nat), f).snd ≤ a) ∧ a + sub.length ≤ hi) ∧ Builtin.Str.subAt s sub a = true) := fun h => by
      have := h.1.1.1
      simp at this
    rw [if_neg c2]
    exact occ_grown s sub hi i l f
theorem occ_find (s : List Nat) (c : Nat) : ∀ (l : List Nat) (free : Nat), (∀ i ∈ l, free ≤ i) →
    (forIn l ((#[] : Array Nat), free) (StrLaws.occBody (S8 s) ⟨#[c]⟩ (S8 s).length 1)).run.fst.toList = (l.find? fun i => s[i]? == some c).toList
  | [], free, _ => rfl
  | a :: l, free, hf => by
    rw [List.forIn_cons]
    unfold StrLaws.occBody
    have ha : free ≤ a := hf a List.mem_cons_self
    have key := StrLaws.subAt_one (S8 s) c a
    rw [S8_cps] at key
    by_cases hc : s[a]? = some c
    · obtain ⟨k1, k2⟩ := key.mpr hc
      have c1 : ((((#[] : Array Nat), free).fst.size < 1 ∧ ((#[] : Array Nat), free).snd ≤ a) ∧ a + (⟨#[c]⟩ : Str).length ≤ (S8 s).length) ∧ Builtin.Str.subAt (S8 s) ⟨#[c]⟩ a = true := ⟨⟨⟨by simp, ha⟩, k1⟩, k2⟩
      rw [if_pos c1, List.find?_cons]
      simp only [hc, beq_self_eq_true]
      exact occ_grown _ _ _ a l _
    · have c2 : ¬ (((((#[] : Array Nat), free).fst.size < 1 ∧ ((#[] : Array Nat), free).snd ≤ a) ∧ a + (⟨#[c]⟩ : Str).length ≤ (S8 s).length) ∧ Builtin.Str.subAt (S8 s) ⟨#[c]⟩ a = true) := fun h => hc (key.mp ⟨h.1.2, h.2⟩)
      rw [if_neg c2, List.find?_cons, beq_eq_false_iff_ne.mpr hc]
      exact occ_find s c l free fun i hi => hf i (List.mem_cons_of_mem _ hi)
theorem find_range (s : List Nat) (c : Nat) : ∀ (n k : Nat), n + k = s.length + 1 → c ∈ s.drop k → (List.range' k n).find? (fun i => s[i]? == some c) = some (k + (s.drop k).idxOf c)
  | 0, k, h, m => by rw [List.drop_eq_nil_of_le (by omega)] at m; cases m
  | n + 1, k, h, m => by
    rw [List.range'_succ, List.find?_cons]
    by_cases hk : k < s.length
    · have e : s.drop k = s[k] :: s.drop (k + 1) := List.drop_eq_getElem_cons hk
      rw [e] at m ⊢
      rw [List.getElem?_eq_getElem hk, List.idxOf_cons]
      by_cases hc : s[k] = c
      · simp [hc]
      · have h2 : (some s[k] == some c) = false := by simpa using hc
        have h3 : (s[k] == c) = false := by simpa using hc
        rw [h2, h3]
        have m2 : c ∈ s.drop (k + 1) := (List.mem_cons.mp m).resolve_left (fun z => hc z.symm)
        simp only [cond_false]
        rw [find_range s c n (k + 1) (by omega) m2]
        congr 1
        omega
    · rw [List.drop_eq_nil_of_le (by omega)] at m; cases m
/-- all places of a character -/
theorem occ_all (s : List Nat) (c limit : Nat) : ∀ (n a free : Nat) (acc : Array Nat), free ≤ a → acc.size + n ≤ limit →
    (forIn (List.range' a n) (acc, free) (StrLaws.occBody (S8 s) ⟨#[c]⟩ (S8 s).length limit)).run.fst.toList = acc.toList ++ (List.range' a n).filter fun i => s[i]? == some c
  | 0, a, free, acc, hf, hl => by simp
  | n + 1, a, free, acc, hf, hl => by
    rw [List.range'_succ, List.forIn_cons]
    unfold StrLaws.occBody
    have key := StrLaws.subAt_one (S8 s) c a
    rw [S8_cps] at key
    by_cases hc : s[a]? = some c
    · obtain ⟨k1, k2⟩ := key.mpr hc
      have c1 : (((acc, free).fst.size < limit ∧ (acc, free).snd ≤ a) ∧ a + (⟨#[c]⟩ : Str).length ≤ (S8 s).length) ∧ Builtin.Str.subAt (S8 s) ⟨#[c]⟩ a = true := ⟨⟨⟨by show acc.size < limit; omega, hf⟩, k1⟩, k2⟩
      rw [if_pos c1, List.filter_cons]
      simp only [hc, beq_self_eq_true, if_true]
      have ih := occ_all s c limit n (a + 1) (a + 1) (acc.push a) (Nat.le_refl _) (by rw [Array.size_push]; omega)
      refine Eq.trans ih ?_
      simp
    · have c2 : ¬ ((((acc, free).fst.size < limit ∧ (acc, free).snd ≤ a) ∧ a + (⟨#[c]⟩ : Str).length ≤ (S8 s).length) ∧ Builtin.Str.subAt (S8 s) ⟨#[c]⟩ a = true) := fun h => hc (key.mp ⟨h.1.2, h.2⟩)
      rw [if_neg c2, List.filter_cons, beq_eq_false_iff_ne.mpr hc]
      exact occ_all s c limit n (a + 1) free acc (by omega) (by omega)
theorem occ_places (s : List Nat) (c : Nat) : Builtin.Str.occurrences (S8 s) ⟨#[c]⟩ 0 (S8 s).length ((S8 s).length + 1) = (List.range' 0 s.length).filter fun i => s[i]? == some c := by
  rw [StrLaws.occ_eq]
  rw [occ_all s c _ _ 0 0 #[] (Nat.le_refl _) (by simp), S8_length, Nat.sub_zero, ← List.range'_append_1 (m := s.length) (n := 1)]
  rw [List.filter_append]
  simp
theorem places_count (c : Nat) : ∀ (s l : List Nat), ((List.range' l.length s.length).filter fun i => (l ++ s)[i]? == some c).length = s.count c
  | [], l => rfl
  | d :: s, l => by
    have ih := places_count c s (l ++ [d])
    rw [List.length_append, List.append_assoc] at ih
    simp only [List.length_cons, List.length_nil, Nat.zero_add, List.singleton_append] at ih
    rw [List.length_cons, List.range'_succ, List.filter_cons, List.count_cons, ← ih]
    have e : (l ++ d :: s)[l.length]? = some d := by rw [List.getElem?_append_right (Nat.le_refl _), Nat.sub_self]; rfl
    rw [e]
    by_cases h : d = c
    · subst h; simp
    · have h2 : (some d == some c) = false := by simpa using h
      have h3 : (d == c) = false := by simpa using h
      rw [h2, h3]; rfl
theorem count_S8 (s : List Nat) (c : Nat) : Txt.count (S8 s) ⟨#[c]⟩ = ((s.count c : Nat) : Int) := by
  unfold Txt.count
  rw [occ_places]
  have := places_count c s []
  rw [List.nil_append] at this
  rw [← this]
  rfl
theorem sub_S8 (s : List Nat) (i j : Nat) : Builtin.Str.strSub (S8 s) i j = S8 ((s.drop i).take (j - i)) := by
  show (⟨s.toArray.extract i j⟩ : Str) = ⟨((s.drop i).take (j - i)).toArray⟩
  rw [List.extract_toArray]
theorem cut_parts (c : Nat) (z : List Nat) : ∀ (l p : List Nat) (a : Nat), ∀ q : List Nat, q.length = a → z = q ++ p ++ l →
    (((a :: ((List.range' (a + p.length) l.length).filter fun i => z[i]? == some c).map (· + 1)).zip (((List.range' (a + p.length) l.length).filter fun i => z[i]? == some c) ++ [z.length])).map fun (i, j) => Builtin.Str.strSub (S8 z) i j) = (match splitS c l with
      | [] => []
      | y :: t => (p ++ y) :: t).map S8
  | [], p, a, q, hq, hz => by
    subst hz
    simp only [List.length_nil, List.range'_zero, List.filter_nil, List.map_nil, List.nil_append, List.zip_cons_cons, List.zip_nil_right, List.map_cons, splitS, List.append_nil]
    rw [sub_S8, ← hq, List.drop_left, List.length_append, Nat.add_sub_cancel_left, List.take_length]
  | d :: l, p, a, q, hq, hz => by
    have e : z[a + p.length]? = some d := by
      rw [hz, List.getElem?_append_right (by simp; omega)]
      simp [hq]
    rw [List.length_cons, List.range'_succ, List.filter_cons, e]
    by_cases h : d = c
    · subst h
      have ih := cut_parts d z l [] (a + p.length + 1) (q ++ p ++ [d]) (by simp; omega) (by rw [hz]; simp)
      rw [List.length_nil, Nat.add_zero] at ih
      simp only [beq_self_eq_true, if_true, List.map_cons, List.cons_append, List.zip_cons_cons]
      rw [ih]
      have e1 : Builtin.Str.strSub (S8 z) a (a + p.length) = S8 p := by
        rw [sub_S8, hz, Nat.add_sub_cancel_left, List.append_assoc, ← hq, List.drop_left, List.take_left]
      rw [e1]
      have e2 : splitS d (d :: l) = [] :: splitS d l := by simp [splitS]
      rw [e2]
      simp only [List.append_nil, List.map_cons, List.nil_append]
      congr 1
      cases splitS d l <;> rfl
    · have h2 : (some d == some c) = false := by simpa using h
      have ih := cut_parts c z l (p ++ [d]) a q hq (by rw [hz]; simp)
      rw [List.length_append] at ih
      simp only [h2]
      refine Eq.trans ?_ (ih.trans ?_)
      · rfl
      · have e2 : ∀ y t, splitS c l = y :: t → splitS c (d :: l) = (d :: y) :: t := fun y t e => by
          conv => lhs; unfold splitS
          rw [if_neg h, e]
        have e3 : splitS c l ≠ [] := by
          cases l with
          | nil => simp [splitS]
          | cons x l => unfold splitS; split; · simp
                        · split <;> simp
        cases e4 : splitS c l with
        | nil => exact absurd e4 e3
        | cons y t => rw [e2 y t e4]; simp
theorem split_ne (c : Nat) (l : List Nat) : splitS c l ≠ [] := by
  cases l with
  | nil => simp [splitS]
  | cons x l =>
    unfold splitS
    split
    · simp
    · split <;> simp
theorem places_nil {c : Nat} {s : List Nat} (h : ((List.range' 0 s.length).filter fun i => s[i]? == some c) = []) : splitS c s = [s] := by
  have hc : c ∉ s := fun m => by
    have := places_count c s []
    rw [List.nil_append, List.length_nil, h, List.length_nil] at this
    exact absurd (List.count_pos_iff.mpr m) (by omega)
  clear h
  induction s with
  | nil => rfl
  | cons d s ih =>
    simp only [List.mem_cons, not_or] at hc
    unfold splitS
    rw [if_neg (fun e => hc.1 e.symm), ih hc.2]
theorem kind_one (s : List Nat) (c : Nat) (h : c < 256) : decide (Builtin.Str.strKind (S8 s) < Builtin.Str.strKind ⟨#[c]⟩) = false := by
  have e : Builtin.Str.strKind ⟨#[c]⟩ = 1 := by
    unfold Builtin.Str.strKind
    rw [if_pos (by simpa using h)]
  rw [e]
  unfold Builtin.Str.strKind
  simp only [decide_eq_false_iff_not]
  split
  · omega
  · split <;> omega
theorem split_S8 (s : List Nat) (c : Nat) (h : c < 256) : Txt.split (S8 s) ⟨#[c]⟩ = (splitS c s).map S8 := by
  unfold Txt.split
  rw [kind_one s c h, Bool.or_false, occ_places]
  by_cases hs : (S8 s).length < (⟨#[c]⟩ : Str).length
  · rw [if_pos (by simpa using hs)]
    have : s = [] := by
      rw [S8_length] at hs
      have : (⟨#[c]⟩ : Str).length = 1 := rfl
      exact List.length_eq_zero_iff.mp (by omega)
    subst this
    rfl
  · rw [if_neg (by simpa using hs)]
    split
    · rename_i h1
      rw [List.isEmpty_iff] at h1
      rw [places_nil h1]
      rfl
    · unfold Builtin.Str.partsBetween
      have := cut_parts c s s [] 0 [] rfl rfl
      rw [List.length_nil] at this
      dsimp only
      rw [S8_length]
      refine this.trans ?_
      cases e : splitS c s with
      | nil => rfl
      | cons y t => rfl
theorem split_len (c : Nat) : ∀ s : List Nat, (splitS c s).length ≤ s.length + 1
  | [] => by simp [splitS]
  | x :: s => by
    have ih := split_len c s
    unfold splitS
    split
    · simpa using ih
    · split
      · simp
      · rename_i h; rw [h] at ih; simp at ih ⊢; omega
theorem split_mem {c : Nat} : ∀ {s y : List Nat}, y ∈ splitS c s → (∀ d ∈ y, d ∈ s) ∧ y.length ≤ s.length
  | [], y, m => by simp [splitS] at m; subst m; simp
  | x :: s, y, m => by
    unfold splitS at m
    split at m
    · rcases List.mem_cons.mp m with rfl | m
      · simp
      · have := split_mem m
        exact ⟨fun d q => List.mem_cons_of_mem _ (this.1 d q), Nat.le_succ_of_le this.2⟩
    · split at m
      · simp at m; subst m; simp
      · rename_i z t h
        have hz := split_mem (s := s) (y := z) (by rw [h]; exact List.mem_cons_self)
        rcases List.mem_cons.mp m with rfl | m
        · refine ⟨fun d q => ?_, by simp; exact hz.2⟩
          rcases List.mem_cons.mp q with rfl | q
          · exact List.mem_cons_self
          · exact List.mem_cons_of_mem _ (hz.1 d q)
        · have := split_mem (s := s) (y := y) (by rw [h]; exact List.mem_cons_of_mem _ m)
          exact ⟨fun d q => List.mem_cons_of_mem _ (this.1 d q), Nat.le_succ_of_le this.2⟩
theorem occ_index {s : List Nat} {c : Nat} (h : c ∈ s) : Builtin.Str.occurrences (S8 s) ⟨#[c]⟩ 0 (S8 s).length 1 = [s.idxOf c] := by
  rw [StrLaws.occ_eq]
  rw [occ_find s c _ 0 (fun _ _ => Nat.zero_le _), S8_length, Nat.sub_zero, find_range s c (s.length + 1) 0 (by omega) (by rw [List.drop_zero]; exact h), List.drop_zero, Nat.zero_add]
  rfl

section
variable {K : PySem.W.Frag} {T : Tb} {F F' H H' : Hp} {θ θ' : List Addr} {w w' : Wd} {σ : St} {ρ : Env} {v : V} {d : D} {vs : List V} {ds : List D}
theorem reps_B : ∀ {vs : List V} {ds : List D} {bs : List Bool}, Reps K T F θ vs ds → allB ds = some bs → vs = bs.map V.bl
  | _, _, _, .nil, h => by cases h; rfl
  | _, _, bs, .cons r t, h => by
    cases r <;> first | (simp [allB] at h; done) | skip
    simp only [allB, Option.map_eq_some_iff] at h
    obtain ⟨cs, h, rfl⟩ := h
    rw [reps_B t h]
    rfl
theorem reps_I : ∀ {vs : List V} {ds : List D} {bs : List Int}, Reps K T F θ vs ds → allI ds = some bs → vs = bs.map V.int
  | _, _, _, .nil, h => by cases h; rfl
  | _, _, bs, .cons r t, h => by
    cases r <;> first | (simp [allI] at h; done) | skip
    simp only [allI, Option.map_eq_some_iff] at h
    obtain ⟨cs, h, rfl⟩ := h
    rw [reps_I t h]
    rfl
theorem reps_S : ∀ {vs : List V} {ds : List D} {bs : List (List Nat)}, Reps K T F θ vs ds → allS ds = some bs → vs = (bs.map S8).map V.str ∧ ∀ b ∈ bs, okS b
  | _, _, _, .nil, h => by cases h; exact ⟨rfl, fun _ m => nomatch m⟩
  | _, _, bs, .cons r t, h => by
    cases r <;> first | (simp [allS] at h; done) | skip
    rename_i s o
    simp only [allS, Option.map_eq_some_iff] at h
    obtain ⟨cs, h, rfl⟩ := h
    obtain ⟨e, k⟩ := reps_S t h
    rw [e]
    refine ⟨rfl, fun b m => ?_⟩
    rcases List.mem_cons.mp m with rfl | m
    · exact o
    · exact k b m
inductive Drfs (K : PySem.W.Frag) (T : Tb) (F : Hp) (θ : List Addr) (H : Hp) : List V → List D → Prop
  | nil : Drfs K T F θ H [] []
  | cons {v : V} {vs : List V} {d : D} {ds : List D} : Drf K T F θ H v d → Drfs K T F θ H vs ds → Drfs K T F θ H (v :: vs) (d :: ds)
theorem Srcs.drf (hl : Hl K T F θ w H) : ∀ {vs : List V} {ds : List D}, Srcs K T F θ H vs ds → Drfs K T F θ H vs (ds.map (deref w))
  | _, _, .nil => .nil
  | _, _, .cons s t => .cons (s.drf hl) (Srcs.drf hl t)
end
theorem digit_text {c : Nat} (h1 : 48 ≤ c) (h2 : c ≤ 57) : PySem.intText? (S8 [c]) = some ((c - 48 : Nat) : Int) := by
  have h : c = 48 ∨ c = 49 ∨ c = 50 ∨ c = 51 ∨ c = 52 ∨ c = 53 ∨ c = 54 ∨ c = 55 ∨ c = 56 ∨ c = 57 := by omega
  rcases h with rfl | rfl | rfl | rfl | rfl | rfl | rfl | rfl | rfl | rfl <;> decide +kernel
theorem digits_text (n : Nat) : Str.ofString (toString (n : Int)) = S8 (digits n) := by
  rw [Str.ofString_eq_toList]
  rfl
def biV : Bi → Value
  | .len => .builtin "len"
  | .all => .builtin "all"
  | .any => .builtin "any"
  | .int => .type "int"
  | .list => .type "list"
  | .str => .type "str"
  | .sum => .builtin "sum"
  | .tuple => .type "tuple"
  | .min => .builtin "min"
  | .sorted => .builtin "sorted"
def biN : Bi → Str
  | .len => "len"
  | .all => "all"
  | .any => "any"
  | .int => "int"
  | .list => "list"
  | .str => "str"
  | .sum => "sum"
  | .tuple => "tuple"
  | .min => "min"
  | .sorted => "sorted"
def rBiD (K : PySem.W.Frag) (T : Tb) (b : Bi) : List V → Hp → VK → Prop := fun xs H Q => ∃ F θ w ds r, Hl K T F θ w H ∧ Drfs K T F θ H xs ds ∧ dBi b ds = some r ∧ Okr K T F θ H w r Q
theorem call_D {X : Cx} {T : Tb} (hc : X.calm = true) (hu : X.A.units + 64 < cLine) (b : Bi) : CallR X (biV b) (rBiD X.K T b) := by
  intro pins s σ H xs us Q I rs h
  obtain ⟨F, θ, w, ds, r, hl, hd, ho, ok⟩ := h
  cases hd with
  | nil => cases b <;> simp [dBi] at ho
  | cons h1 t =>
    rename_i v vs d ds
    cases t with
    | nil =>
      cases b with
      | len =>
        cases d <;> first | (simp [dBi] at ho; done) | skip
        · obtain ⟨rfl, o⟩ := h1.str
          cases ho
          exact call_len pins s σ H _ us Q I rs ⟨_, _, rfl, ⟨by rw [S8_length, ← lim_size]; exact o.2, (S8_length _).symm⟩, ok.val hl (.int _)⟩
        · obtain ⟨a, ys, rfl, h2, r2⟩ := h1.tup hl
          cases ho
          exact call_len pins s σ H _ us Q I rs ⟨_, _, rfl, .inr ⟨ys, h2, r2.length.symm⟩, ok.val hl (.int _)⟩
        · obtain ⟨a, ys, rfl, h2, r2⟩ := h1.lst hl
          cases ho
          exact call_len pins s σ H _ us Q I rs ⟨_, _, rfl, .inl ⟨ys, .inl h2, r2.length.symm⟩, ok.val hl (.int _)⟩
      | all =>
        cases d <;> first | (simp [dBi] at ho; done) | skip
        obtain ⟨a, ys, rfl, h2, r2⟩ := h1.lst hl
        simp only [dBi, Option.map_eq_some_iff] at ho
        obtain ⟨bs, hb, rfl⟩ := ho
        have e := reps_B r2 hb
        subst e
        exact cr_all hc pins s σ H _ us Q I rs ⟨a, bs, rfl, .inl h2, ok.val hl (.bl _)⟩
      | any =>
        cases d <;> first | (simp [dBi] at ho; done) | skip
        obtain ⟨a, ys, rfl, h2, r2⟩ := h1.lst hl
        simp only [dBi, Option.map_eq_some_iff] at ho
        obtain ⟨bs, hb, rfl⟩ := ho
        have e := reps_B r2 hb
        subst e
        exact cr_any hc pins s σ H _ us Q I rs ⟨a, bs, rfl, .inl h2, ok.val hl (.bl _)⟩
      | sum =>
        cases d <;> first | (simp [dBi] at ho; done) | skip
        obtain ⟨a, ys, rfl, h2, r2⟩ := h1.lst hl
        simp only [dBi, Option.map_eq_some_iff] at ho
        obtain ⟨bs, hb, rfl⟩ := ho
        have e := reps_I r2 hb
        subst e
        exact cr_sum hc pins s σ H _ us Q I rs ⟨a, bs, rfl, .inl h2, ok.val hl (.int _)⟩
      | int =>
        cases d <;> first | (simp [dBi] at ho; done) | skip
        · obtain rfl := h1.bl
          cases ho
          exact call_int1 pins s σ H _ us Q I rs (.inr ⟨_, rfl, ok.val hl (.int _)⟩)
        · obtain rfl := h1.int
          cases ho
          exact call_int1 pins s σ H _ us Q I rs (.inl ⟨_, rfl, ok.val hl (.int _)⟩)
        · obtain ⟨rfl, o⟩ := h1.str
          rename_i z
          cases z with
          | nil => simp [dBi] at ho
          | cons c r2 =>
            cases r2 with
            | cons _ _ => simp [dBi] at ho
            | nil =>
              simp only [dBi] at ho
              split at ho
              · rename_i hz
                cases ho
                exact call_int_str pins s σ H _ us Q I rs ⟨_, _, rfl, digit_text hz.1 hz.2, by show 1 ≤ 640; decide, ok.val hl (.int _)⟩
              · cases ho
      | list =>
        cases d <;> first | (simp [dBi] at ho; done) | skip
        · obtain ⟨a, ys, rfl, h2, r2⟩ := h1.tup hl
          cases ho
          exact call_list_of pins s σ H _ us Q I rs ⟨a, ys, rfl, .inr h2, ok.newL hl r2⟩
        · obtain ⟨a, ys, rfl, h2, r2⟩ := h1.lst hl
          cases ho
          exact call_list_of pins s σ H _ us Q I rs ⟨a, ys, rfl, .inl (.inl h2), ok.newL hl r2⟩
        · cases (h1.rep (fun o => by cases o <;> (intro z; cases z))) with
          | kl h2 r2 =>
            cases ho
            exact call_list_of pins s σ H _ us Q I rs ⟨_, _, rfl, .inl (hl.fh.sqL h2), ok.newL hl r2⟩
      | tuple =>
        cases d <;> first | (simp [dBi] at ho; done) | skip
        · obtain ⟨a, ys, rfl, h2, r2⟩ := h1.tup hl
          cases ho
          exact call_tuple_of pins s σ H _ us Q I rs ⟨a, ys, rfl, .inr ⟨h2, ok.val hl (h1.rep (fun o => by cases o <;> (intro z; cases z)))⟩⟩
        · obtain ⟨a, ys, rfl, h2, r2⟩ := h1.lst hl
          cases ho
          exact call_tuple_of pins s σ H _ us Q I rs ⟨a, ys, rfl, .inl ⟨.inl h2, ok.newT hl r2⟩⟩
      | str =>
        cases d <;> first | (simp [dBi] at ho; done) | skip
        · obtain rfl := h1.int
          simp only [dBi] at ho
          split at ho
          · rename_i hz
            cases ho
            rename_i i
            obtain ⟨n, rfl⟩ := Int.eq_ofNat_of_zero_le hz.1
            have hn : n < 10 := by omega
            refine call_str_int pins s σ H _ us Q I rs ⟨_, rfl, ?_, ?_⟩
            · have h : n = 0 ∨ n = 1 ∨ n = 2 ∨ n = 3 ∨ n = 4 ∨ n = 5 ∨ n = 6 ∨ n = 7 ∨ n = 8 ∨ n = 9 := by omega
              rcases h with rfl | rfl | rfl | rfl | rfl | rfl | rfl | rfl | rfl | rfl <;> decide
            · rw [digits_text]
              refine ok.val hl (.str _ ?_)
              have h : n = 0 ∨ n = 1 ∨ n = 2 ∨ n = 3 ∨ n = 4 ∨ n = 5 ∨ n = 6 ∨ n = 7 ∨ n = 8 ∨ n = 9 := by omega
              rcases h with rfl | rfl | rfl | rfl | rfl | rfl | rfl | rfl | rfl | rfl <;> exact ⟨by decide, by decide⟩
          · cases ho
        · obtain ⟨rfl, o⟩ := h1.str
          cases ho
          exact SkE.call_str_str pins s σ H _ us Q I rs ⟨_, rfl, ok.val hl (.str _ o)⟩
      | min => cases d <;> simp [dBi] at ho
      | sorted =>
        cases d <;> first | (simp [dBi] at ho; done) | skip
        · obtain ⟨rfl, o⟩ := h1.str
          rename_i z
          simp only [dBi] at ho
          split at ho
          · rename_i hz
            cases ho
            refine cr_sortedText hc pins s σ H _ us Q I rs ⟨_, rfl, by show (S8 z).length < 64; rw [S8_length]; exact hz, fun ys p hp hs hn => ?_⟩
            rw [S8_cps] at hp
            obtain rfl := sorted_chS hp hs
            have e : (chars z).mergeSort leS = dch (z.mergeSort fun a b => decide (a ≤ b)) := sortN_dch z
            rw [e] at ok
            refine ok.newL hl ?_ p hn
            have hm : ∀ c ∈ z.mergeSort (fun a b => decide (a ≤ b)), okS [c] := fun c m => ⟨fun x q => by
              rw [List.mem_singleton.mp q]
              exact o.1 c ((List.mergeSort_perm z _).mem_iff.mp m), by show 1 ≤ lim; decide⟩
            clear ok hp hs
            unfold chS dch
            rw [List.map_map]
            generalize z.mergeSort (fun a b => decide (a ≤ b)) = l at hm ⊢
            induction l with
            | nil => exact .nil
            | cons c t ih => exact .cons (.str [c] (hm c List.mem_cons_self)) (ih fun y m => hm y (List.mem_cons_of_mem _ m))
          · cases ho
        · obtain ⟨a, ys, rfl, h2, r2⟩ := h1.lst hl
          simp only [dBi] at ho
          split at ho
          · rename_i hz
            cases ho
            exact cr_sortedD hu pins s σ H _ us Q I rs ⟨F, θ, w, a, ys, _, rfl, hl, .inl h2, r2, hz.1, fun us' p r hn => ok.newL hl r p hn⟩
          · cases ho
    | cons h2 t2 =>
      rename_i v2 vs2 d2 ds2
      cases t2 with
      | nil =>
        cases b <;> first | (simp [dBi] at ho; done) | skip
        cases d <;> first | (simp [dBi] at ho; done) | skip
        cases d2 <;> first | (simp [dBi] at ho; done) | skip
        obtain rfl := h1.int
        obtain rfl := h2.int
        cases ho
        exact call_min2 hc pins s σ H _ us Q I rs ⟨_, _, rfl, ok.val hl (.int _)⟩
      | cons h3 t3 => cases b <;> simp [dBi] at ho

/-! ### methods of texts, with one argument -/
def smN : Sm → Str
  | .join => "join"
  | .split => "split"
  | .count => "count"
  | .index => "index"
def smI : Sm → String
  | .join => "str.join"
  | .split => "str.split"
  | .count => "str.count"
  | .index => "str.index"
theorem sm_slot (m : Sm) : PySem.Slot "str" (smN m) (smI m) := by
  cases m
  · exact PySem.F.slot_str_join
  · exact PySem.F.slot_str_split
  · exact PySem.F.slot_str_count
  · exact PySem.F.slot_str_index
theorem sm_ty (m : Sm) : typeOf (.builtin (smI m)) = pure (.type "method_descriptor") := by
  cases m
  · exact PySem.F.type_str_join
  · exact PySem.F.type_str_split
  · exact PySem.F.type_str_count
  · exact PySem.F.type_str_index
def rSmD (K : PySem.W.Frag) (T : Tb) (m : Sm) : V → List V → Hp → VK → Prop := fun x xs H Q => ∃ F θ w d e y r, xs = [y] ∧ Hl K T F θ w H ∧ Drf K T F θ H x d ∧ Drf K T F θ H y e ∧ dSm m d [e] = some r ∧ Okr K T F θ H w r Q
theorem mt_D {X : Cx} {T : Tb} (m : Sm) : MtR X (smI m) (rSmD X.K T m) := by
  intro pins s σ H x xs v us Q I rx rs h
  obtain ⟨F, θ, w, d, e, y, r, rfl, hl, hd, he, ho, ok⟩ := h
  cases m with
  | join =>
    cases d <;> first | (simp [dSm] at ho; done) | skip
    obtain ⟨rfl, o⟩ := hd.str
    cases e <;> first | (simp [dSm] at ho; done) | skip
    obtain ⟨a, vs, rfl, h2, r2⟩ := he.lst hl
    simp only [dSm, Option.bind_eq_some_iff] at ho
    obtain ⟨ys, hy, ho⟩ := ho
    obtain ⟨ev, ov⟩ := reps_S r2 hy
    split at ho
    · rename_i hz
      cases ho
      refine mt_join pins s σ H _ _ v us Q I rx rs ⟨_, a, ys.map S8, rfl, rfl, .inl (.inl (ev ▸ h2)), ?_, ?_⟩
      · rw [List.map_map, List.length_map, S8_length]
        have e2 : ys.map ((fun x : Str => x.length) ∘ S8) = ys.map (·.length) := List.map_congr_left fun z _ => S8_length z
        rw [e2]
        exact hz
      · rw [glued_S8]
        refine ok.val hl (.str _ ⟨fun c m => ?_, Nat.le_trans (join_len _ _) hz⟩)
        rcases join_mem m with m | ⟨y, hy, m⟩
        · exact o.1 c m
        · exact (ov y hy).1 c m
    · cases ho
  | split =>
    cases d <;> first | (simp [dSm] at ho; done) | skip
    obtain ⟨rfl, o⟩ := hd.str
    cases e <;> first | (simp [dSm] at ho; done) | skip
    rename_i z c0
    cases c0 with
    | nil => simp [dSm] at ho
    | cons c r2 =>
      cases r2 with
      | cons _ _ => simp [dSm] at ho
      | nil =>
        obtain ⟨rfl, _⟩ := he.str
        simp only [dSm] at ho
        split at ho
        · rename_i hz
          cases ho
          refine mt_split pins s σ H _ _ v us Q I rx rs ⟨_, _, rfl, rfl, rfl, by rw [S8_length]; exact hz.1, ?_⟩
          have e1 : S8 [c] = (⟨#[c]⟩ : Str) := rfl
          rw [e1, split_S8 z c hz.2]
          refine ok.newL hl ?_
          rw [List.map_map]
          have hm : ∀ y ∈ splitS c z, okS y := fun y m => ⟨fun x q => o.1 x ((split_mem m).1 x q), Nat.le_trans (split_mem m).2 o.2⟩
          clear ok
          generalize splitS c z = l at hm ⊢
          induction l with
          | nil => exact .nil
          | cons y t ih => exact .cons (.str y (hm y List.mem_cons_self)) (ih fun y m => hm y (List.mem_cons_of_mem _ m))
        · cases ho
  | count =>
    cases d <;> first | (simp [dSm] at ho; done) | skip
    obtain ⟨rfl, o⟩ := hd.str
    cases e <;> first | (simp [dSm] at ho; done) | skip
    rename_i z c0
    cases c0 with
    | nil => simp [dSm] at ho
    | cons c r2 =>
      cases r2 with
      | cons _ _ => simp [dSm] at ho
      | nil =>
        obtain ⟨rfl, _⟩ := he.str
        simp only [dSm] at ho
        cases ho
        refine mt_count pins s σ H _ _ v us Q I rx rs ⟨_, _, rfl, rfl, ?_⟩
        have e1 : S8 [c] = (⟨#[c]⟩ : Str) := rfl
        rw [e1, count_S8]
        exact ok.val hl (.int _)
  | index =>
    cases d <;> first | (simp [dSm] at ho; done) | skip
    obtain ⟨rfl, o⟩ := hd.str
    cases e <;> first | (simp [dSm] at ho; done) | skip
    rename_i z c0
    cases c0 with
    | nil => simp [dSm] at ho
    | cons c r2 =>
      cases r2 with
      | cons _ _ => simp [dSm] at ho
      | nil =>
        obtain ⟨rfl, _⟩ := he.str
        simp only [dSm] at ho
        split at ho
        · rename_i hz
          cases ho
          have hm : c ∈ z := by simpa using hz
          exact mt_sindex pins s σ H _ _ v us Q I rx rs ⟨_, _, _, [], rfl, rfl, occ_index hm, ok.val hl (.int _)⟩
        · cases ho

section
variable {C : Ctx}
theorem bi_boot (b : Bi) : (∃ T, biV b = .type T ∧ bootBuiltins (biN b) = some (.type T)) ∨ ∃ id, biV b = .builtin id ∧ bootBuiltins (biN b) = some (.builtin id) := by
  cases b
  · exact .inr ⟨_, rfl, by decide +kernel⟩
  · exact .inr ⟨_, rfl, by decide +kernel⟩
  · exact .inr ⟨_, rfl, by decide +kernel⟩
  · exact .inl ⟨_, rfl, by decide +kernel⟩
  · exact .inl ⟨_, rfl, by decide +kernel⟩
  · exact .inl ⟨_, rfl, by decide +kernel⟩
  · exact .inr ⟨_, rfl, by decide +kernel⟩
  · exact .inl ⟨_, rfl, by decide +kernel⟩
  · exact .inr ⟨_, rfl, by decide +kernel⟩
  · exact .inr ⟨_, rfl, by decide +kernel⟩
theorem bi_mem (b : Bi) : biN b ∈ bnames := by cases b <;> decide +kernel
theorem je_bi (hcm : C.cm = true) {b : Bi} {e : Expr} {es : List Expr} {ms : Env → M (List D)} {p pos : Pos} (hg : C.sc.names.lookup (biN b) = some .globalImplicit) (ns : NoSt e) (nl : NoStL es) (ha : JAb C (e :: es) ms) :
    JE C (.Call (.Name (biN b) p) (e :: es) [] pos) (fun ρ => (ms ρ).bd fun ds w => rv (dBi b (ds.map (deref w))) w) := fun X on Wx tk => by
  have hG : Gl X (biN b) := by show X.env.scope.names.lookup _ = _; rw [on.sc]; exact hg
  have hm := on.fre _ (bi_mem b)
  have hn : biN b ≠ ("__name__" : Str) := by cases b <;> decide +kernel
  have hdb : (biN b == ("__debug__" : Str)) = false := by cases b <;> decide +kernel
  have key : PE X (.Call (.Name (biN b) p) (e :: es) [] pos) (tCB (rBiD X.K C.T b) (tAb X.K C.T C.xi ms Wx)) := by
    rcases bi_boot b with ⟨T, e1, e2⟩ | ⟨id, e1, e2⟩
    · exact pe_callTy (e1 ▸ call_D (on.calm hcm) (on.hr hcm).units b) hG hm e2 (ha X on Wx tk) hn hdb (ns es X.env) (nl X.env pos)
    · exact pe_callB (e1 ▸ call_D (on.calm hcm) (on.hr hcm).units b) hG hm e2 (ha X on Wx tk) hn hdb (ns es X.env) (nl X.env pos)
  refine imE key fun σ H Q q => ?_
  obtain ⟨B, F, θ, w, ρ, hx, fr, po⟩ := q
  refine ⟨B, F, θ, w, ρ, hx, fr, (Po.bd (m := ms ρ) (f := fun ds w => rv (dBi b (ds.map (deref w))) w) po).imp fun ds F1 θ1 w1 H1 s1 hl1 p1 vs src => ?_⟩
  unfold rv M.opt at p1
  cases e : dBi b (ds.map (deref w1)) with
  | none => rw [e] at p1; exact p1.elim
  | some z =>
    rw [e] at p1
    exact ⟨F1, θ1, w1, _, z, hl1, src.drf hl1, e, fun F' θ' H' s hl => (p1 F' θ' H' s hl).back s1⟩
/-- a text's method with one argument -/
theorem je_sm {m : Sm} {o e : Expr} {mo me : Env → M D} {apos pos : Pos} (hab : ∀ env, attributeBase o (smN m) env (eval o env) = eval o env) (ns : NoSt e) (hp : (apos.endLine == pos.line) = true) (ho : JD C o mo) (he : JB C e me) :
    JE C (.Call (.Attribute o (smN m) apos) [e] [] pos) (fun ρ => (mo ρ).bd fun x => (match x with
      | .str s => (me ρ).bd fun y w => rv (dSm m (.str s) [deref w y]) w
      | _ => fun _ => .bad)) := fun X on Wx tk => by
  refine imE (pe_m1 (sm_slot m) (sm_ty m) (mt_D (T := C.T) m) (ho X on Wx tk) (he X on Wx tk) (ns [] X.env) (hab X.env) hp) fun σ H Q q => ?_
  obtain ⟨B, F, θ, w, ρ, hx, fr, po⟩ := q
  refine ⟨B, F, θ, w, ρ, hx, fr, (Po.bd (m := mo ρ) (f := fun x => (match x with
      | .str s => (me ρ).bd fun y w => rv (dSm m (.str s) [deref w y]) w
      | _ => fun _ => .bad)) po).imp fun d1 F1 θ1 w1 H1 s1 hl1 p1 v1 r1 => ?_⟩
  cases r1 with
  | str s o =>
    refine ⟨⟨_, rfl⟩, B, F1, θ1, w1, ρ, hx, fr.step s1 hl1, (Po.bd (m := me ρ) (f := fun y w => rv (dSm m (.str s) [deref w y]) w) p1).imp fun d2 F2 θ2 w2 H2 s2 hl2 p2 v2 src2 => ?_⟩
    unfold rv M.opt at p2
    cases e : dSm m (.str s) [deref w2 d2] with
    | none => rw [e] at p2; exact p2.elim
    | some z =>
      rw [e] at p2
      exact ⟨F2, θ2, w2, .str s, _, v2, z, rfl, hl2, .inl (.str s o), src2.drf hl2, e, fun F' θ' H' s hl => (p2 F' θ' H' s hl).back (s1.trans s2)⟩
  | _ => exact p1.elim
/-! ### isinstance with a built-in class -/
def tyT : Ty → String
  | .str => "str"
  | .int => "int"
  | .bool => "bool"
  | .tup => "tuple"
  | .lst => "list"
  | .cls _ => ""
theorem isi_at {K : PySem.W.Frag} {T : Tb} {F H : Hp} {θ : List Addr} {w : Wd} {v : V} {d : D} {b : Bool} {t : Ty} (hl : Hl K T F θ w H) (ht : ∀ c, t ≠ .cls c) (h : Drf K T F θ H v d) (hi : ∀ c fs, d ≠ .ins c fs) (e : isTy t d = some b) :
    ∃ y, TyX K H v (.type y) ∧ PySem.W.kitOne K (.type y) (.type (tyT t)) = some b := by
  cases d with
  | non =>
    obtain rfl := h.non
    refine ⟨_, .base .non, ?_⟩
    cases t <;> first | (cases e; rfl) | exact absurd rfl (ht _)
  | bl x =>
    obtain rfl := h.bl
    refine ⟨_, .base (.bl _), ?_⟩
    cases t <;> first | (cases e; rfl) | exact absurd rfl (ht _)
  | int x =>
    obtain rfl := h.int
    refine ⟨_, .base (.int _), ?_⟩
    cases t <;> first | (cases e; rfl) | exact absurd rfl (ht _)
  | str x =>
    obtain ⟨rfl, _⟩ := h.str
    refine ⟨_, .base (.str _), ?_⟩
    cases t <;> first | (cases e; rfl) | exact absurd rfl (ht _)
  | tup x =>
    obtain ⟨a, vs, rfl, h1, r⟩ := h.tup hl
    have hty : TyX K H (.ref a) (.type "tuple") := by
      rcases h1 with (h1 | ⟨o, h1⟩) | ⟨o, _, _, h1, h2, _⟩
      · exact .base (.tup h1)
      · exact .fTuple h1
      · exact .kTuple h1 h2
    refine ⟨_, hty, ?_⟩
    cases t <;> first | (cases e; rfl) | exact absurd rfl (ht _)
  | lst x =>
    obtain ⟨a, vs, rfl, h1, r⟩ := h.lst hl
    have hty : TyX K H (.ref a) (.type "list") := by
      rcases h1 with h1 | ⟨o, h1⟩
      · exact .base (.lst h1)
      · exact .base (.frz h1)
    refine ⟨_, hty, ?_⟩
    cases t <;> first | (cases e; rfl) | exact absurd rfl (ht _)
  | dct x => cases t <;> cases e
  | ref n => cases t <;> cases e
  | kl x => cases t <;> cases e
  | ins c fs => exact absurd rfl (hi c fs)
theorem je_isi {t : Ty} {e : Expr} {me : Env → M D} {p p2 pos : Pos} (hg : C.sc.names.lookup ("isinstance" : Str) = some .globalImplicit) (hgt : C.sc.names.lookup (Str.ofString (tyT t)) = some .globalImplicit) (ht : ∀ c, t ≠ .cls c) (ns : NoSt e) (he : JB C e me) :
    JE C (.Call (.Name "isinstance" p) [e, .Name (Str.ofString (tyT t)) p2] [] pos) (fun ρ => (me ρ).bd fun x w => match deref w x with
      | .ins _ _ => .bad
      | d => bl (isTy t d) w) := fun X on Wx tk => by
  have hG : Gl X ("isinstance" : Str) := by show X.env.scope.names.lookup _ = _; rw [on.sc]; exact hg
  have hT : Gl X (Str.ofString (tyT t)) := by show X.env.scope.names.lookup _ = _; rw [on.sc]; exact hgt
  have hm := on.fre ("isinstance" : Str) (by decide +kernel)
  have hmT : X.mg (Str.ofString (tyT t)) = none := by
    refine on.fre _ ?_
    cases t <;> first | decide +kernel | exact absurd rfl (ht _)
  have hb : bootBuiltins (Str.ofString (tyT t)) = some (.type (tyT t)) := by cases t <;> first | decide +kernel | exact absurd rfl (ht _)
  have hn : Str.ofString (tyT t) ≠ ("__name__" : Str) := by cases t <;> first | decide +kernel | exact absurd rfl (ht _)
  have hdb : (Str.ofString (tyT t) == ("__debug__" : Str)) = false := by cases t <;> first | decide +kernel | exact absurd rfl (ht _)
  have args : PA X [e, .Name (Str.ofString (tyT t)) p2] (tCons (tBs X.K C.T C.xi me Wx) (tCons (tC (.ty (tyT t))) tNil)) :=
    pa_cons (he X on Wx tk) (pa_cons (pe_bltn hT hmT hb rfl hn hdb) pa_nil) (ns _ X.env)
  refine imE (pe_callB call_isi hG hm PyProof.Rows.boot_isinstance args (by decide +kernel) (by decide +kernel) (ns _ X.env) (nostl_cons (fun _ _ => rfl) nostl_nil X.env pos)) fun σ H Q q => ?_
  obtain ⟨B, F, θ, w, ρ, hx, fr, po⟩ := q
  refine ⟨B, F, θ, w, ρ, hx, fr, (Po.bd (m := me ρ) (f := fun x w => match deref w x with
      | .ins _ _ => .bad
      | d => bl (isTy t d) w) po).imp fun d1 F1 θ1 w1 H1 s1 hl1 p1 v1 src => ?_⟩
  have hd := src.drf hl1
  by_cases hi : ∃ c fs, deref w1 d1 = .ins c fs
  · obtain ⟨c, fs, z⟩ := hi
    rw [z] at p1
    exact p1.elim
  · have p2 : Po X.K C.T F1 θ1 H1 σ (bl (isTy t (deref w1 d1)) w1) (KE X.K C.T Q H) Wx := by
      revert p1 hi
      cases deref w1 d1 <;> intro p1 hi <;> first | exact p1 | exact absurd ⟨_, _, rfl⟩ hi
    unfold bl M.opt at p2
    cases e2 : isTy t (deref w1 d1) with
    | none => rw [e2] at p2; exact p2.elim
    | some b =>
      rw [e2] at p2
      obtain ⟨y, h1, h2⟩ := isi_at hl1 ht hd (fun c fs z => hi ⟨c, fs, z⟩) e2
      exact ⟨v1, .ty (tyT t), _, _, b, rfl, .ty _, h1, h2, p2 F1 θ1 H1 Step.refl hl1 _ (.bl b)⟩
end
end My

set_option Elab.async false
set_option linter.all false
set_option maxRecDepth 100000
set_option maxHeartbeats 4000000
/-! Mini12: what is walked over; targets; comprehensions. -/
namespace My
open PySem L2

section
variable {K : PySem.W.Frag} {T : Tb} {B : Bs} {F F' H H' : Hp} {θ θ' : List Addr} {w w' : Wd} {σ σ' : St} {ρ ρ' : Env} {v : V} {d : D}
/-- other slots, over the same heap -/
theorem Fr.env (f : Fr K T B F θ w H σ ρ) (hl : σ'.length = ρ'.length)
    (h : ∀ (i : Nat) (s : Slot) (v : Option V), ρ'[i]? = some s → σ'[i]? = some v → s = .u ∨ (ρ[i]? = some s ∧ σ[i]? = some v) ∨ ∃ d x, s = .v d ∧ v = some x ∧ Rep K T F θ x d) : Fr K T B F θ w H σ' ρ' where
  hl := f.hl
  keep := f.keep
  ext := f.ext
  pre := f.pre
  fre := f.fre
  live := f.live
  len := hl
  sl := fun i s v h1 h2 => by
    rcases h i s v h1 h2 with rfl | ⟨a, b⟩ | ⟨d, x, rfl, rfl, r⟩
    · trivial
    · exact f.sl i s v a b
    · exact ⟨x, rfl, r⟩
  di := fun i j o o' p hij h1 h2 h3 h4 => by
    rcases h i _ _ h1 h3 with z | ⟨a, b⟩ | ⟨_, _, z, _⟩
    · cases z
    · rcases h j _ _ h2 h4 with z | ⟨a', b'⟩ | ⟨_, _, z, _⟩
      · cases z
      · exact f.di i j o o' p hij a a' b b'
      · cases z
    · cases z
theorem set_cases {α : Type} {xs : List α} {i j : Nat} {x y : α} (h : (xs.set i x)[j]? = some y) : (j = i ∧ y = x ∧ i < xs.length) ∨ (j ≠ i ∧ xs[j]? = some y) := by
  by_cases e : i = j
  · subst e
    by_cases hl : i < xs.length
    · rw [List.getElem?_set_self hl] at h
      exact .inl ⟨rfl, (Option.some.inj h).symm, hl⟩
    · rw [List.getElem?_eq_none (by simpa using hl)] at h; cases h
  · rw [List.getElem?_set_ne e] at h
    exact .inr ⟨fun z => e z.symm, h⟩
/-- a value into a slot -/
theorem Fr.setV (f : Fr K T B F θ w H σ ρ) (i : Nat) {x : V} {d : D} (r : Rep K T F θ x d) : Fr K T B F θ w H (σ.set i (some x)) (ρ.set i (.v d)) :=
  f.env (by rw [List.length_set, List.length_set]; exact f.len) fun j s v h1 h2 => by
    rcases set_cases h1 with ⟨rfl, rfl, hl⟩ | ⟨n, h1⟩
    · rcases set_cases h2 with ⟨_, rfl, _⟩ | ⟨n, h2⟩
      · exact .inr (.inr ⟨d, x, rfl, rfl, r⟩)
      · exact absurd rfl n
    · rcases set_cases h2 with ⟨e, _⟩ | ⟨_, h2⟩
      · exact absurd e n
      · exact .inr (.inl ⟨h1, h2⟩)
theorem wipeE_cases : ∀ {l : List Nat} {ρ : Env} {i : Nat} {s : Slot}, (wipeE l ρ)[i]? = some s → s = .u ∨ (i ∉ l ∧ ρ[i]? = some s)
  | [], ρ, i, s, h => .inr ⟨by simp, h⟩
  | j :: l, ρ, i, s, h => by
    rcases wipeE_cases (l := l) (ρ := ρ.set j .u) h with e | ⟨n, h⟩
    · exact .inl e
    · rcases set_cases h with ⟨_, e, _⟩ | ⟨n2, h⟩
      · exact .inl e
      · exact .inr ⟨by simp [n, n2], h⟩
theorem wipeE_len : ∀ {l : List Nat} {ρ : Env}, (wipeE l ρ).length = ρ.length
  | [], _ => rfl
  | j :: l, ρ => (wipeE_len (l := l) (ρ := ρ.set j .u)).trans (List.length_set ..)
/-- own names of a block forgotten -/
theorem Fr.wipe (f : Fr K T B F θ w H σ ρ) (l l' : List Nat) (h : ∀ i, i ∈ l ↔ i ∈ l') : Fr K T B F θ w H (wipe σ l) (wipeE l' ρ) :=
  f.env (by rw [wipe_length, wipeE_len]; exact f.len) fun j s v h1 h2 => by
    rcases wipeE_cases h1 with e | ⟨n, h1⟩
    · exact .inl e
    · rw [wipe_out (fun m => n ((h j).mp m))] at h2
      exact .inr (.inl ⟨h1, h2⟩)

/-! ### walks -/
/-- J walks over ds -/
structure ItOk (K : PySem.W.Frag) (T : Tb) (F0 : Hp) (θ0 : List Addr) (ds : List D) (J : L2.It) : Prop where
  goes : ∀ i F θ w H, Grow F0 θ0 F θ → Hl K T F θ w H → i < ds.length → J.go i H
  stops : ∀ F θ w H, Grow F0 θ0 F θ → Hl K T F θ w H → J.stop ds.length H
  yields : ∀ i d F θ w H x H', Grow F0 θ0 F θ → Hl K T F θ w H → ds[i]? = some d → J.yld i H x H' → ∃ F', Step F θ H F' θ H' ∧ Hl K T F' θ w H' ∧ Rep K T F' θ x d
def KI (K : PySem.W.Frag) (T : Tb) (R : L2.It → Hp → Prop) (_ : Hp) : List D → Hp → List Addr → Wd → Hp → Prop := fun ds F' θ' _ H' => ∀ J, ItOk K T F' θ' ds J → R J H'
def tI (K : PySem.W.Frag) (T : Tb) (xi : Option (Addr × Option Addr)) (m : Env → M (List D)) (Wx : WX) : TI := fun σ H R => Tr K T xi m (KI K T R) Wx σ H
def JI (C : Ctx) (tg iter : Expr) (m : Env → M (List D)) : Prop := ∀ X, On C X → ∀ Wx, Takes X Wx → PI X tg iter (tI X.K C.T C.xi m Wx)
theorem imI {X : Cx} {tg e : Expr} {t t' : TI} (h : PI X tg e t) (i : ∀ σ H Q, t' σ H Q → t σ H Q) : PI X tg e t' := ⟨fun pins s σ H Q I q => h.run pins s σ H Q I (i σ H Q q)⟩
theorem Reps.at_ {vs : List V} {ds : List D} {i : Nat} {d : D} {x : V} (r : Reps K T F θ vs ds) (h : ds[i]? = some d) (e : vs[i]? = some x) : Rep K T F θ x d := by
  obtain ⟨v, e1, r1⟩ := r.get h
  rw [e] at e1; cases e1; exact r1
theorem itOk_list {a : Addr} {vs : List V} {ds : List D} (h : Rd F a (.lst vs)) (r : Reps K T F θ vs ds) : ItOk K T F θ ds (Itl K a) := by
  have q : ∀ F' θ' w H, Grow F θ F' θ' → Hl K T F' θ' w H → SqL K H a vs := fun F' θ' w H g hl => .inl (hl.fh.rdl (rd_mono g.ext h))
  have wk := walk_list (K := K) (a := a) (xs := vs)
  refine ⟨fun i F' θ' w H g hl hi => wk.goes i H (by rw [r.length]; exact hi) (q _ _ _ _ g hl), fun F' θ' w H g hl => by rw [← r.length]; exact wk.stops H (q _ _ _ _ g hl), fun i d F' θ' w H x H' g hl hd y => ?_⟩
  obtain ⟨rfl, e⟩ := wk.yields i H x H' (by rw [r.length]; exact (List.getElem?_eq_some_iff.mp hd).1) (q _ _ _ _ g hl) y
  exact ⟨F', Step.refl, hl, (r.mono g).at_ hd e⟩
theorem itOk_tup {a : Addr} {vs : List V} {ds : List D} (h : SqT K F a vs) (r : Reps K T F θ vs ds) : ItOk K T F θ ds (Itt K a) := by
  have q : ∀ F' θ' w H, Grow F θ F' θ' → Hl K T F' θ' w H → SqT K H a vs := fun F' θ' w H g hl => hl.fh.sqT (sqT_mono g.ext h)
  have wk := walk_tup (K := K) (a := a) (xs := vs)
  refine ⟨fun i F' θ' w H g hl hi => wk.goes i H (by rw [r.length]; exact hi) (q _ _ _ _ g hl), fun F' θ' w H g hl => by rw [← r.length]; exact wk.stops H (q _ _ _ _ g hl), fun i d F' θ' w H x H' g hl hd y => ?_⟩
  obtain ⟨rfl, e⟩ := wk.yields i H x H' (by rw [r.length]; exact (List.getElem?_eq_some_iff.mp hd).1) (q _ _ _ _ g hl) y
  exact ⟨F', Step.refl, hl, (r.mono g).at_ hd e⟩
theorem itOk_str {s : List Nat} (o : okS s) : ItOk K T F θ (chars s) (Its (S8 s)) := by
  have wk := walk_str (z := S8 s)
  have hn : (S8 s).cps.size = (chars s).length := by simp [chars]
  refine ⟨fun i F' θ' w H g hl hi => wk.goes i H (by rw [hn]; exact hi) trivial, fun F' θ' w H g hl => by rw [← hn]; exact wk.stops H trivial, fun i d F' θ' w H x H' g hl hd y => ?_⟩
  obtain ⟨rfl, c, e, rfl⟩ := wk.yields i H x H' (by rw [hn]; exact (List.getElem?_eq_some_iff.mp hd).1) trivial y
  refine ⟨F', Step.refl, hl, ?_⟩
  have e1 : s[i]? = some c := by simpa using e
  have e2 : d = .str [c] := by
    unfold chars at hd
    rw [List.getElem?_map, e1] at hd
    exact (Option.some.inj hd).symm
  subst e2
  exact .str [c] ⟨fun z hz => by rw [List.mem_singleton] at hz; subst hz; exact o.1 _ (List.mem_of_getElem? e1), (show 1 ≤ lim by decide)⟩
theorem itOk_range {lo : Int} {n : Nat} : ItOk K T F θ ((List.range n).map fun (i : Nat) => D.int (lo + (i : Int))) (Itr lo n) := by
  have wk := walk_range (lo := lo) (n := n)
  have hn : ((List.range n).map fun (i : Nat) => D.int (lo + (i : Int))).length = n := by simp
  refine ⟨fun i F' θ' w H g hl hi => wk.goes i H (by rw [hn] at hi; exact hi) trivial, fun F' θ' w H g hl => by rw [hn]; exact wk.stops H trivial, fun i d F' θ' w H x H' g hl hd y => ?_⟩
  have hi : i < n := by have := (List.getElem?_eq_some_iff.mp hd).1; rw [hn] at this; exact this
  obtain ⟨rfl, rfl⟩ := wk.yields i H x H' hi trivial y
  refine ⟨F', Step.refl, hl, ?_⟩
  rw [List.getElem?_map, List.getElem?_range hi] at hd
  cases hd
  exact .int _
/-- a new pair -/
theorem pair_new {a b : V} {da db : D} {p : Addr} (hl : Hl K T F θ w H) (hp : H p = none) (ha : Rep K T F θ a da) (hb : Rep K T F θ b db) :
    ∃ F', Step F θ H F' θ (upd H p (.tup [a, b])) ∧ Hl K T F' θ w (upd H p (.tup [a, b])) ∧ Rep K T F' θ (.ref p) (.tup [da, db]) := by
  have hF := hl.fnone hp
  have g : Grow F θ (upd F p (.tup [a, b])) θ := ⟨fun a o e => by rw [upd_ne (ne_of_none e hF)]; exact e, [], by simp⟩
  exact ⟨_, Step.new hp hF, hl.new hp, .tup (SqT.of upd_same) (.cons (ha.mono g) (.cons (hb.mono g) .nil))⟩
theorem enm_get : ∀ {ds : List D} {k i : Nat} {d : D}, (enmD k ds)[i]? = some d → ∃ e, ds[i]? = some e ∧ d = .tup [.int ((k + i : Nat) : Int), e]
  | [], _, _, _, h => by simp [enmD] at h
  | x :: ds, k, 0, d, h => by
    simp [enmD] at h
    exact ⟨x, rfl, h.symm⟩
  | x :: ds, k, i + 1, d, h => by
    have h' : (enmD (k + 1) ds)[i]? = some d := by simpa [enmD] using h
    obtain ⟨e, h1, h2⟩ := enm_get h'
    exact ⟨e, by simpa using h1, by rw [h2, show k + 1 + i = k + (i + 1) by omega]⟩
theorem enm_len : ∀ {ds : List D} {k : Nat}, (enmD k ds).length = ds.length
  | [], _ => rfl
  | x :: ds, k => by rw [enmD, List.length_cons, List.length_cons, enm_len]
theorem itOk_enum {a : Addr} {vs : List V} {ds : List D} (h : Rd F a (.lst vs)) (r : Reps K T F θ vs ds) : ItOk K T F θ (enmD 0 ds) (Ite K a) := by
  have q : ∀ F' θ' w H, Grow F θ F' θ' → Hl K T F' θ' w H → SqL K H a vs := fun F' θ' w H g hl => .inl (hl.fh.rdl (rd_mono g.ext h))
  have wk := walk_enum (K := K) (a := a) (xs := vs)
  have hn : vs.length = (enmD 0 ds).length := by rw [enm_len, r.length]
  refine ⟨fun i F' θ' w H g hl hi => wk.goes i H (by rw [hn]; exact hi) (q _ _ _ _ g hl), fun F' θ' w H g hl => by rw [← hn]; exact wk.stops H (q _ _ _ _ g hl), fun i d F' θ' w H x H' g hl hd y => ?_⟩
  obtain ⟨p, v1, v2, rfl, hp, rfl, e1, e2⟩ := wk.yields i H x H' (by rw [hn]; exact (List.getElem?_eq_some_iff.mp hd).1) (q _ _ _ _ g hl) y
  obtain ⟨e, h1, rfl⟩ := enm_get hd
  cases e1
  rw [Nat.zero_add]
  exact pair_new hl hp (.int _) ((r.mono g).at_ h1 e2)
theorem zp_get : ∀ {xs ys : List D} {i : Nat} {d : D}, (zpD xs ys)[i]? = some d → ∃ a b, xs[i]? = some a ∧ ys[i]? = some b ∧ d = .tup [a, b]
  | [], _, _, _, h => by simp [zpD] at h
  | x :: xs, [], _, _, h => by simp [zpD] at h
  | x :: xs, y :: ys, 0, d, h => by
    simp [zpD] at h
    exact ⟨x, y, rfl, rfl, h.symm⟩
  | x :: xs, y :: ys, i + 1, d, h => by
    have h' : (zpD xs ys)[i]? = some d := by simpa [zpD] using h
    obtain ⟨a, b, h1, h2, h3⟩ := zp_get h'
    exact ⟨a, b, by simpa using h1, by simpa using h2, h3⟩
theorem zp_len : ∀ {xs ys : List D}, (zpD xs ys).length = min xs.length ys.length
  | [], _ => by simp [zpD]
  | x :: xs, [] => by simp [zpD]
  | x :: xs, y :: ys => by simp [zpD, zp_len]
theorem itOk_zip {a b : Addr} {vs us : List V} {ds es : List D} (h : Rd F a (.lst vs)) (r : Reps K T F θ vs ds) (h2 : Rd F b (.lst us)) (r2 : Reps K T F θ us es) : ItOk K T F θ (zpD ds es) (Itz K a b) := by
  have q : ∀ F' θ' w H, Grow F θ F' θ' → Hl K T F' θ' w H → SqL K H a vs ∧ SqL K H b us := fun F' θ' w H g hl => ⟨.inl (hl.fh.rdl (rd_mono g.ext h)), .inl (hl.fh.rdl (rd_mono g.ext h2))⟩
  have wk := walk_zip (K := K) (a := a) (b := b) (xs := vs) (ys := us) rfl
  have hn : min vs.length us.length = (zpD ds es).length := by rw [zp_len, r.length, r2.length]
  refine ⟨fun i F' θ' w H g hl hi => wk.goes i H (by rw [hn]; exact hi) (q _ _ _ _ g hl), fun F' θ' w H g hl => by rw [← hn]; exact wk.stops H (q _ _ _ _ g hl), fun i d F' θ' w H x H' g hl hd y => ?_⟩
  obtain ⟨p, v1, v2, rfl, hp, rfl, e1, e2⟩ := wk.yields i H x H' (by rw [hn]; exact (List.getElem?_eq_some_iff.mp hd).1) (q _ _ _ _ g hl) y
  obtain ⟨e, e', h1, h3, rfl⟩ := zp_get hd
  exact pair_new hl hp ((r.mono g).at_ h1 e1) ((r2.mono g).at_ h3 e2)
end
/-- a list, a tuple, a text: whatever comes -/
def iAny (K : PySem.W.Frag) (te : TE) : TI := fun σ H R => te σ H fun x H1 => (∃ a xs, x = .ref a ∧ SqL K H1 a xs ∧ R (Itl K a) H1) ∨ (∃ a xs, x = .ref a ∧ SqT K H1 a xs ∧ R (Itt K a) H1) ∨ ∃ z, x = .str z ∧ R (Its z) H1
theorem pi_any {X : Cx} {tg e : Expr} {te : TE} (he : PE X e te) : PI X tg e (iAny X.K te) := by
  refine ⟨fun pins s σ H R I h => ?_⟩
  refine thn (he.run pins s σ H _ I h) fun u s1 ⟨x, H1, J1, rx, cs⟩ => ?_
  rcases cs with ⟨a, xs, rfl, sq, q⟩ | ⟨a, xs, rfl, sq, q⟩ | ⟨z, rfl, q⟩
  · obtain rfl : u = Value.ref a := rx
    obtain ⟨its, rv, hp, hz⟩ := J1.list sq
    exact wpAny_pyIter_list hp.isList (pi_one (tk := s1.toks) J1 _ (turn_list a _) ⟨_, Heap.get?_push_size _ rfl, rfl, rfl⟩ q)
  · obtain rfl : u = Value.ref a := rx
    obtain ⟨its, rv, hp, hz⟩ := J1.tuple sq
    exact wpAny_pyIter_tuple (show s1.heap.IsTuple a its.toArray from hp) (pi_one (tk := s1.toks) J1 _ (turn_tuple a _) ⟨_, Heap.get?_push_size _ rfl, rfl, rfl⟩ q)
  · obtain ⟨t, rfl⟩ := rx
    cases hw : z.cps.all (· < 128)
    · exact wpAny_pyIter_wide hw (pi_one (tk := s1.toks) J1 _ (turn_str _ z t "str_iterator" (.inr rfl)) ⟨_, Heap.get?_push_size _ rfl, rfl, rfl⟩ q)
    · exact wpAny_pyIter_ascii hw (pi_one (tk := s1.toks) J1 _ (turn_str _ z t "str_ascii_iterator" (.inl rfl)) ⟨_, Heap.get?_push_size _ rfl, rfl, rfl⟩ q)
section
variable {C : Ctx}
theorem ji_on {tg e : Expr} {m : Env → M D} (h : JD C e m) : JI C tg e (fun ρ => (m ρ).bd fun x => M.opt (items x)) := fun X on Wx tk =>
  imI (pi_any (h X on Wx tk)) fun σ H R q => by
    obtain ⟨B, F, θ, w, ρ, hx, fr, po⟩ := q
    refine ⟨B, F, θ, w, ρ, hx, fr, (Po.bd (f := fun x => M.opt (items x)) po).imp fun d F1 θ1 w1 H1 s1 hl1 p1 v rv => ?_⟩
    unfold M.opt at p1
    cases rv with
    | str s o => exact .inr (.inr ⟨_, rfl, p1 F1 θ1 H1 Step.refl hl1 _ (itOk_str o)⟩)
    | tup h r => exact .inr (.inl ⟨_, _, rfl, hl1.fh.sqT h, p1 F1 θ1 H1 Step.refl hl1 _ (itOk_tup h r)⟩)
    | lst h r => exact .inl ⟨_, _, rfl, .inl (hl1.fh.rdl h), p1 F1 θ1 H1 Step.refl hl1 _ (itOk_list h r)⟩
    | _ => exact p1.elim
theorem Gl_of {X : Cx} {x : Str} (on : On C X) (h : C.sc.names.lookup x = some .globalImplicit) : Gl X x := by show X.env.scope.names.lookup _ = _; rw [on.sc]; exact h
theorem Po.later {α : Type} {K : PySem.W.Frag} {T : Tb} {F H F' H' : Hp} {θ θ' : List Addr} {σ : St} {Wx : WX} {r : R α} {k : α → Hp → List Addr → Wd → Hp → Prop} (po : Po K T F θ H σ r k Wx) (s : Step F θ H F' θ' H') : Po K T F' θ' H' σ r k Wx := by
  cases r with
  | ok a w => exact fun F2 θ2 H2 s2 hl2 => po F2 θ2 H2 (s.trans s2) hl2
  | exc c fs w => exact fun F2 θ2 H2 cls od s2 hl2 x => po F2 θ2 H2 cls od (s.trans s2) hl2 x
  | bad => exact po
/-- one value, as arguments -/
theorem Po.one {K : PySem.W.Frag} {T : Tb} {F H : Hp} {θ : List Addr} {w : Wd} {σ : St} {Wx : WX} {α : Type} {m : M D} {f : D → M α} {k : α → Hp → List Addr → Wd → Hp → Prop} {Q : List V → Hp → Prop}
    (po : Po K T F θ H σ ((m.bd f) w) k Wx)
    (h : ∀ x F' θ' w' H' v, Step F θ H F' θ' H' → Hl K T F' θ' w' H' → Po K T F' θ' H' σ (f x w') k Wx → Rep K T F' θ' v x → Q [v] H') :
    Po K T F θ H σ ((m.bd fun x => (M.ret []).bd fun xs => M.ret (x :: xs)) w) (KA K T Q H) Wx := by
  unfold M.bd at po ⊢
  cases e : m w with
  | bad => rw [e] at po; exact po
  | exc c fs w' => rw [e] at po; exact po
  | ok d w' =>
    rw [e] at po
    intro F2 θ2 H2 s2 hl2 vs rvs
    cases rvs with
    | cons r rr => cases rr; exact h _ _ _ _ _ _ s2 hl2 (po.later s2) r
/-- two values, as arguments -/
theorem Po.two {K : PySem.W.Frag} {T : Tb} {F H : Hp} {θ : List Addr} {w : Wd} {σ : St} {Wx : WX} {α : Type} {m m2 : M D} {f : D → D → M α} {k : α → Hp → List Addr → Wd → Hp → Prop} {Q : List V → Hp → Prop}
    (po : Po K T F θ H σ ((m.bd fun x => m2.bd fun y => f x y) w) k Wx)
    (h : ∀ x y F' θ' w' H' v u, Step F θ H F' θ' H' → Hl K T F' θ' w' H' → Po K T F' θ' H' σ (f x y w') k Wx → Rep K T F' θ' v x → Rep K T F' θ' u y → Q [v, u] H') :
    Po K T F θ H σ ((m.bd fun x => (m2.bd fun y => (M.ret []).bd fun xs => M.ret (y :: xs)).bd fun xs => M.ret (x :: xs)) w) (KA K T Q H) Wx := by
  unfold M.bd at po ⊢
  cases e : m w with
  | bad => rw [e] at po; exact po
  | exc c fs w' => rw [e] at po; exact po
  | ok d w' =>
    rw [e] at po
    dsimp only at po ⊢
    cases e2 : m2 w' with
    | bad => rw [e2] at po; exact po
    | exc c fs w' => rw [e2] at po; exact po
    | ok d2 w2 =>
      rw [e2] at po
      intro F2 θ2 H2 s2 hl2 vs rvs
      cases rvs with
      | cons r rr =>
        cases rr with
        | cons r2 rr => cases rr; exact h _ _ _ _ _ _ _ _ s2 hl2 (po.later s2) r r2
theorem rng_eq (i j : Int) : rngD i j = (List.range (j - i).toNat).map fun (n : Nat) => D.int (i + (n : Int)) := rfl
theorem ji_rng1 {tg a : Expr} {p pos : Pos} {m : Env → M D} (hg : C.sc.names.lookup ("range" : Str) = some .globalImplicit) (hs : NoSt a) (h : JD C a m) : JI C tg (.Call (.Name "range" p) [a] [] pos) (fun ρ => (m ρ).bd fun x => (match x with
    | D.int j => if -(2 ^ 62) ≤ j ∧ j < 2 ^ 62 then M.ret (rngD 0 j) else fun _ => .bad
    | _ => fun _ => .bad)) := fun X on Wx tk =>
  imI (pi_range1 (Gl_of on hg) (on.fre _ (by decide)) (ja_cons hs h ja_nil X on Wx tk) (hs [] X.env)) fun σ H R q => by
    obtain ⟨B, F, θ, w, ρ, hx, fr, po⟩ := q
    refine ⟨B, F, θ, w, ρ, hx, fr, po.one fun x F1 θ1 w1 H1 v s1 hl1 p1 r => ?_⟩
    cases r with
    | int j =>
      by_cases hj : -(2 ^ 62) ≤ j ∧ j < 2 ^ 62
      · simp only [if_pos hj] at p1
        refine ⟨j, rfl, hj.1, hj.2, p1 F1 θ1 H1 Step.refl hl1 (Itr 0 j.toNat) ?_⟩
        rw [rng_eq, Int.sub_zero]
        exact itOk_range
      · simp only [if_neg hj] at p1
        exact p1.elim
    | _ => exact p1.elim
theorem ji_rng2 {tg a b : Expr} {p pos : Pos} {m m2 : Env → M D} (hg : C.sc.names.lookup ("range" : Str) = some .globalImplicit) (hs : NoSt a) (hs2 : NoSt b) (h : JD C a m) (h2 : JD C b m2) : JI C tg (.Call (.Name "range" p) [a, b] [] pos) (fun ρ => (m ρ).bd fun x => (m2 ρ).bd fun y => (match x, y with
    | D.int i, D.int j => if -(2 ^ 62) ≤ i ∧ i < 2 ^ 62 ∧ -(2 ^ 62) ≤ j ∧ j < 2 ^ 62 then M.ret (rngD i j) else fun _ => .bad
    | _, _ => fun _ => .bad)) := fun X on Wx tk =>
  imI (pi_range2 (Gl_of on hg) (on.fre _ (by decide)) (ja_cons hs h (ja_cons hs2 h2 ja_nil) X on Wx tk) ((hs [b] X.env).trans (by rw [hs2]; rfl)) (hs2 [] X.env)) fun σ H R q => by
    obtain ⟨B, F, θ, w, ρ, hx, fr, po⟩ := q
    refine ⟨B, F, θ, w, ρ, hx, fr, Po.two (f := fun x y => (match x, y with
    | D.int i, D.int j => if -(2 ^ 62) ≤ i ∧ i < 2 ^ 62 ∧ -(2 ^ 62) ≤ j ∧ j < 2 ^ 62 then M.ret (rngD i j) else fun _ => .bad
    | _, _ => fun _ => .bad)) po fun x y F1 θ1 w1 H1 v u s1 hl1 p1 r r2 => ?_⟩
    cases r with
    | int i =>
      cases r2 with
      | int j =>
        by_cases hj : -(2 ^ 62) ≤ i ∧ i < 2 ^ 62 ∧ -(2 ^ 62) ≤ j ∧ j < 2 ^ 62
        · simp only [if_pos hj] at p1
          refine ⟨i, j, rfl, hj, p1 F1 θ1 H1 Step.refl hl1 (Itr i (j - i).toNat) ?_⟩
          rw [rng_eq]
          exact itOk_range
        · simp only [if_neg hj] at p1
          exact p1.elim
      | _ => exact p1.elim
    | _ => first | exact p1.elim | (cases r2 <;> exact p1.elim)
end
end My

set_option Elab.async false
set_option linter.all false
set_option maxRecDepth 100000
set_option maxHeartbeats 4000000
/-! Mini13: targets, comprehensions. -/
namespace My
open PySem L2

def gTps : List Nat → TGs
  | [] => gNil
  | i :: l => gCons (gName i) (gTps l)
def gTg (K : PySem.W.Frag) : Tg → TG
  | .nm i => gName i
  | .tp l => gTup K l.length (gTps l)
/-- a written name that is slot i -/
def nmIs (N : List Str) (g : Str → Bool) (i : Nat) (e : Expr) : Bool := match e with
  | .Name x _ => N[i]? == some x && g x
  | _ => false
def nmsIs (N : List Str) (g : Str → Bool) : List Nat → List Expr → Bool
  | [], [] => true
  | i :: l, e :: es => nmIs N g i e && nmsIs N g l es
  | _, _ => false
def tgIs (N : List Str) (g : Str → Bool) (tg : Tg) (e : Expr) : Bool := match tg with
  | .nm i => nmIs N g i e
  | .tp l => match e with
    | .Tuple es _ _ => nmsIs N g l es
    | _ => false
def isLoc (sc : Scope) (x : Str) : Bool := sc.names.lookup x == some .local
def isLC (sc : Scope) (x : Str) : Bool := sc.names.lookup x == some .local || sc.names.lookup x == some .cell
/-- what may be stored here -/
def StOk (X : Cx) (g : Str → Bool) : Prop := ∀ x, g x = true → Loc X.env.scope x ∧ (X.fn x = true ∨ X.env.scope.names.lookup x = some .local)
section
variable {X : Cx} {g : Str → Bool}
theorem stOk_loc : StOk X (isLoc X.env.scope) := fun x h => by
  unfold isLoc at h
  simp only [beq_iff_eq] at h
  exact ⟨.inl h, .inr h⟩
theorem stOk_fn (hf : ∀ x, X.fn x = true) : StOk X (isLC X.env.scope) := fun x h => by
  unfold isLC at h
  simp only [Bool.or_eq_true, beq_iff_eq] at h
  exact ⟨h, .inl (hf x)⟩
theorem nmIs_name {N : List Str} {i : Nat} {e : Expr} (h : nmIs N g i e = true) : ∃ x p, e = .Name x p ∧ N[i]? = some x ∧ g x = true := by
  unfold nmIs at h
  split at h
  · simp only [Bool.and_eq_true, beq_iff_eq] at h
    exact ⟨_, _, rfl, h⟩
  · cases h
theorem pg_nmIs (hN : X.N.Nodup) (ok : StOk X g) {i : Nat} {e : Expr} (h : nmIs X.N g i e = true) : PG X e (gName i) := by
  obtain ⟨x, p, rfl, h1, h2⟩ := nmIs_name h
  exact pg_name hN h1 (ok x h2).1 (ok x h2).2
theorem pgs_nmsIs (hN : X.N.Nodup) (ok : StOk X g) : ∀ {l : List Nat} {es : List Expr}, nmsIs X.N g l es = true → PGs X es (gTps l) ∧ (assignEach es X.env).length = l.length ∧ (assignEach es X.env).findIdx? (·.1) = none
  | [], [], _ => ⟨pgs_nil, rfl, rfl⟩
  | [], _ :: _, h => by cases h
  | _ :: _, [], h => by cases h
  | i :: l, e :: es, h => by
    unfold nmsIs at h
    rw [Bool.and_eq_true] at h
    obtain ⟨a, b, c⟩ := pgs_nmsIs hN ok h.2
    have q := pg_nmIs hN ok h.1
    obtain ⟨x, p, rfl, _, _⟩ := nmIs_name h.1
    refine ⟨pgs_cons q a rfl, ?_, ?_⟩
    · show (assignEach es X.env).length + 1 = l.length + 1
      rw [b]
    · show ((false, assign (.Name x p) X.env) :: assignEach es X.env).findIdx? (·.1) = none
      rw [List.findIdx?_cons, c]
      rfl
theorem pg_tgIs (hc : X.calm = true) (hN : X.N.Nodup) (ok : StOk X g) {tg : Tg} {e : Expr} (h : tgIs X.N g tg e = true) : PG X e (gTg X.K tg) := by
  cases tg with
  | nm i => exact pg_nmIs hN ok h
  | tp l =>
    unfold tgIs at h
    dsimp only at h
    split at h
    · obtain ⟨a, b, c⟩ := pgs_nmsIs hN ok h
      exact pg_tup hc a b c
    · cases h
end
section
variable {K : PySem.W.Frag} {T : Tb} {B : Bs} {F F' H H' : Hp} {θ θ' : List Addr} {w w' : Wd} {σ σ' : St} {ρ ρ' : Env} {v : V} {d : D}
theorem wipe_in {vs : List Nat} {j : Nat} (hj : j ∈ vs) (σ : St) : (L2.wipe σ vs)[j]? = if j < σ.length then some none else none := by
  have hl : (L2.wipe σ vs).length = σ.length := wipe_length σ vs
  by_cases hl2 : j < σ.length
  · rw [if_pos hl2]
    have e : j < (L2.wipe σ vs).length := by rw [hl]; exact hl2
    rw [List.getElem?_eq_getElem e]
    cases z : (L2.wipe σ vs)[j] with
    | none => rfl
    | some x =>
      have := wipe_some (σ := σ) (vs := vs) (i := j) (x := x) (by rw [List.getElem?_eq_getElem e, z])
      exact absurd hj this.2
  · rw [if_neg hl2, List.getElem?_eq_none (by omega)]
theorem wipe_wipe {vs : List Nat} {σ : St} : L2.wipe (L2.wipe σ vs) vs = L2.wipe σ vs := by
  apply List.ext_getElem?
  intro j
  by_cases hj : j ∈ vs
  · rw [wipe_in hj, wipe_in hj, wipe_length]
  · rw [wipe_out hj]
theorem wipe_set {i : Nat} {x : Option V} {vs : List Nat} {σ : St} (hi : i ∈ vs) : L2.wipe (σ.set i x) vs = L2.wipe σ vs := by
  apply List.ext_getElem?
  intro j
  by_cases hj : j ∈ vs
  · rw [wipe_in hj, wipe_in hj, List.length_set]
  · rw [wipe_out hj, wipe_out hj, List.getElem?_set_ne (fun e => hj (by rw [← e]; exact hi))]
theorem gTps_law {H : Hp} : ∀ {l : List Nat} {vs : List V} {ds : List D} {σ : St} {ρ : Env} {Q : St → Hp → Prop}, Fr K T B F θ w H σ ρ → Reps K T F θ vs ds → ds.length = l.length →
    (∀ σ', Fr K T B F θ w H σ' ((l.zip ds).foldl (fun r p => r.set p.1 (Slot.v p.2)) ρ) → (∀ xs, (∀ i ∈ l, i ∈ xs) → L2.wipe σ' xs = L2.wipe σ xs) → Q σ' H) → gTps l vs σ H Q
  | [], _, _, σ, ρ, Q, fr, .nil, _, h => ⟨rfl, h σ fr fun _ _ => rfl⟩
  | [], _, _, σ, ρ, Q, fr, .cons _ _, hl, h => by cases hl
  | i :: l, _, _, σ, ρ, Q, fr, .nil, hl, h => by cases hl
  | i :: l, _, _, σ, ρ, Q, fr, .cons (v := v) r rs, hl, h => by
    refine ⟨v, _, rfl, ?_⟩
    refine gTps_law (fr.setV i r) rs (by simpa using hl) fun σ' fr' hw => h σ' fr' fun xs hx => ?_
    rw [hw xs fun j hj => hx j (List.mem_cons_of_mem _ hj), wipe_set (hx i List.mem_cons_self)]
theorem gTg_law {tg : Tg} {Q : St → Hp → Prop} (fr : Fr K T B F θ w H σ ρ) (r : Rep K T F θ v d) (hb : bindTg tg d ρ = some ρ')
    (h : ∀ σ', Fr K T B F θ w H σ' ρ' → (∀ xs, (∀ i ∈ tg.slots, i ∈ xs) → L2.wipe σ' xs = L2.wipe σ xs) → Q σ' H) : gTg K tg v σ H Q := by
  cases tg with
  | nm i =>
    cases hb
    exact h _ (fr.setV i r) fun xs hx => wipe_set (hx i (List.mem_singleton.mpr rfl))
  | tp l =>
    cases r with
    | tup sq rs =>
      rename_i vs ds
      by_cases hl : ds.length = l.length
      · have e : bindTg (.tp l) (.tup ds) ρ = some ((l.zip ds).foldl (fun r p => r.set p.1 (Slot.v p.2)) ρ) := if_pos hl
        rw [e] at hb
        cases hb
        exact ⟨_, _, rfl, fr.hl.fh.sqT sq, by rw [rs.length]; exact hl, gTps_law fr rs hl h⟩
      · have e : bindTg (.tp l) (.tup ds) ρ = none := if_neg hl
        rw [e] at hb
        cases hb
    | _ => cases hb
end

/-! ### comprehensions -/
section
variable {K : PySem.W.Frag} {T : Tb} {B : Bs} {F F' H H' : Hp} {θ θ' : List Addr} {w w' : Wd}
/-- an object that is neither frozen nor a reference is changed -/
theorem Hl.put {p : Addr} {u : HO} (hl : Hl K T F θ w H) (hF : F p = none) (ht : p ∉ θ) (h : ∀ b, H p ≠ some (.own b)) : Hl K T F θ w (upd H p u) :=
  hl.move (fun _ _ e => e) (fun a o e => by rw [upd_ne (ne_of_none e hF)]; exact hl.fh a o e) hl.dj fun a o e ⟨b, mb, hb⟩ => by
    by_cases q : a = p
    · subst q
      rcases hb with rfl | hb
      · exact absurd mb ht
      · exact absurd hb (h b)
    · rw [upd_ne q]; exact e
theorem Step.put {p : Addr} {u : HO} (s : Step F θ H F' θ' H') (h : H p = none) : Step F θ H F' θ' (upd H' p u) where
  keep := fun a o e n => by rw [upd_ne (ne_of_none e h)]; exact s.keep a o e n
  ext := s.ext
  pre := s.pre
  fre := s.fre
  live := fun a o e => by
    obtain ⟨o', e'⟩ := s.live a o e
    exact ⟨o', by rw [upd_ne (ne_of_none e h)]; exact e'⟩
theorem Step.fnone {p : Addr} {u : HO} (s : Step F θ H F' θ' H') (hF : F p = none) (h : H p = some u) : F' p = none := by
  cases e : F' p with
  | none => rfl
  | some o =>
    rcases s.fre p o e with q | q
    · rw [hF] at q; cases q
    · rw [h] at q; cases q
theorem Step.tnone {p : Addr} {u : HO} (s : Step F θ H F' θ' H') (ht : p ∉ θ) (h : H p = some u) : p ∉ θ' := fun m => by
  obtain ⟨t, rfl, hn⟩ := s.pre
  rcases List.mem_append.mp m with m | m
  · exact ht m
  · rw [hn p m] at h; cases h
end
def Ctx.blk (C : Ctx) (scope : Scope) : Ctx := { C with sc := relS scope C.sc }
def JC (C : Ctx) (es : List Expr) (m : Env → M Bool) : Prop := ∀ X, On C X → ∀ Wx, Takes X Wx → PTs X es (tT X.K C.T C.xi m Wx)
section
variable {C : Ctx}
theorem jc_nil : JC C [] (fun _ => M.ret true) := fun X on Wx tk => ⟨fun pins s σ H Q I q => pts_nil.run pins s σ H Q I (by
  obtain ⟨B, F, θ, w, ρ, hx, fr, po⟩ := q
  exact po F θ H Step.refl fr.hl)⟩
theorem jc_one {c : Expr} {m : Env → M Bool} (h : JT C c m) : JC C [c] m := fun X on Wx tk => pts_one (h X on Wx tk)
theorem On.blk {X : Cx} (on : On C X) (s : Shared) (H : Hp) (scope : Scope) (cl : List (Str × Addr)) (c : Addr) (fp : List Addr) : On (C.blk scope) (X.blk s H scope (compEnvC scope cl c X.env) fp) where
  N := on.N
  nd := on.nd
  sc := by show relS scope X.env.scope = relS scope C.sc; rw [on.sc]
  calm := on.calm
  hr := on.hr
  fre := on.fre
  glb := on.glb
  gd := on.gd
  fn := fun f n h => ⟨(on.fn f n h).h⟩
  mt := fun f c m n h => ⟨(on.mt f c m n h).h⟩
  mkr := fun f c n h => ⟨(on.mkr f c n h).h⟩
  at_ := on.at_
  isc := on.isc
/-- one turn of a comprehension -/
def lcF (mc : Env → M Bool) (me : Env → M D) (tg : Tg) (ρ : Env) (x : D) : M (Option D) := match bindTg tg x (wipeE tg.slots ρ) with
  | some ρ' => (mc ρ').bd fun b => if b then (me ρ').bd (fun y => M.ret (some y)) else M.ret none
  | none => fun _ => .bad
theorem lcGo_ok {f : D → M (Option D)} {x : D} {xs ys : List D} {w w' : Wd} (h : lcGo f (x :: xs) w = .ok ys w') :
    ∃ o w1 r, f x w = .ok o w1 ∧ lcGo f xs w1 = .ok r w' ∧ ys = (match o with
      | some y => y :: r
      | none => r) := by
  unfold lcGo M.bd at h
  cases e : f x w with
  | bad => rw [e] at h; cases h
  | exc c fs w1 => rw [e] at h; cases h
  | ok o w1 =>
    rw [e] at h
    dsimp only at h
    cases e2 : lcGo f xs w1 with
    | bad => rw [e2] at h; cases h
    | exc c fs w2 => rw [e2] at h; cases h
    | ok r w2 =>
      rw [e2] at h
      cases h
      exact ⟨o, w1, r, rfl, e2, rfl⟩
theorem lcF_ok {mc : Env → M Bool} {me : Env → M D} {tg : Tg} {ρ : Env} {x : D} {o : Option D} {w w' : Wd} (h : lcF mc me tg ρ x w = .ok o w') :
    ∃ ρ' b w1, bindTg tg x (wipeE tg.slots ρ) = some ρ' ∧ mc ρ' w = .ok b w1 ∧ (b = true → ∃ y, me ρ' w1 = .ok y w' ∧ o = some y) ∧ (b = false → o = none ∧ w1 = w') := by
  unfold lcF at h
  cases eb : bindTg tg x (wipeE tg.slots ρ) with
  | none => rw [eb] at h; cases h
  | some ρ' =>
    rw [eb] at h
    unfold M.bd at h
    dsimp only at h
    cases e2 : mc ρ' w with
    | bad => rw [e2] at h; cases h
    | exc c fs w1 => rw [e2] at h; cases h
    | ok b w1 =>
      rw [e2] at h
      dsimp only at h
      refine ⟨ρ', b, w1, rfl, e2, fun hb => ?_, fun hb => ?_⟩
      · subst hb
        rw [if_pos rfl] at h
        cases e3 : me ρ' w1 with
        | bad => simp only [e3] at h; cases h
        | exc c fs w1 => simp only [e3] at h; cases h
        | ok y w2 =>
          simp only [e3] at h
          cases h
          exact ⟨y, rfl, rfl⟩
      · subst hb
        rw [if_neg (by decide)] at h
        cases h
        exact ⟨rfl, rfl⟩
/-- a written comprehension's transformer -/
theorem lc_tr {X : Cx} {tg : Tg} {mi : Env → M (List D)} {mc : Env → M Bool} {me : Env → M D} {vs : List Nat} {Wx : WX} (hsl : ∀ i, i ∈ vs ↔ i ∈ tg.slots) (σ : St) (H : Hp) (Q : VK)
    (q : tE X.K C.T C.xi (fun ρ => (mi ρ).bd fun xs => if xs.length ≤ lim then (M.noX (lcGo (lcF mc me tg ρ) xs)).bd fun ys => M.ret (.o (.lst ys)) else fun _ => .bad) Wx σ H Q) :
    tLc (tI X.K C.T C.xi mi Wx) (gTg X.K tg) (tT X.K C.T C.xi mc fun _ _ _ _ => False) (tD X.K C.T C.xi me fun _ _ _ _ => False) vs σ H Q := by
  obtain ⟨B, F, θ, w, ρ, hx, fr, po⟩ := q
  refine ⟨B, F, θ, w, ρ, hx, fr, (Po.bd (f := fun xs => if xs.length ≤ lim then (M.noX (lcGo (lcF mc me tg ρ) xs)).bd fun ys => M.ret (Rv.o (.lst ys)) else fun _ => .bad) po).imp fun xs F1 θ1 w1 H1 s1 hl1 p1 J itk D hD => ?_⟩
  by_cases hz : xs.length ≤ lim
  case neg => simp only [if_neg hz] at p1; exact p1.elim
  simp only [if_pos hz] at p1
  have hfin : ∃ ys0 w', lcGo (lcF mc me tg ρ) xs w1 = .ok ys0 w' ∧ ∀ F' θ' H', Step F1 θ1 H1 F' θ' H' → Hl X.K C.T F' θ' w' H' → KE X.K C.T Q H (.o (.lst ys0)) F' θ' w' H' := by
    unfold M.bd M.noX at p1
    cases e : lcGo (lcF mc me tg ρ) xs w1 with
    | ok ys w' => rw [e] at p1; exact ⟨ys, w', rfl, p1⟩
    | exc c fs w' => rw [e] at p1; exact p1.elim
    | bad => rw [e] at p1; exact p1.elim
  obtain ⟨ys0, wE, hgo, fin⟩ := hfin
  have f1 := fr.step s1 hl1
  have wk : Walk J xs.length (fun H => ∃ F θ w, Grow F1 θ1 F θ ∧ Hl X.K C.T F θ w H) (fun i H x H' => ∀ F θ w d, Grow F1 θ1 F θ → Hl X.K C.T F θ w H → xs[i]? = some d → ∃ F', Step F θ H F' θ H' ∧ Hl X.K C.T F' θ w H' ∧ Rep X.K C.T F' θ x d) :=
    ⟨fun i H hi ⟨F, θ, w, g, hl⟩ => itk.goes i F θ w H g hl hi, fun H ⟨F, θ, w, g, hl⟩ => itk.stops F θ w H g hl, fun i H x H' hi _ y F θ w d g hl hd => itk.yields i d F θ w H x H' g hl hd y⟩
  have hF1 := hl1.fnone hD
  have ht1 := hl1.tnone hD
  refine lc_it wk (fun i H => ∃ F θ w vs acc ys, Step F1 θ1 H1 F θ H ∧ Hl X.K C.T F θ w H ∧ H D = some (.lst vs) ∧ Reps X.K C.T F θ vs acc ∧ F D = none ∧ D ∉ θ ∧ acc.length ≤ i ∧
    lcGo (lcF mc me tg ρ) (xs.drop i) w = .ok ys wE ∧ acc ++ ys = ys0) ⟨F1, θ1, w1, [], [], ys0, Step.lay hD, hl1.lay hD, upd_same, .nil, hF1, ht1, Nat.le_refl _, hgo, rfl⟩
    (fun i H hi ⟨F, θ, w, vs, acc, ys, st, hl, _⟩ => ⟨F, θ, w, st.grow, hl⟩) ?_ ?_
  · rintro i x H2 H3 hi ⟨F2, θ2, w2, us, acc, ys, st2, hl2, hD2, rs2, hF2, ht2, hle, hg2, hys⟩ hy
    have hd : xs.drop i = xs[i] :: xs.drop (i + 1) := List.drop_eq_getElem_cons hi
    rw [hd] at hg2
    obtain ⟨o, w3, r, e1, e2, e3⟩ := lcGo_ok hg2
    obtain ⟨ρ', b, w4, eb, ec, ht, hf⟩ := lcF_ok e1
    obtain ⟨F3, st3, hl3, rx⟩ := hy F2 θ2 w2 _ st2.grow hl2 (List.getElem?_eq_getElem hi)
    have f3 := (f1.step st2 hl2).step st3 hl3
    have hD3 := st3.keep _ _ hD2 ht2
    refine gTg_law (f3.wipe vs tg.slots hsl) rx eb fun σ' f4 hw => ?_
    refine ⟨(hw vs fun j hj => (hsl j).mpr hj).trans wipe_wipe, ?_⟩
    · refine ⟨B, F3, θ2, w2, ρ', hx, f4, ?_⟩
      show Po _ _ _ _ _ _ (mc ρ' w2) _ _
      rw [ec]
      intro F4 θ4 H4 st4 hl4
      have hD4 := st4.keep _ _ hD3 ht2
      have hF4 := st4.fnone (st3.fnone hF2 hD2) hD3
      have ht4 := st4.tnone ht2 hD3
      cases b with
      | true =>
        obtain ⟨y, ey, eo⟩ := ht rfl
        simp only [KT, ↓reduceIte]
        refine ⟨B, F4, θ4, w4, ρ', hx, f4.step st4 hl4, ?_⟩
        show Po _ _ _ _ _ _ (me ρ' w4) _ _
        rw [ey]
        intro F5 θ5 H5 st5 hl5 v rv
        have hD5 := st5.keep _ _ hD4 ht4
        refine ⟨us, hD5, ?_, F5, θ5, w3, us ++ [v], acc ++ [y], r, ?_, ?_, upd_same, ?_, st5.fnone hF4 hD4, st5.tnone ht4 hD4, ?_, e2, ?_⟩
        · rw [rs2.length]
          have : acc.length < lim := by omega
          rw [← lim_size]; exact this
        · exact ((st2.trans st3).trans (st4.trans st5)).put hD
        · exact hl5.put (st5.fnone hF4 hD4) (st5.tnone ht4 hD4) fun b z => by rw [hD5] at z; cases z
        · exact (rs2.mono ((st3.trans (st4.trans st5)).grow)).append (.cons rv .nil)
        · rw [List.length_append]; simp; omega
        · rw [eo] at e3
          dsimp only at e3
          rw [← hys, e3, List.append_assoc]; rfl
      | false =>
        obtain ⟨eo, rfl⟩ := hf rfl
        simp only [KT, Bool.false_eq_true, ↓reduceIte]
        refine ⟨F4, θ4, w4, us, acc, r, (st2.trans st3).trans st4, hl4, hD4, rs2.mono (st3.trans st4).grow, hF4, ht4, by omega, e2, ?_⟩
        rw [eo] at e3
        dsimp only at e3
        rw [← hys, e3]
  · rintro H2 ⟨F2, θ2, w2, us, acc, ys, st2, hl2, hD2, rs2, hF2, ht2, hle, hg2, hys⟩
    rw [List.drop_length] at hg2
    unfold lcGo M.ret at hg2
    cases hg2
    rw [List.append_nil] at hys
    subst hys
    exact fin F2 θ2 H2 st2 hl2 D hF2 ht2 ⟨(s1.non hD), fun C dx gs e => by rw [hD2] at e; cases e⟩ ⟨us, hD2, rs2⟩
theorem je_lc (hcm : C.cm = true) {tg : Tg} {tge elt iter : Expr} {cnds : List Expr} {scope : Scope} {own : List (Str × Nat)} {pos : Pos} {mi : Env → M (List D)} {mc : Env → M Bool} {me : Env → M D}
    (ok : blkC C.N C.sc scope own = true) (hsl : ∀ i, i ∈ own.map (·.2) ↔ i ∈ tg.slots) (hi : JI C tge iter mi) (hg : tgIs C.N (isLoc (relS scope C.sc)) tg tge = true)
    (ht : JC (C.blk scope) cnds mc) (he : JD (C.blk scope) elt me) (hs : ∀ env x, foldedSetIterable iter env x = pure x) :
    JE C (.ListComp elt [⟨tge, iter, cnds, 0⟩] scope pos) (fun ρ => (mi ρ).bd fun xs => if xs.length ≤ lim then (M.noX (lcGo (lcF mc me tg ρ) xs)).bd fun ys => M.ret (.o (.lst ys)) else fun _ => .bad) := fun X on Wx tk => by
  have hb : BlkOk X.N X.env.scope scope own := by rw [on.N, on.sc]; exact blkOk_by ok
  refine imE (pe_lc (on.calm hcm) (by rw [on.N]; exact on.nd) (hi X on Wx tk) hb (g := gTg X.K tg) (fun s H c cl fp => ?_) (fun s H c cl fp => ht _ (on.blk s H scope cl c fp) _ takes0) (fun s H c cl fp => he _ (on.blk s H scope cl c fp) _ takes0) fun x => hs _ x) fun σ H Q q => lc_tr hsl σ H Q q
  have o2 := on.blk s H scope cl c fp
  refine pg_tgIs (o2.calm hcm) (by rw [o2.N]; exact o2.nd) (g := isLoc (relS scope C.sc)) ?_ ?_
  · have := @stOk_loc (X.blk s H scope (compEnvC scope cl c X.env) fp)
    rw [o2.sc] at this
    exact this
  · rw [o2.N]; exact hg
/-- a new object becomes a shared one -/
theorem al_tr {K : PySem.W.Frag} {T : Tb} {xi : Option (Addr × Option Addr)} {m : Env → M Rv} {Wx : WX} {σ : St} {H : Hp} {Q : VK} (q : tE K T xi (fun ρ => (m ρ).bd fun r => (match r with
    | .o w0 => fun w => R.ok (Rv.v (.ref w.length)) (w ++ [w0])
    | .v _ => fun _ => .bad)) Wx σ H Q) : tE K T xi m Wx σ H Q := by
  obtain ⟨B, F, θ, w, ρ, hx, fr, po⟩ := q
  refine ⟨B, F, θ, w, ρ, hx, fr, ?_⟩
  unfold M.bd at po
  dsimp only at po
  cases e0 : m ρ w with
  | bad => rw [e0] at po; exact po
  | exc c fs w' => rw [e0] at po; exact po
  | ok r w1 =>
  rw [e0] at po
  cases r with
  | v d => exact po.elim
  | o o =>
    intro F1 θ1 H1 s1 hl1 p pF pt pN q
    have key : Po K T F θ H σ (R.ok (Rv.v (.ref w1.length)) (w1 ++ [o])) (KE K T Q H) Wx := po
    have g : Grow F1 θ1 F1 (θ1 ++ [p]) := ⟨fun _ _ e => e, [p], rfl⟩
    have hl2 : Hl K T F1 (θ1 ++ [p]) (w1 ++ [o]) H1 := {
      fh := hl1.fh
      dj := fun a m => by
        rcases List.mem_append.mp m with m | m
        · exact hl1.dj a m
        · rw [List.mem_singleton.mp m]; exact pF
      nd := by
        rw [List.nodup_append]
        exact ⟨hl1.nd, (by simp), fun a ha b hb => by rw [List.mem_singleton.mp hb]; exact fun z => pt (z ▸ ha)⟩
      ln := by rw [List.length_append, List.length_append, hl1.ln]; rfl
      ob := fun n o' e => by
        by_cases hn : n < w1.length
        · rw [List.getElem?_append_left hn] at e
          obtain ⟨a, ha, qa⟩ := hl1.ob n o' e
          exact ⟨a, g.get ha, qa.grow g fun _ _ _ z => z⟩
        · rw [List.getElem?_append_right (by omega)] at e
          have hz : n - w1.length = 0 := by
            have := (List.getElem?_eq_some_iff.mp e).1
            simp at this
            omega
          rw [hz] at e
          cases e
          refine ⟨p, ?_, q.grow g fun _ _ _ z => z⟩
          rw [List.getElem?_append_right (by rw [hl1.ln]; omega), hl1.ln, hz]
          rfl }
    have s2 : Step F θ H F1 (θ1 ++ [p]) H1 := {
      keep := s1.keep
      ext := s1.ext
      pre := by
        obtain ⟨t, rfl, ht⟩ := s1.pre
        exact ⟨t ++ [p], List.append_assoc .., fun a m => by
          rcases List.mem_append.mp m with m | m
          · exact ht a m
          · rw [List.mem_singleton.mp m]; exact pN.1⟩
      fre := s1.fre
      live := s1.live }
    refine key F1 (θ1 ++ [p]) H1 s2 hl2 (.ref p) (.ref ?_)
    rw [← hl1.ln, List.getElem?_append_right (Nat.le_refl _), Nat.sub_self]
    rfl
theorem je_al {x : Expr} {m : Env → M Rv} (h : JE C x m) : JE C x (fun ρ => (m ρ).bd fun r => (match r with
    | .o w0 => fun w => R.ok (Rv.v (.ref w.length)) (w ++ [w0])
    | .v _ => fun _ => .bad)) := fun X on Wx tk => imE (h X on Wx tk) fun σ H Q q => al_tr q
end
end My

set_option Elab.async false
set_option linter.all false
set_option maxRecDepth 100000
set_option maxHeartbeats 4000000
/-! Mini14: frames whose objects change; what is wanted behind a statement. -/
namespace My
open PySem L2

section
variable {K : PySem.W.Frag} {T : Tb} {B : Bs} {F F' H H' : Hp} {θ θ' : List Addr} {w w' : Wd} {σ σ' : St} {ρ ρ' : Env} {v : V} {d : D}
theorem OwnAt.noown {a : Addr} {o : Own} (h : OwnAt K T F θ H a o) : ∀ b, H a ≠ some (.own b) := fun b z => by
  obtain ⟨u, hu, _, n⟩ := h.there
  rw [hu] at z
  exact n b (Option.some.inj z)
theorem OwnAt.put {a p : Addr} {o : Own} {u : HO} (h : OwnAt K T F θ H a o) (hp : ∀ b, H p ≠ some (.own b)) (n : a ≠ p) : OwnAt K T F θ (upd H p u) a o :=
  h.grow ⟨fun _ _ e => e, [], by simp⟩ fun b u' hb e => by
    rcases hb with rfl | hb
    · rw [upd_ne n]; exact e
    · rw [upd_ne (fun z => hp a (by rw [← z]; exact hb))]; exact e
theorem XF.put {p : Addr} {u : HO} {fs : List (Nat × D)} {x : Option Addr} (h : XF K T F θ H fs x) (hp : ∀ gs, H p ≠ some (.xd gs)) : XF K T F θ (upd H p u) fs x := by
  cases x with
  | none => exact h
  | some d =>
    obtain ⟨gs, e, n, r⟩ := h
    exact ⟨gs, by rw [upd_ne (fun z => hp gs (by rw [← z]; exact e))]; exact e, n, r⟩
theorem OwnAt.noxd {a : Addr} {o : Own} (h : OwnAt K T F θ H a o) : ∀ gs, H a ≠ some (.xd gs) := fun gs z => by
  cases o with
  | lst ds => obtain ⟨vs, e, r⟩ := h; rw [e] at z; cases z
  | dct kvs => obtain ⟨vs, e, r⟩ := h; rw [e] at z; cases z
  | ins c fs => obtain ⟨C, dx, gs, c1, e, e2, r⟩ := h; rw [e] at z; cases z
/-- the object of a slot is changed -/
theorem Fr.setO (f : Fr K T B F θ w H σ ρ) {i : Nat} {p : Addr} {o o' : Own} {u : HO} (hi : ρ[i]? = some (.o o)) (hv : σ[i]? = some (some (.ref p))) (hs : ∀ C dx gs, H p = some (.ins C dx gs) → ∃ gs', u = .ins C dx gs') (hk : o'.isI = o.isI) (ho : OwnAt K T F θ (upd H p u) p o') :
    Fr K T B F θ w (upd H p u) σ (ρ.set i (.o o')) := by
  obtain ⟨p', e, pF, pt, pB, q⟩ := f.sl i _ _ hi hv
  cases e
  exact {
    hl := f.hl.put pF pt q.noown
    keep := fun a o e n m => by
      rw [upd_ne (fun z => by
        subst z
        rcases pB with ⟨_, h⟩ | h
        · rw [e] at h; cases h
        · exact m h.1.1)]
      exact f.keep a o e n m
    ext := f.ext
    pre := f.pre
    fre := f.fre
    live := fun a o e => by
      obtain ⟨o', e'⟩ := f.live a o e
      by_cases z : a = p
      · subst z; exact ⟨u, upd_same⟩
      · exact ⟨o', by rw [upd_ne z]; exact e'⟩
    len := by rw [List.length_set]; exact f.len
    sl := fun j s v h1 h2 => by
      rcases set_cases h1 with ⟨rfl, rfl, _⟩ | ⟨n, h1⟩
      · rw [hv] at h2; cases h2
        exact ⟨p, rfl, pF, pt, pB.imp (fun z => ⟨hk.trans z.1, z.2⟩) fun z => ⟨⟨z.1.1, let ⟨C, dx, gs, gs0, e1, e2⟩ := z.1.2; let ⟨gs', eu⟩ := hs _ _ _ e1; ⟨C, dx, gs', gs0, by rw [upd_same, eu], e2⟩⟩, hk.trans z.2⟩, ho⟩
      · have q2 := f.sl j s v h1 h2
        cases s with
        | u => trivial
        | v d => exact q2
        | o o2 =>
          obtain ⟨p2, rfl, pF2, pt2, pB2, q3⟩ := q2
          have np : p2 ≠ p := fun z => by subst z; exact f.di j i o2 o _ n h1 hi h2 hv
          exact ⟨p2, rfl, pF2, pt2, pB2.imp id fun z => ⟨⟨z.1.1, let ⟨C, dx, gs, gs0, e1, e2⟩ := z.1.2; ⟨C, dx, gs, gs0, by rw [upd_ne np]; exact e1, e2⟩⟩, z.2⟩, q3.put q.noown np⟩
        | x c fs =>
          obtain ⟨a, d, e1, e2, q3⟩ := q2
          exact ⟨a, d, e1, e2, q3.put q.noxd⟩
    di := fun j k o1 o2 a njk h1 h2 h3 h4 => by
      have g : ∀ {j : Nat} {o1 : Own}, (ρ.set i (.o o'))[j]? = some (.o o1) → ∃ o2, ρ[j]? = some (.o o2) := fun {j o1} h => by
        rcases set_cases h with ⟨rfl, _⟩ | ⟨_, h⟩
        · exact ⟨o, hi⟩
        · exact ⟨o1, h⟩
      obtain ⟨_, h1⟩ := g h1
      obtain ⟨_, h2⟩ := g h2
      exact f.di j k _ _ a njk h1 h2 h3 h4 }
/-- a shared object is changed -/
theorem Fr.setW (f : Fr K T B F θ w H σ ρ) {n : Nat} {p : Addr} {o o' : Own} {u : HO} (hn : θ[n]? = some p) (hw : w[n]? = some o) (ho : OwnAt K T F θ (upd H p u) p o') :
    Fr K T B F θ (w.set n o') (upd H p u) σ ρ := by
  have hp : p ∈ θ := List.mem_of_getElem? hn
  have pF := f.hl.dj p hp
  obtain ⟨a, ha, q⟩ := f.hl.ob n o hw
  rw [hn] at ha; cases ha
  exact {
    hl := {
      fh := fun a o e => by rw [upd_ne (ne_of_none e pF)]; exact f.hl.fh a o e
      dj := f.hl.dj
      nd := f.hl.nd
      ln := by rw [List.length_set]; exact f.hl.ln
      ob := fun m o2 h => by
        rcases set_cases h with ⟨rfl, rfl, _⟩ | ⟨nm, h⟩
        · exact ⟨p, hn, ho⟩
        · obtain ⟨a2, h2, q2⟩ := f.hl.ob m o2 h
          refine ⟨a2, h2, q2.put q.noown fun z => nm ?_⟩
          subst z
          exact (List.getElem?_inj (List.getElem?_eq_some_iff.mp h2).1 f.hl.nd).mp (h2.trans hn.symm) }
    keep := fun a o e n m => by
      rw [upd_ne (fun z => by
        subst z
        obtain ⟨t, rfl, ht⟩ := f.pre
        rcases List.mem_append.mp hp with k | k
        · exact n k
        · rw [ht _ k] at e; cases e)]
      exact f.keep a o e n m
    ext := f.ext
    pre := f.pre
    fre := f.fre
    live := fun a o e => by
      obtain ⟨o', e'⟩ := f.live a o e
      by_cases z : a = p
      · subst z; exact ⟨u, upd_same⟩
      · exact ⟨o', by rw [upd_ne z]; exact e'⟩
    len := f.len
    sl := fun j s v h1 h2 => by
      have q2 := f.sl j s v h1 h2
      cases s with
      | u => trivial
      | v d => exact q2
      | o o2 =>
        obtain ⟨p2, rfl, pF2, pt2, pB2, q3⟩ := q2
        have np : p2 ≠ p := fun z => by subst z; exact pt2 hp
        exact ⟨p2, rfl, pF2, pt2, pB2.imp id fun z => ⟨⟨z.1.1, let ⟨C, dx, gs, gs0, e1, e2⟩ := z.1.2; ⟨C, dx, gs, gs0, by rw [upd_ne np]; exact e1, e2⟩⟩, z.2⟩, q3.put q.noown np⟩
      | x c fs =>
        obtain ⟨a, d, e1, e2, q3⟩ := q2
        exact ⟨a, d, e1, e2, q3.put q.noxd⟩
    di := f.di }
/-- a new object into a slot -/
theorem Fr.newO (f0 : Fr K T B F θ w H σ ρ) (s : Step F θ H F' θ' H') (hl : Hl K T F' θ' w' H') {i : Nat} {p : Addr} {o : Own} (hI : o.isI = false) (pF : F' p = none) (pt : p ∉ θ') (pN : NewAt H H' p) (q : OwnAt K T F' θ' H' p o) :
    Fr K T B F' θ' w' H' (σ.set i (some (.ref p))) (ρ.set i (.o o)) := by
  have f := f0.step s hl
  have pB : B.H p = none := by
    cases e : B.H p with
    | none => rfl
    | some u =>
      obtain ⟨o', e'⟩ := f0.live p u e
      rw [pN.1] at e'; cases e'
  have other : ∀ {j : Nat} {o2 : Own} {p2 : Addr}, ρ[j]? = some (.o o2) → σ[j]? = some (some (.ref p2)) → p2 ≠ p := fun {j o2 p2} h1 h2 z => by
    obtain ⟨p3, e, _, _, _, q3⟩ := f0.sl j _ _ h1 h2
    cases e
    obtain ⟨u, hu, _⟩ := q3.there
    rw [z, pN.1] at hu; cases hu
  exact {
    hl := hl
    keep := f.keep
    ext := f.ext
    pre := f.pre
    fre := f.fre
    live := f.live
    len := by rw [List.length_set, List.length_set]; exact f.len
    sl := fun j s v h1 h2 => by
      rcases set_cases h1 with ⟨rfl, rfl, _⟩ | ⟨n, h1⟩
      · rcases set_cases h2 with ⟨_, rfl, _⟩ | ⟨n, h2⟩
        · exact ⟨p, rfl, pF, pt, .inl ⟨hI, pB⟩, q⟩
        · exact absurd rfl n
      · rcases set_cases h2 with ⟨e, _⟩ | ⟨_, h2⟩
        · exact absurd e n
        · exact f.sl j s v h1 h2
    di := fun j k o1 o2 a njk h1 h2 h3 h4 => by
      rcases set_cases h1 with ⟨rfl, _, _⟩ | ⟨n1, h1⟩
      · rcases set_cases h3 with ⟨_, e3, _⟩ | ⟨n, _⟩
        · cases e3
          rcases set_cases h2 with ⟨e, _⟩ | ⟨n2, h2⟩
          · exact njk e.symm
          · rcases set_cases h4 with ⟨e, _⟩ | ⟨_, h4⟩
            · exact n2 e
            · exact other h2 h4 rfl
        · exact n rfl
      · rcases set_cases h3 with ⟨e, _⟩ | ⟨_, g3⟩
        · exact n1 e
        · by_cases hk : k = i
          · rcases set_cases h4 with ⟨_, e4, _⟩ | ⟨n, _⟩
            · cases e4; exact other h1 g3 rfl
            · exact n hk
          · rcases set_cases h2 with ⟨e, _⟩ | ⟨_, g2⟩
            · exact hk e
            · rcases set_cases h4 with ⟨e, _⟩ | ⟨_, g4⟩
              · exact hk e
              · exact f.di j k o1 o2 a njk h1 g2 g3 g4 }
/-- the slot's object is frozen -/
theorem Fr.frz (f : Fr K T B F θ w H σ ρ) {i : Nat} {o : Own} (hi : ρ[i]? = some (.o o)) (hI : o.isI = false) : ∃ F', (∀ a o, F a = some o → F' a = some o) ∧ Fr K T B F' θ w H σ (ρ.set i (.v o.frz)) := by
  have hlt : i < σ.length := by rw [f.len]; exact (List.getElem?_eq_some_iff.mp hi).1
  obtain ⟨p, hv, pF, pt, pB, q⟩ := f.sl i _ _ hi (List.getElem?_eq_getElem hlt)
  obtain ⟨u, hu, _⟩ := q.there
  have hl := f.hl.freeze hu pF pt
  have g : Grow F θ (upd F p u) θ := ⟨fun a o e => by rw [upd_ne (ne_of_none e pF)]; exact e, [], by simp⟩
  have r : Rep K T (upd F p u) θ (.ref p) o.frz := by
    cases o with
    | lst ds =>
      obtain ⟨vs, e, r⟩ := q
      rw [hu] at e; cases e
      exact .lst (.inl upd_same) (r.mono g)
    | dct ds =>
      obtain ⟨vs, e, r⟩ := q
      rw [hu] at e; cases e
      exact .dct upd_same (r.mono g)
    | ins c fs => cases hI
  exact ⟨upd F p u, g.ext, {
    hl := hl
    keep := f.keep
    ext := fun a o e => g.ext a o (f.ext a o e)
    pre := f.pre
    fre := fun a o e => by
      by_cases z : a = p
      · subst z
        rcases pB with ⟨_, h⟩ | h
        · exact .inr (.inl h)
        · exact .inr (.inr h.1.1)
      · rw [upd_ne z] at e; exact f.fre a o e
    live := f.live
    len := by rw [List.length_set]; exact f.len
    sl := fun j s v h1 h2 => by
      rcases set_cases h1 with ⟨rfl, rfl, _⟩ | ⟨n, h1⟩
      · rw [List.getElem?_eq_getElem hlt, hv] at h2
        cases h2
        exact ⟨_, rfl, r⟩
      · have q2 := f.sl j s v h1 h2
        cases s with
        | u => trivial
        | v d => obtain ⟨x, e, r⟩ := q2; exact ⟨x, e, r.mono g⟩
        | o o2 =>
          obtain ⟨p2, rfl, pF2, pt2, pB2, q3⟩ := q2
          have np : p2 ≠ p := fun z => by subst z; exact f.di j i o2 o _ n h1 hi h2 (by rw [List.getElem?_eq_getElem hlt, hv])
          exact ⟨p2, rfl, by rw [upd_ne np]; exact pF2, pt2, pB2, q3.grow g fun _ _ _ e => e⟩
        | x c fs =>
          obtain ⟨a, d, e1, e2, q3⟩ := q2
          refine ⟨a, d, e1, e2, ?_⟩
          cases d with
          | none => exact q3
          | some d => obtain ⟨gs, e, n, r⟩ := q3; exact ⟨gs, e, n, r.mono g⟩
    di := fun j k o1 o2 a njk h1 h2 h3 h4 => by
      rcases set_cases h1 with ⟨_, e, _⟩ | ⟨_, g1⟩
      · cases e
      · rcases set_cases h2 with ⟨_, e, _⟩ | ⟨_, g2⟩
        · cases e
        · exact f.di j k o1 o2 a njk g1 g2 h3 h4 }⟩
end

/-! ### behind a statement -/
theorem Grow.refl {F : Hp} {θ : List Addr} : Grow F θ F θ := ⟨fun _ _ e => e, [], by simp⟩
theorem Grow.trans {F F1 F2 : Hp} {θ θ1 θ2 : List Addr} (a : Grow F θ F1 θ1) (b : Grow F1 θ1 F2 θ2) : Grow F θ F2 θ2 := ⟨fun x o e => b.ext x o (a.ext x o e), by
  obtain ⟨t, rfl⟩ := a.pre
  obtain ⟨u, rfl⟩ := b.pre
  exact ⟨t ++ u, List.append_assoc ..⟩⟩
def PoS (K : PySem.W.Frag) (T : Tb) (B : Bs) (F0 : Hp) (θ0 : List Addr) (D : Ends) (Wx : WX) : RS → Prop
  | .nx ρ w => ∀ F θ H σ, Grow F0 θ0 F θ → Fr K T B F θ w H σ ρ → D.nx σ H
  | .bk ρ w => ∀ F θ H σ, Grow F0 θ0 F θ → Fr K T B F θ w H σ ρ → D.bk σ H
  | .ct ρ w => ∀ F θ H σ, Grow F0 θ0 F θ → Fr K T B F θ w H σ ρ → D.ct σ H
  | .rt (.v d) w => ∀ F θ H σ ρ v, Grow F0 θ0 F θ → Fr K T B F θ w H σ ρ → Rep K T F θ v d → D.rt v H
  | .rt (.o o) w => ∀ F θ H σ ρ p, Grow F0 θ0 F θ → Fr K T B F θ w H σ ρ → F p = none → p ∉ θ → NewAt B.H H p → OwnAt K T F θ H p o → D.rt (.ref p) H
  | .ex c fs ρ w => ∀ F θ H σ cls od, Grow F0 θ0 F θ → Fr K T B F θ w H σ ρ → XRel K T F θ H c fs cls od → Wx cls od σ H
  | .bad => False
def tS (K : PySem.W.Frag) (T : Tb) (xi : Option (Addr × Option Addr)) (ms : Env → MS) (Wx : WX) : TS := fun D σ H => ∃ B F θ w ρ, B.xi = xi ∧ Fr K T B F θ w H σ ρ ∧ PoS K T B F θ D Wx (ms ρ w)
section
variable {K : PySem.W.Frag} {T : Tb} {B : Bs} {F F' H H' : Hp} {θ θ' : List Addr} {w w' : Wd} {σ σ' : St} {ρ ρ' : Env} {v : V} {d : D} {D : Ends} {Wx : WX}
theorem PoS.later {r : RS} (h : PoS K T B F θ D Wx r) (g : Grow F θ F' θ') : PoS K T B F' θ' D Wx r := by
  cases r with
  | nx ρ w => exact fun F θ H σ g2 fr => h F θ H σ (g.trans g2) fr
  | bk ρ w => exact fun F θ H σ g2 fr => h F θ H σ (g.trans g2) fr
  | ct ρ w => exact fun F θ H σ g2 fr => h F θ H σ (g.trans g2) fr
  | rt r w =>
    cases r with
    | v d => exact fun F θ H σ ρ v g2 fr q => h F θ H σ ρ v (g.trans g2) fr q
    | o o => exact fun F θ H σ ρ p g2 fr a b c q => h F θ H σ ρ p (g.trans g2) fr a b c q
  | ex c fs ρ w => exact fun F θ H σ cls od g2 fr x => h F θ H σ cls od (g.trans g2) fr x
  | bad => exact h
theorem PoS.st {α : Type} {m : M α} {f : α → MS} (h : PoS K T B F θ D Wx ((m.st ρ f) w)) (fr : Fr K T B F θ w H σ ρ) :
    Po K T F θ H σ (m w) (fun a F1 θ1 w1 _ => PoS K T B F1 θ1 D Wx (f a w1)) Wx := by
  unfold M.st at h
  cases e : m w with
  | ok a w1 => rw [e] at h; exact fun _ _ _ s _ => PoS.later h s.grow
  | exc c fs w1 => rw [e] at h; exact fun F' θ' H' cls od s hl x => h F' θ' H' σ cls od s.grow (fr.step s hl) x
  | bad => rw [e] at h; exact h
/-- another end -/
theorem PoS.imp {D' : Ends} {r : RS} (h : PoS K T B F θ D Wx r) (n : ∀ σ H, D.nx σ H → D'.nx σ H) (b : ∀ σ H, D.bk σ H → D'.bk σ H) (c : ∀ σ H, D.ct σ H → D'.ct σ H) (rt : ∀ v H, D.rt v H → D'.rt v H) : PoS K T B F θ D' Wx r := by
  cases r with
  | nx ρ w => exact fun F θ H σ g fr => n _ _ (h F θ H σ g fr)
  | bk ρ w => exact fun F θ H σ g fr => b _ _ (h F θ H σ g fr)
  | ct ρ w => exact fun F θ H σ g fr => c _ _ (h F θ H σ g fr)
  | rt r w =>
    cases r with
    | v d => exact fun F θ H σ ρ v g fr q => rt _ _ (h F θ H σ ρ v g fr q)
    | o o => exact fun F θ H σ ρ p g fr a b c q => rt _ _ (h F θ H σ ρ p g fr a b c q)
  | ex c fs ρ w => exact h
  | bad => exact h
end

structure OnS (C : Ctx) (X : Cx) : Prop where
  on : On C X
  ox : OnX C X
  fnA : ∀ x, X.fn x = true
  pas : C.cm = true → PassesOwn (model X.prog X.w) X.A X.env X.xe
  stk : X.stack = X.env :: X.outer
  fra : X.env.frame = some X.env.locals
def JS (C : Ctx) (s : Stmt) (m : Env → MS) : Prop := ∀ X, OnS C X → ∀ Wx, Takes X Wx → PS X s (tS X.K C.T C.xi m Wx)
def JSs (C : Ctx) (s : List Stmt) (m : Env → MS) : Prop := ∀ X, OnS C X → ∀ Wx, Takes X Wx → PSs X s (tS X.K C.T C.xi m Wx)
theorem imS {X : Cx} {s : Stmt} {t t' : TS} (h : PS X s t) (i : ∀ D σ H, t' D σ H → t D σ H) : PS X s t' := ⟨fun pins s σ H D I q => h.run pins s σ H D I (i D σ H q)⟩
theorem imSs {X : Cx} {s : List Stmt} {t t' : TS} (h : PSs X s t) (i : ∀ D σ H, t' D σ H → t D σ H) : PSs X s t' := ⟨fun pins s σ H D I q => h.run pins s σ H D I (i D σ H q)⟩
section
variable {C : Ctx}
/-! ### blocks -/
theorem jss_nil : JSs C [] (fun ρ w => .nx ρ w) := fun X on Wx tk => imSs pss_nil fun D σ H q => by
  obtain ⟨B, F, θ, w, ρ, hx, fr, po⟩ := q
  exact po F θ H σ Grow.refl fr
theorem jss_cons {s : Stmt} {ss : List Stmt} {m : Env → MS} {ms : Env → MS} (h : JS C s m) (hr : JSs C ss ms) : JSs C (s :: ss) (fun ρ w => (m ρ w).sq ms) := fun X on Wx tk =>
  imSs (pss_cons (h X on Wx tk) (hr X on Wx tk)) fun D σ H q => by
    obtain ⟨B, F, θ, w, ρ, hx, fr, po⟩ := q
    refine ⟨B, F, θ, w, ρ, hx, fr, ?_⟩
    dsimp only at po
    cases e : m ρ w with
    | nx ρ' w' =>
      rw [e] at po
      exact fun F' θ' H' σ' g fr' => ⟨B, F', θ', w', ρ', hx, fr', po.later g⟩
    | rt r w' => rw [e] at po; cases r <;> exact po
    | bk ρ' w' => rw [e] at po; exact po
    | ct ρ' w' => rw [e] at po; exact po
    | ex c fs ρ' w' => rw [e] at po; exact po
    | bad => rw [e] at po; exact po
theorem js_pass {pos : Pos} : JS C (.Pass pos) (fun ρ w => .nx ρ w) := fun X on Wx tk => imS ps_pass fun D σ H q => by
  obtain ⟨B, F, θ, w, ρ, hx, fr, po⟩ := q
  exact po F θ H σ Grow.refl fr
theorem js_brk {pos : Pos} : JS C (.Break pos) (fun ρ w => .bk ρ w) := fun X on Wx tk => imS ps_break fun D σ H q => by
  obtain ⟨B, F, θ, w, ρ, hx, fr, po⟩ := q
  exact po F θ H σ Grow.refl fr
theorem js_cont {pos : Pos} : JS C (.Continue pos) (fun ρ w => .ct ρ w) := fun X on Wx tk => imS ps_continue fun D σ H q => by
  obtain ⟨B, F, θ, w, ρ, hx, fr, po⟩ := q
  exact po F θ H σ Grow.refl fr
theorem jss_frz {ss : List Stmt} {i : Nat} {ms : Env → MS} (hr : JSs C ss ms) : JSs C ss (fun ρ w => (match ρ[i]? with
    | some (.o o) => if o.isI then RS.bad else .nx (ρ.set i (.v o.frz)) w
    | _ => .bad).sq ms) := fun X on Wx tk => imSs (hr X on Wx tk) fun D σ H q => by
  obtain ⟨B, F, θ, w, ρ, hx, fr, po⟩ := q
  dsimp only at po
  cases e : ρ[i]? with
  | none => rw [e] at po; exact po.elim
  | some s =>
    rw [e] at po
    cases s with
    | o o =>
      dsimp only at po
      cases hI : o.isI with
      | true => rw [hI] at po; exact po.elim
      | false =>
        rw [hI] at po
        obtain ⟨F', ex, fr'⟩ := fr.frz e hI
        exact ⟨B, F', θ, w, _, hx, fr', PoS.later po ⟨ex, [], by simp⟩⟩
    | _ => exact po.elim
theorem js_exp {e : Expr} {m : Env → M Rv} {pos : Pos} (h : JE C e m) (hs : ∀ env : PySem.Env, swapsWith e none pos.line env = pure false) : JS C (.Expr e pos) (fun ρ => (m ρ).st ρ fun _ w => .nx ρ w) := fun X on Wx tk =>
  imS (ps_expr (h.d X on.on Wx tk) (hs X.env)) fun D σ H q => by
    obtain ⟨B, F, θ, w, ρ, hx, fr, po⟩ := q
    refine ⟨B, F, θ, w, ρ, hx, fr, ?_⟩
    have p := PoS.st po fr
    show Po X.K C.T F θ H σ (val (m ρ) w) _ Wx
    unfold val M.bd
    cases e : m ρ w with
    | bad => rw [e] at p; exact p
    | exc c fs w' => rw [e] at p; exact p
    | ok r w' =>
      rw [e] at p
      exact fun F' θ' H' s hl v _ => p F' θ' H' s hl F' θ' H' σ Grow.refl (fr.step s hl)
theorem js_doc {x j pos pos'} : JS C (.Expr (.Constant (.str x) j pos) pos') (fun ρ w => .nx ρ w) := fun X on Wx tk => imS ps_doc fun D σ H q => by
  obtain ⟨B, F, θ, w, ρ, hx, fr, po⟩ := q
  exact po F θ H σ Grow.refl fr
theorem js_if {c : Expr} {a b : List Stmt} {mt : Env → M Bool} {ma mb : Env → MS} {pos : Pos} (hc : JT C c mt) (ha : JSs C a ma) (hb : JSs C b mb) : JS C (.If c a b pos) (fun ρ => (mt ρ).st ρ fun c => if c then ma ρ else mb ρ) := fun X on Wx tk =>
  imS (ps_if (hc X on.on Wx tk) (ha X on Wx tk) (hb X on Wx tk)) fun D σ H q => by
    obtain ⟨B, F, θ, w, ρ, hx, fr, po⟩ := q
    refine ⟨B, F, θ, w, ρ, hx, fr, (PoS.st po fr).imp fun c F1 θ1 w1 H1 s1 hl1 p1 => ?_⟩
    cases c with
    | true => show (if true = true then tS X.K C.T C.xi ma Wx D σ H1 else tS X.K C.T C.xi mb Wx D σ H1); exact iteT ⟨B, F1, θ1, w1, ρ, hx, fr.step s1 hl1, p1⟩
    | false => show (if false = true then tS X.K C.T C.xi ma Wx D σ H1 else tS X.K C.T C.xi mb Wx D σ H1); exact iteF ⟨B, F1, θ1, w1, ρ, hx, fr.step s1 hl1, p1⟩
theorem js_retN {pos : Pos} : JS C (.Return none pos) (fun _ w => .rt (.v .non) w) := fun X on Wx tk => imS ps_retN fun D σ H q => by
  obtain ⟨B, F, θ, w, ρ, hx, fr, po⟩ := q
  exact po F θ H σ ρ .non Grow.refl fr .non
theorem js_ret {e : Expr} {m : Env → M Rv} {pos : Pos} (h : JE C e m) : JS C (.Return (some e) pos) (fun ρ => (m ρ).st ρ fun r w => .rt r w) := fun X on Wx tk =>
  imS (ps_ret (h X on.on Wx tk)) fun D σ H q => by
    obtain ⟨B, F, θ, w, ρ, hx, fr, po⟩ := q
    refine ⟨B, F, θ, w, ρ, hx, fr, (PoS.st po fr).imp fun r F1 θ1 w1 H1 s1 hl1 p1 => ?_⟩
    have fr1 := fr.step s1 hl1
    cases r with
    | v d => exact fun v rv => p1 F1 θ1 H1 σ ρ v Grow.refl fr1 rv
    | o o =>
      intro p pF pt pN q
      have nn : ∀ {a : Addr}, H a = none → B.H a = none := fun {a} h => by
        cases e : B.H a with
        | none => rfl
        | some u =>
          obtain ⟨o', e'⟩ := fr.live a u e
          rw [h] at e'; cases e'
      exact p1 F1 θ1 H1 σ ρ p Grow.refl fr1 pF pt ⟨nn pN.1, fun C dx gs e => nn (pN.2 C dx gs e)⟩ q
/-- an own object is handed back -/
theorem js_retV {i : Nat} {x : Str} {p pos : Pos} (hN : C.N[i]? = some x) (hv : Vis C.sc x) (hd : (x == ("__debug__" : Str)) = false) (hcd : (x == ("__classdict__" : Str)) = false) : JS C (.Return (some (.Name x p)) pos) (fun ρ w => match ρ[i]? with
      | some (.o o) => if o.isI then .bad else .rt (.o o) w
      | some (.v d) => .rt (.v d) w
      | _ => .bad) := fun X on Wx tk =>
  imS (ps_ret (pe_var (i := i) (by rw [on.on.N]; exact hN) (by rw [on.on.sc]; exact hv) hd hcd)) fun D σ H q => by
    obtain ⟨B, F, θ, w, ρ, hx, fr, po⟩ := q
    dsimp only at po
    cases e : ρ[i]? with
    | none => rw [e] at po; exact po.elim
    | some s =>
      rw [e] at po
      have hi : i < σ.length := by rw [fr.len]; exact (List.getElem?_eq_some_iff.mp e).1
      have q := fr.sl i _ _ e (List.getElem?_eq_getElem hi)
      cases s with
      | v d =>
        obtain ⟨v, hv, r⟩ := q
        exact ⟨v, by rw [List.getElem?_eq_getElem hi, hv], po F θ H σ ρ v Grow.refl fr r⟩
      | o o =>
        obtain ⟨p, hv, pF, pt, pB, qo⟩ := q
        refine ⟨.ref p, by rw [List.getElem?_eq_getElem hi, hv], ?_⟩
        dsimp only at po
        cases hI : o.isI with
        | true => rw [hI] at po; exact po.elim
        | false =>
          rw [hI] at po
          refine po F θ H σ ρ p Grow.refl fr pF pt ⟨?_, fun C dx gs z => ?_⟩ qo
          · rcases pB with ⟨_, h⟩ | ⟨_, h⟩
            · exact h
            · rw [hI] at h; cases h
          · cases o with
            | lst ds => obtain ⟨vs, e, _⟩ := qo; rw [e] at z; cases z
            | dct ds => obtain ⟨vs, e, _⟩ := qo; rw [e] at z; cases z
            | ins c fs => cases hI
      | _ => exact po.elim
end
end My

set_option Elab.async false
set_option linter.all false
set_option maxRecDepth 100000
set_option maxHeartbeats 4000000
/-! Mini15: stores, changes of objects. -/
namespace My
open PySem L2

section
variable {K : PySem.W.Frag} {T : Tb} {B : Bs} {F F' H H' : Hp} {θ θ' : List Addr} {w w' : Wd} {σ σ' : St} {ρ ρ' : Env} {v : V} {d : D}
theorem RepK.any {k : Key} : ∀ {ks : List (Key × V)} {kvs : List (D × D)}, RepK K T F θ ks kvs → (ks.any fun kv => decide (kv.1 = k)) = kvs.any fun kv => kv.1.eqv (kD k)
  | _, _, .nil => rfl
  | _, _, .cons r t => by rw [List.any_cons, List.any_cons, RepK.any t, kD_eqv]
theorem RepK.map {k : Key} (r : Rep K T F θ v d) : ∀ {ks : List (Key × V)} {kvs : List (D × D)}, RepK K T F θ ks kvs →
    RepK K T F θ (ks.map fun kv => if kv.1 = k then (kv.1, v) else kv) (kvs.map fun kv => if kv.1.eqv (kD k) then (kv.1, d) else kv)
  | _, _, .nil => .nil
  | _, _, .cons (k := k2) r2 t => by
    rw [List.map_cons, List.map_cons]
    by_cases e : k2 = k
    · rw [if_pos e, if_pos (by rw [kD_eqv]; exact decide_eq_true e)]
      exact .cons r (RepK.map r t)
    · rw [if_neg e, if_neg (by rw [kD_eqv]; simpa using e)]
      exact .cons r2 (RepK.map r t)
theorem RepK.append : ∀ {ks ls : List (Key × V)} {kvs lvs : List (D × D)}, RepK K T F θ ks kvs → RepK K T F θ ls lvs → RepK K T F θ (ks ++ ls) (kvs ++ lvs)
  | _, _, _, _, .nil, h => h
  | _, _, _, _, .cons r t, h => .cons r (RepK.append t h)
theorem RepK.put {k : Key} {ks : List (Key × V)} {kvs : List (D × D)} (h : RepK K T F θ ks kvs) (r : Rep K T F θ v d) : RepK K T F θ (putK ks k v) (putD kvs (kD k) d) := by
  unfold putK putD
  rw [h.any]
  split
  · exact h.map r
  · exact h.append (.cons r .nil)
theorem RepK.length : ∀ {ks : List (Key × V)} {kvs : List (D × D)}, RepK K T F θ ks kvs → ks.length = kvs.length
  | _, _, .nil => rfl
  | _, _, .cons _ t => by rw [List.length_cons, List.length_cons, RepK.length t]
theorem RepF.put {f : Nat} (r : Rep K T F θ v d) : ∀ {gs : List (Str × V)} {fs : List (Nat × D)}, RepF K T F θ gs fs → RepF K T F θ (putF (T.fl f) v gs) (putFs fs f d)
  | _, _, .nil => .cons r .nil
  | _, _, .cons (f := g) r2 t => by
    unfold putF putFs
    by_cases e : g = f
    · subst e
      rw [if_pos rfl, if_pos (beq_self_eq_true _)]
      exact .cons r t
    · rw [if_neg (fun z => e (T.flI _ _ z)), if_neg (by simpa using e)]
      exact .cons r2 (RepF.put r t)
theorem RepF.length : ∀ {ks : List (Str × V)} {kvs : List (Nat × D)}, RepF K T F θ ks kvs → ks.length = kvs.length
  | _, _, .nil => rfl
  | _, _, .cons _ t => by rw [List.length_cons, List.length_cons, RepF.length t]
/-- o[i] = v, of a list or of a dict -/
def rSetA : TSet := fun o i v H Q => rSetL o i v H Q ∨ rSetD o i v H Q
theorem set_any {X : Cx} (hu : X.A.units + 1 < cLine) : PSet X rSetA := fun pins s σ H o i v ov iv u Q I ro ri rv h => by
  rcases h with h | h
  · exact set_list pins s σ H o i v ov iv u Q I ro ri rv h
  · exact set_dict hu pins s σ H o i v ov iv u Q I ro ri rv h
/-- what a store does -/
theorem stO_ok {p : Addr} {o o' : Own} {x y : D} {i v : V} (hl : Hl K T F θ w H) (q : OwnAt K T F θ H p o) (rx : Rep K T F θ i x) (ry : Rep K T F θ v y) (e : stO o x y = some o') :
    o'.isI = o.isI ∧ (∀ C dx gs, H p ≠ some (.ins C dx gs)) ∧ ∃ u, OwnAt K T F θ (upd H p u) p o' ∧ ∀ Q : Hp → Prop, Q (upd H p u) → rSetA (.ref p) i v H Q := by
  cases o with
  | lst ds =>
    cases x with
    | int k =>
      cases rx
      obtain ⟨vs, e1, r⟩ := q
      have e : (setN ds k y).map Own.lst = some o' := e
      unfold setN at e
      rw [ixI_eq] at e
      cases e2 : ixN ds.length k with
      | none => rw [e2] at e; cases e
      | some j =>
        rw [e2] at e
        cases e
        exact ⟨rfl, fun C dx gs z => (by rw [e1] at z; cases z), .lst (vs.set j v), ⟨_, upd_same, r.set j ry⟩, fun Q hq => .inl ⟨p, vs, k, j, rfl, rfl, e1, by rw [r.length]; exact e2, hq⟩⟩
    | _ => cases e
  | dct kvs =>
    have e' : (if keyOk x ∧ kvs.length < lim then some (Own.dct (putD kvs x y)) else none) = some o' := by cases x <;> exact e
    by_cases hk : keyOk x = true ∧ kvs.length < lim
    · rw [if_pos hk] at e'
      cases e'
      obtain ⟨ks, e1, r⟩ := q
      obtain ⟨k, rfl, rfl⟩ := key_of (H := H) (.inl rx) hk.1
      exact ⟨rfl, fun C dx gs z => (by rw [e1] at z; cases z), .dK (putK ks k v), ⟨_, upd_same, r.put ry⟩, fun Q hq => .inr ⟨p, _, rfl, .inl ⟨ks, k, e1, rfl, by rw [r.length]; exact lim_size ▸ hk.2, rfl⟩, hq⟩⟩
    · rw [if_neg hk] at e'; cases e'
  | ins c fs => cases x <;> cases e
end
section
variable {C : Ctx}
theorem loc_of {X : Cx} (on : On C X) {x : Str} (h : isLC C.sc x = true) : Loc X.env.scope x := by
  rw [on.sc]
  unfold isLC at h
  simp only [Bool.or_eq_true, beq_iff_eq] at h
  exact h
theorem vis_of {sc : Scope} {x : Str} (h : isLC sc x = true) : Vis sc x := by
  unfold isLC at h
  simp only [Bool.or_eq_true, beq_iff_eq] at h
  rcases h with h | h
  · exact .inl h
  · exact .inr (.inl h)
theorem js_asg {i : Nat} {x : Str} {e : Expr} {m : Env → M Rv} {p pos : Pos} (hN : C.N[i]? = some x) (hx : isLC C.sc x = true) (h : JE C e m) (hs : ∀ (x : Str) (p : Pos) (env : PySem.Env), swapsWith e (some (.Name x p)) pos.line env = pure false) :
    JS C (.Assign [.Name x p] e pos) (fun ρ => (val (m ρ)).st ρ fun d w => .nx (ρ.set i (.v d)) w) := fun X on Wx tk =>
  imS (ps_set (i := i) (by rw [on.on.N]; exact on.on.nd) (by rw [on.on.N]; exact hN) (loc_of on.on hx) (h.d X on.on Wx tk) (hs x p X.env) (.inl (on.fnA x))) fun D σ H q => by
    obtain ⟨B, F, θ, w, ρ, hx, fr, po⟩ := q
    exact ⟨B, F, θ, w, ρ, hx, fr, (PoS.st po fr).imp fun d F1 θ1 w1 H1 s1 hl1 p1 v rv => p1 F1 θ1 H1 _ Grow.refl ((fr.step s1 hl1).setV i rv)⟩
theorem js_asgO {i : Nat} {x : Str} {e : Expr} {m : Env → M Rv} {p pos : Pos} (hN : C.N[i]? = some x) (hx : isLC C.sc x = true) (h : JE C e m) (hs : ∀ (x : Str) (p : Pos) (env : PySem.Env), swapsWith e (some (.Name x p)) pos.line env = pure false) :
    JS C (.Assign [.Name x p] e pos) (fun ρ => (m ρ).st ρ fun r w => (match r with
    | .o o => if o.isI then .bad else .nx (ρ.set i (.o o)) w
    | .v _ => .bad)) := fun X on Wx tk =>
  imS (ps_set (i := i) (by rw [on.on.N]; exact on.on.nd) (by rw [on.on.N]; exact hN) (loc_of on.on hx) (h X on.on Wx tk) (hs x p X.env) (.inl (on.fnA x))) fun D σ H q => by
    obtain ⟨B, F, θ, w, ρ, hx, fr, po⟩ := q
    refine ⟨B, F, θ, w, ρ, hx, fr, (PoS.st po fr).imp fun r F1 θ1 w1 H1 s1 hl1 p1 => ?_⟩
    cases r with
    | v d => exact p1.elim
    | o o =>
      intro p pF pt pN q
      cases hI : o.isI with
      | true => simp only [hI] at p1; exact p1.elim
      | false =>
        simp only [hI] at p1
        exact p1 F1 θ1 H1 _ Grow.refl (fr.newO s1 hl1 hI pF pt pN q)
theorem js_asgT {tg : Tg} {tge e : Expr} {m : Env → M Rv} {pos : Pos} (hcm : C.cm = true) (hg : tgIs C.N (isLC C.sc) tg tge = true) (h : JE C e m) (hs : ∀ (t : Expr) (env : PySem.Env), swapsWith e (some t) pos.line env = pure false) (hw : ∀ env : PySem.Env, swappedStores [tge] e env = pure none)
    (ha : ∀ env : PySem.Env, (assignEach [tge] env).map (·.2) = [assign tge env]) :
    JS C (.Assign [tge] e pos) (fun ρ => (val (m ρ)).st ρ fun x w => (match bindTg tg x ρ with
    | some ρ' => .nx ρ' w
    | none => .bad)) := fun X on Wx tk => by
  have ok : StOk X (isLC C.sc) := by have := @stOk_fn X on.fnA; rw [on.on.sc] at this; exact this
  refine imS (ps_asg (h.d X on.on Wx tk) (pg_tgIs (on.on.calm hcm) (by rw [on.on.N]; exact on.on.nd) ok (by rw [on.on.N]; exact hg)) (hs _ X.env) (hw X.env) (ha X.env)) fun D σ H q => ?_
  obtain ⟨B, F, θ, w, ρ, hx, fr, po⟩ := q
  refine ⟨B, F, θ, w, ρ, hx, fr, (PoS.st po fr).imp fun d F1 θ1 w1 H1 s1 hl1 p1 v rv => ?_⟩
  cases e : bindTg tg d ρ with
  | none => rw [e] at p1; exact p1.elim
  | some ρ' =>
    rw [e] at p1
    exact gTg_law (fr.step s1 hl1) rv e fun σ' fr' _ => p1 F1 θ1 H1 σ' Grow.refl fr'
theorem Po.any {α : Type} {r : R α} {k : Prop} {F H : Hp} {θ : List Addr} {K : PySem.W.Frag} {T : Tb} {Wx : WX} {σ : St} {w : Wd} (hl : Hl K T F θ w H) (h : ∀ a w', r = .ok a w' → k) (h2 : ∀ c fs w', r ≠ .exc c fs w') (h3 : r ≠ .bad) : k := by
  cases r with
  | ok a w' => exact h a w' rfl
  | exc c fs w' => exact absurd rfl (h2 c fs w')
  | bad => exact absurd rfl h3
/-- an own list, an own dict: a place of it is set -/
theorem js_setI {i : Nat} {x : Str} {e k : Expr} {me mk : Env → M D} {p ps pos : Pos} (hcm : C.cm = true) (hN : C.N[i]? = some x) (hx : isLC C.sc x = true) (hd : (x == ("__debug__" : Str)) = false) (hcd : (x == ("__classdict__" : Str)) = false)
    (he : JD C e me) (hk : JD C k mk) (hs : ∀ (t : Expr) (env : PySem.Env), swapsWith e (some t) pos.line env = pure false)
    (ha : ∀ (env : PySem.Env) v, assign (.Subscript (.Name x p) k ps) env v = (do
      let ov ← holding [v] (eval (.Name x p) env)
      let iv ← holding [v, ov] (eval k env)
      standAt ps
      holding [v, ov, iv] (setItem ov iv v)
      release [v, ov, iv] [])) (hw : ∀ env : PySem.Env, swappedStores [.Subscript (.Name x p) k ps] e env = pure none) :
    JS C (.Assign [.Subscript (.Name x p) k ps] e pos) (fun ρ => (me ρ).st ρ fun v w => (match ρ[i]? with
    | some (.o o) => (mk ρ).st ρ (fun x w => (match stO o x v with
      | some o' => .nx (ρ.set i (.o o')) w
      | none => .bad)) w
    | _ => .bad)) := fun X on Wx tk =>
  imS (ps_asg (he X on.on Wx tk) (pg_sub (pe_var (i := i) (by rw [on.on.N]; exact hN) (by rw [on.on.sc]; exact vis_of hx) hd hcd) (hk X on.on Wx tk) (set_any (by have := (on.on.hr hcm).units; omega)) (ha X.env)) (hs (.Subscript (.Name x p) k ps) X.env) (hw X.env)) fun D σ H q => by
    obtain ⟨B, F, θ, w, ρ, hx, fr, po⟩ := q
    refine ⟨B, F, θ, w, ρ, hx, fr, (PoS.st po fr).imp fun d F1 θ1 w1 H1 s1 hl1 p1 v rv => ?_⟩
    have fr1 := fr.step s1 hl1
    cases e : ρ[i]? with
    | none => rw [e] at p1; exact p1.elim
    | some s =>
      rw [e] at p1
      cases s with
      | o o =>
        dsimp only at p1
        have hi : i < σ.length := by rw [fr.len]; exact (List.getElem?_eq_some_iff.mp e).1
        obtain ⟨a, hv, _⟩ := fr1.sl i _ _ e (List.getElem?_eq_getElem hi)
        have hva : σ[i]? = some (some (.ref a)) := by rw [List.getElem?_eq_getElem hi, hv]
        refine ⟨.ref a, hva, B, F1, θ1, w1, ρ, hx, fr1, (PoS.st p1 fr1).imp fun y F2 θ2 w2 H2 s2 hl2 p2 u ru => ?_⟩
        have fr2 := fr1.step s2 hl2
        cases e2 : stO o y d with
        | none => rw [e2] at p2; exact p2.elim
        | some o' =>
          rw [e2] at p2
          obtain ⟨a2, ha2, _, _, _, q⟩ := fr2.sl i _ _ e hva
          cases ha2
          obtain ⟨hI, nI, z, hz, hq⟩ := stO_ok hl2 q ru (rv.mono s2.grow) e2
          exact hq _ (p2 F2 θ2 _ _ Grow.refl (fr2.setO e hva (fun C dx gs y => absurd y (nI C dx gs)) hI hz))
      | _ => exact p1.elim
/-- .. of a shared one -/
theorem js_setR {a e k : Expr} {ma me mk : Env → M D} {ps pos : Pos} (hcm : C.cm = true) (he : JD C e me) (ho : JD C a ma) (hk : JD C k mk) (hs : ∀ (t : Expr) (env : PySem.Env), swapsWith e (some t) pos.line env = pure false)
    (ha : ∀ (env : PySem.Env) v, assign (.Subscript a k ps) env v = (do
      let ov ← holding [v] (eval a env)
      let iv ← holding [v, ov] (eval k env)
      standAt ps
      holding [v, ov, iv] (setItem ov iv v)
      release [v, ov, iv] [])) (hw : ∀ env : PySem.Env, swappedStores [.Subscript a k ps] e env = pure none) :
    JS C (.Assign [.Subscript a k ps] e pos) (fun ρ => (me ρ).st ρ fun v => (ma ρ).st ρ fun y => (mk ρ).st ρ fun x w => (match y with
      | .ref n => (match w[n]? with
        | some o => (match stO o x v with
          | some o' => .nx ρ (w.set n o')
          | none => .bad)
        | none => .bad)
      | _ => .bad)) := fun X on Wx tk =>
  imS (ps_asg (he X on.on Wx tk) (pg_sub (ho X on.on Wx tk) (hk X on.on Wx tk) (set_any (by have := (on.on.hr hcm).units; omega)) (ha X.env)) (hs (.Subscript a k ps) X.env) (hw X.env)) fun D σ H q => by
    obtain ⟨B, F, θ, w, ρ, hx, fr, po⟩ := q
    refine ⟨B, F, θ, w, ρ, hx, fr, (PoS.st po fr).imp fun d F1 θ1 w1 H1 s1 hl1 p1 v rv => ?_⟩
    have fr1 := fr.step s1 hl1
    refine ⟨B, F1, θ1, w1, ρ, hx, fr1, (PoS.st p1 fr1).imp fun y F2 θ2 w2 H2 s2 hl2 p2 o ro => ?_⟩
    have fr2 := fr1.step s2 hl2
    refine ⟨B, F2, θ2, w2, ρ, hx, fr2, (PoS.st p2 fr2).imp fun x F3 θ3 w3 H3 s3 hl3 p3 i ri => ?_⟩
    have fr3 := fr2.step s3 hl3
    cases ro with
    | ref hn =>
      rename_i a n
      dsimp only at p3
      cases e1 : w3[n]? with
      | none => rw [e1] at p3; exact p3.elim
      | some o =>
        rw [e1] at p3
        dsimp only at p3
        cases e2 : stO o x d with
        | none => rw [e2] at p3; exact p3.elim
        | some o' =>
          rw [e2] at p3
          obtain ⟨a2, ha2, q⟩ := hl3.ob n o e1
          have hn3 := s3.grow.get hn
          rw [hn3] at ha2; cases ha2
          obtain ⟨hI, nI, z, hz, hq⟩ := stO_ok hl3 q ri (rv.mono (s2.trans s3).grow) e2
          exact hq _ (p3 F3 θ3 _ _ Grow.refl (fr3.setW hn3 e1 hz))
    | _ => exact p3.elim
/-- a field of a shared instance -/
theorem js_setF {a e : Expr} {ma me : Env → M D} {f c : Nat} {ap pos : Pos} (hok : C.okA c f = true) (he : JD C e me) (ho : JD C a ma) (hs : ∀ (t : Expr) (env : PySem.Env), swapsWith e (some t) pos.line env = pure false) :
    JS C (.Assign [.Attribute a (C.T.fl f) ap] e pos) (fun ρ => (me ρ).st ρ fun v => (ma ρ).st ρ fun y w => (match y with
    | .ref n => (match w[n]? with
      | some (.ins c' fs) => if c' = c ∧ fs.length < 1000 then .nx ρ (w.set n (.ins c' (putFs fs f v))) else .bad
      | _ => .bad)
    | _ => .bad)) := fun X on Wx tk =>
  imS (ps_fld (ho X on.on Wx tk) (he X on.on Wx tk) (hs _ X.env)) fun D σ H q => by
    obtain ⟨B, F, θ, w, ρ, hx, fr, po⟩ := q
    refine ⟨B, F, θ, w, ρ, hx, fr, (PoS.st po fr).imp fun d F1 θ1 w1 H1 s1 hl1 p1 v rv => ?_⟩
    have fr1 := fr.step s1 hl1
    refine ⟨B, F1, θ1, w1, ρ, hx, fr1, (PoS.st p1 fr1).imp fun y F2 θ2 w2 H2 s2 hl2 p2 o ro => ?_⟩
    have fr2 := fr1.step s2 hl2
    cases ro with
    | ref hn =>
      rename_i a n
      dsimp only at p2
      cases e1 : w2[n]? with
      | none => rw [e1] at p2; exact p2.elim
      | some o =>
        rw [e1] at p2
        cases o with
        | ins c' fs =>
          dsimp only at p2
          by_cases hc : c' = c ∧ fs.length < 1000
          · rw [if_pos hc] at p2
            obtain ⟨rfl, hl⟩ := hc
            obtain ⟨a2, ha2, q⟩ := hl2.ob n _ e1
            rw [hn] at ha2; cases ha2
            obtain ⟨Ca, dx, gs, hC, h1, h2, r⟩ := id q
            refine ⟨a, Ca, dx, gs, rfl, h1, hC ▸ (on.on.at_ c' f hok).1, hC ▸ (on.on.at_ c' f hok).2, by rw [r.length]; exact hl, ?_⟩
            refine p2 F2 θ2 _ _ Grow.refl (fr2.setW hn e1 ⟨Ca, dx, _, hC, upd_same, ?_, RepF.put (rv.mono s2.grow) r⟩)
            rw [upd_ne (fun z => by rw [z, h1] at h2; cases h2)]; exact h2
          · rw [if_neg hc] at p2; exact p2.elim
        | _ => exact p2.elim
    | _ => exact p2.elim
/-- a field of the instance that is being made -/
theorem js_setS {e : Expr} {me : Env → M D} {f c : Nat} {x : Str} {p ap pos : Pos} (hok : C.okA c f = true) (hN : C.N[(0 : Nat)]? = some x) (hx : isLC C.sc x = true) (hd : (x == ("__debug__" : Str)) = false) (hcd : (x == ("__classdict__" : Str)) = false) (he : JD C e me) (hs : ∀ (t : Expr) (env : PySem.Env), swapsWith e (some t) pos.line env = pure false) :
    JS C (.Assign [.Attribute (.Name x p) (C.T.fl f) ap] e pos) (fun ρ => (me ρ).st ρ fun v w => (match ρ[(0 : Nat)]? with
    | some (.o (.ins c' fs)) => if c' = c ∧ fs.length < 1000 then .nx (ρ.set 0 (.o (.ins c' (putFs fs f v)))) w else .bad
    | _ => .bad)) := fun X on Wx tk =>
  imS (ps_fld (pe_var (i := 0) (by rw [on.on.N]; exact hN) (by rw [on.on.sc]; exact vis_of hx) hd hcd) (he X on.on Wx tk) (hs _ X.env)) fun D σ H q => by
    obtain ⟨B, F, θ, w, ρ, hx, fr, po⟩ := q
    refine ⟨B, F, θ, w, ρ, hx, fr, (PoS.st po fr).imp fun d F1 θ1 w1 H1 s1 hl1 p1 v rv => ?_⟩
    have fr1 := fr.step s1 hl1
    cases e : ρ[(0 : Nat)]? with
    | none => rw [e] at p1; exact p1.elim
    | some s =>
      rw [e] at p1
      cases s with
      | o o =>
        cases o with
        | ins c' fs =>
          dsimp only at p1
          by_cases hc : c' = c ∧ fs.length < 1000
          · rw [if_pos hc] at p1
            obtain ⟨rfl, hl⟩ := hc
            have hi : 0 < σ.length := by rw [fr.len]; exact (List.getElem?_eq_some_iff.mp e).1
            obtain ⟨a, hv, _, _, _, q⟩ := fr1.sl 0 _ _ e (List.getElem?_eq_getElem hi)
            have hva : σ[(0 : Nat)]? = some (some (.ref a)) := by rw [List.getElem?_eq_getElem hi, hv]
            obtain ⟨Ca, dx, gs, hC, h1, h2, r⟩ := id q
            refine ⟨.ref a, hva, a, Ca, dx, gs, rfl, h1, hC ▸ (on.on.at_ c' f hok).1, hC ▸ (on.on.at_ c' f hok).2, by rw [r.length]; exact hl, ?_⟩
            refine p1 F1 θ1 _ _ Grow.refl (fr1.setO e hva (fun C' dx' gs' y => by rw [h1] at y; cases y; exact ⟨_, rfl⟩) rfl ⟨Ca, dx, _, hC, upd_same, ?_, RepF.put rv r⟩)
            rw [upd_ne (fun z => by rw [z, h1] at h2; cases h2)]; exact h2
          · rw [if_neg hc] at p1; exact p1.elim
        | _ => exact p1.elim
      | _ => exact p1.elim
end
end My

set_option Elab.async false
set_option linter.all false
set_option maxRecDepth 100000
set_option maxHeartbeats 4000000
/-! Mini16: append, loops, raise, try. -/
namespace My
open PySem L2

section
variable {C : Ctx}
theorem few1 {cpos : Pos} {e : Expr} {env : PySem.Env} (h : NoSt e) : ((backTo cpos (starEach [e] env)).all (fun x => !x.1) && (backToKw cpos (keywordEach [] env)).all (fun x => x.1.isSome)
      && decide (([e] : List Expr).length + ([] : List Keyword).length + (if ([] : List Keyword).isEmpty then 0 else 1) < 30)) = true := by
  rw [h [] env]
  rfl
theorem bind_swap (pos : Pos) (env : PySem.Env) (f : Expr) (es : List Expr) (ks : List Keyword) (p : Pos) : swapsWith (.Call f es ks p) none pos.line env = pure false := rfl
theorem js_app {i : Nat} {x : Str} {e : Expr} {me : Env → M D} {p ap cp pos : Pos} (hN : C.N[i]? = some x) (hx : isLC C.sc x = true) (hd : (x == ("__debug__" : Str)) = false) (hcd : (x == ("__classdict__" : Str)) = false)
    (hl : (ap.endLine == cp.line) = true) (ns : NoSt e) (he : JD C e me) : JS C (.Expr (.Call (.Attribute (.Name x p) "append" ap) [e] [] cp) pos) (fun ρ w => (match ρ[i]? with
    | some (.o (.lst ds)) => if ds.length < lim then (me ρ).st ρ (fun v w => .nx (ρ.set i (.o (.lst (ds ++ [v])))) w) w else .bad
    | _ => .bad)) := fun X on Wx tk =>
  imS (ps_expr (pe_bm F.plainAttrs_list F.slot_list_append F.type_list_append mt_append (pe_var (i := i) (by rw [on.on.N]; exact hN) (by rw [on.on.sc]; exact vis_of hx) hd hcd) (ja_cons ns he ja_nil X on.on Wx tk) (by rfl) (few1 ns) hl (ns [] X.env) (by rfl)) (by rfl)) fun D σ H q => by
    obtain ⟨B, F, θ, w, ρ, hx, fr, po⟩ := q
    dsimp only at po
    cases e : ρ[i]? with
    | none => rw [e] at po; exact po.elim
    | some s =>
      rw [e] at po
      cases s with
      | o o =>
        cases o with
        | lst ds =>
          dsimp only at po
          by_cases hz : ds.length < lim
          case neg => rw [if_neg hz] at po; exact po.elim
          rw [if_pos hz] at po
          have hi : i < σ.length := by rw [fr.len]; exact (List.getElem?_eq_some_iff.mp e).1
          obtain ⟨a, hv, _, _, _, q⟩ := fr.sl i _ _ e (List.getElem?_eq_getElem hi)
          have hva : σ[i]? = some (some (.ref a)) := by rw [List.getElem?_eq_getElem hi, hv]
          obtain ⟨vs0, e0, _⟩ := id q
          refine ⟨.ref a, hva, .inl ⟨rfl, vs0, .inl (.inl e0)⟩, B, F, θ, w, ρ, hx, fr, ?_⟩
          have p0 := PoS.st po fr
          show Po X.K C.T F θ H σ (((me ρ).bd fun x => (M.ret []).bd fun xs => M.ret (x :: xs)) w) _ Wx
          unfold M.bd
          cases e2 : me ρ w with
          | bad => rw [e2] at p0; exact p0
          | exc c fs w' => rw [e2] at p0; exact p0
          | ok d w' =>
            rw [e2] at p0
            intro F2 θ2 H2 s2 hl2 vs rvs
            have fr2 := fr.step s2 hl2
            cases rvs with
            | cons r rr =>
              cases rr
              obtain ⟨a2, ha2, _, _, _, q2⟩ := fr2.sl i _ _ e hva
              cases ha2
              obtain ⟨xs, ex, rx⟩ := id q2
              exact ⟨a, xs, _, rfl, rfl, ex, by rw [rx.length, ← lim_size]; exact hz, p0 F2 θ2 H2 s2 hl2 F2 θ2 _ _ Grow.refl (fr2.setO e hva (fun C dx gs y => by rw [ex] at y; cases y) rfl ⟨_, upd_same, rx.append (.cons r .nil)⟩)⟩
        | _ => exact po.elim
      | _ => exact po.elim
theorem js_appR {a e : Expr} {ma me : Env → M D} {ap cp pos : Pos} (hab : ∀ env : PySem.Env, attributeBase a "append" env (eval a env) = eval a env)
    (hl : (ap.endLine == cp.line) = true) (ns : NoSt e) (ha : JD C a ma) (he : JD C e me) : JS C (.Expr (.Call (.Attribute a "append" ap) [e] [] cp) pos) (fun ρ => (ma ρ).st ρ fun y w => (match y with
    | .ref n => (match w[n]? with
      | some (.lst _) => (me ρ).st ρ (fun v w => (match w[n]? with
        | some (.lst ds) => if ds.length < lim then .nx ρ (w.set n (.lst (ds ++ [v]))) else .bad
        | _ => .bad)) w
      | _ => .bad)
    | _ => .bad)) := fun X on Wx tk =>
  imS (ps_expr (pe_bm F.plainAttrs_list F.slot_list_append F.type_list_append mt_append (ha X on.on Wx tk) (ja_cons ns he ja_nil X on.on Wx tk) (hab X.env) (few1 ns) hl (ns [] X.env) (by rfl)) (by rfl)) fun D σ H q => by
    obtain ⟨B, F, θ, w, ρ, hx, fr, po⟩ := q
    refine ⟨B, F, θ, w, ρ, hx, fr, (PoS.st po fr).imp fun y F1 θ1 w1 H1 s1 hl1 p1 o ro => ?_⟩
    have fr1 := fr.step s1 hl1
    cases ro with
    | ref hn =>
      rename_i a n
      dsimp only at p1
      cases e1 : w1[n]? with
      | none => rw [e1] at p1; exact p1.elim
      | some o =>
        rw [e1] at p1
        cases o with
        | lst ds0 =>
          dsimp only at p1
          obtain ⟨a2, ha2, q⟩ := hl1.ob n _ e1
          rw [hn] at ha2; cases ha2
          obtain ⟨vs0, e0, _⟩ := id q
          refine ⟨.inl ⟨rfl, vs0, .inl (.inl e0)⟩, B, F1, θ1, w1, ρ, hx, fr1, ?_⟩
          have p0 := PoS.st p1 fr1
          show Po X.K C.T F1 θ1 H1 σ (((me ρ).bd fun x => (M.ret []).bd fun xs => M.ret (x :: xs)) w1) _ Wx
          unfold M.bd
          cases e2 : me ρ w1 with
          | bad => rw [e2] at p0; exact p0
          | exc c fs w' => rw [e2] at p0; exact p0
          | ok d w2 =>
            rw [e2] at p0
            intro F2 θ2 H2 s2 hl2 vs rvs
            have fr2 := fr1.step s2 hl2
            have p3 := p0 F2 θ2 H2 s2 hl2
            cases rvs with
            | cons r rr =>
              cases rr
              cases e3 : w2[n]? with
              | none => simp only [e3] at p3; exact p3.elim
              | some o3 =>
                simp only [e3] at p3
                cases o3 with
                | lst ds =>
                  dsimp only at p3
                  by_cases hz : ds.length < lim
                  case neg => rw [if_neg hz] at p3; exact p3.elim
                  rw [if_pos hz] at p3
                  have hn2 := s2.grow.get hn
                  obtain ⟨a3, ha3, q3⟩ := hl2.ob n _ e3
                  rw [hn2] at ha3; cases ha3
                  obtain ⟨xs, ex, rx⟩ := id q3
                  exact ⟨a, xs, _, rfl, rfl, ex, by rw [rx.length, ← lim_size]; exact hz, p3 F2 θ2 _ _ Grow.refl (fr2.setW hn2 e3 ⟨_, upd_same, rx.append (.cons r .nil)⟩)⟩
                | _ => exact p3.elim
        | _ => exact p1.elim
    | _ => exact p1.elim
/-- n += e -/
def pyAug : Op → Operator
  | .add => .Add
  | _ => .Sub
theorem js_aug {i : Nat} {x : Str} {e : Expr} {o : Op} {me : Env → M D} {p pos : Pos} (ho : o = .add ∨ o = .sub) (hN : C.N[i]? = some x) (hx : isLC C.sc x = true) (he : JD C e me) :
    JS C (.AugAssign (.Name x p) (pyAug o) e pos) (fun ρ w => (match ρ[i]? with
    | some (.v x) => (me ρ).st ρ (fun y w => (match augD o x y with
      | some z => .nx (ρ.set i (.v z)) w
      | none => .bad)) w
    | _ => .bad)) := fun X on Wx tk => by
  have key : ∀ (f : Int → Int → Int), PIp X (pyAug o) (ipI f) → (∀ x y z, augD o x y = some z → ∃ a b, x = .int a ∧ y = .int b ∧ z = .int (f a b)) → PS X (.AugAssign (.Name x p) (pyAug o) e pos) (tS X.K C.T C.xi (fun ρ w => (match ρ[i]? with
    | some (.v x) => (me ρ).st ρ (fun y w => (match augD o x y with
      | some z => .nx (ρ.set i (.v z)) w
      | none => .bad)) w
    | _ => .bad)) Wx) := fun f hp hf =>
    imS (ps_aug (i := i) (by rw [on.on.N]; exact on.on.nd) (by rw [on.on.N]; exact hN) (loc_of on.on hx) (he X on.on Wx tk) hp (.inl (on.fnA x))) fun D σ H q => by
      obtain ⟨B, F, θ, w, ρ, hx, fr, po⟩ := q
      dsimp only at po
      cases e : ρ[i]? with
      | none => rw [e] at po; exact po.elim
      | some s =>
        rw [e] at po
        cases s with
        | v d =>
          dsimp only at po
          have hi : i < σ.length := by rw [fr.len]; exact (List.getElem?_eq_some_iff.mp e).1
          obtain ⟨v, hv, r⟩ := fr.sl i _ _ e (List.getElem?_eq_getElem hi)
          refine ⟨v, by rw [List.getElem?_eq_getElem hi, hv], B, F, θ, w, ρ, hx, fr, (PoS.st po fr).imp fun y F1 θ1 w1 H1 s1 hl1 p1 u ru => ?_⟩
          cases e2 : augD o d y with
          | none => simp only [e2] at p1; exact p1.elim
          | some z =>
            simp only [e2] at p1
            obtain ⟨a, b, rfl, rfl, rfl⟩ := hf _ _ _ e2
            cases r
            cases ru
            exact ⟨a, b, rfl, rfl, p1 F1 θ1 H1 _ Grow.refl ((fr.step s1 hl1).setV i (.int _))⟩
        | _ => exact po.elim
  rcases ho with rfl | rfl
  · exact key (fun i j => i + j) ip_add fun x y z h => by
      cases x <;> first | (cases h; done) | (cases y <;> first | (cases h; done) | (cases h; exact ⟨_, _, rfl, rfl, rfl⟩))
  · exact key (fun i j => i - j) ip_sub fun x y z h => by
      cases x <;> first | (cases h; done) | (cases y <;> first | (cases h; done) | (cases h; exact ⟨_, _, rfl, rfl, rfl⟩))
/-- self.f += e -/
theorem js_augF {a e : Expr} {ma me : Env → M D} {f c : Nat} {ap pos : Pos} (hok : C.okA c f = true) (ha : JD C a ma) (he : JD C e me) : JS C (.AugAssign (.Attribute a (C.T.fl f) ap) .Add e pos) (fun ρ => (ma ρ).st ρ fun y w => (match y with
    | .ref n => (match w[n]? with
      | some (.ins c' fs) => if c' = c then (match lookF fs f with
        | some (.int x) => (me ρ).st ρ (fun z w => (match z, w[n]? with
          | .int j, some (.ins c' fs) => if c' = c ∧ fs.length < 1000 then .nx ρ (w.set n (.ins c' (putFs fs f (.int (x + j))))) else .bad
          | _, _ => .bad)) w
        | _ => .bad) else .bad
      | _ => .bad)
    | _ => .bad)) := fun X on Wx tk =>
  imS (ps_fldaug (ha X on.on Wx tk) (he X on.on Wx tk) in_add) fun D σ H q => by
    obtain ⟨B, F, θ, w, ρ, hx, fr, po⟩ := q
    refine ⟨B, F, θ, w, ρ, hx, fr, (PoS.st po fr).imp fun y F1 θ1 w1 H1 s1 hl1 p1 o ro => ?_⟩
    have fr1 := fr.step s1 hl1
    cases ro with
    | ref hn =>
      rename_i a n
      dsimp only at p1
      cases e1 : w1[n]? with
      | none => rw [e1] at p1; exact p1.elim
      | some o =>
        rw [e1] at p1
        cases o with
        | ins c' fs =>
          dsimp only at p1
          by_cases hc : c' = c
          case neg => rw [if_neg hc] at p1; exact p1.elim
          rw [if_pos hc] at p1
          subst hc
          obtain ⟨a2, ha2, q⟩ := hl1.ob n _ e1
          rw [hn] at ha2; cases ha2
          obtain ⟨Ca, dx, gs, hC, h1, h2, r⟩ := id q
          rcases r.look f with ⟨z, _⟩ | ⟨v, d, z, zl, zr⟩
          · rw [z] at p1; exact p1.elim
          · rw [z] at p1
            cases zr with
            | int x =>
              dsimp only at p1
              refine ⟨a, Ca, dx, gs, _, rfl, h1, hC ▸ (on.on.at_ c' f hok).1, hC ▸ (on.on.at_ c' f hok).2, zl, B, F1, θ1, w1, ρ, hx, fr1, (PoS.st p1 fr1).imp fun y F2 θ2 w2 H2 s2 hl2 p2 u ru => ?_⟩
              have fr2 := fr1.step s2 hl2
              cases ru with
              | int j =>
                cases e3 : w2[n]? with
                | none => rw [e3] at p2; exact p2.elim
                | some o3 =>
                  rw [e3] at p2
                  cases o3 with
                  | ins c2 fs2 =>
                    dsimp only at p2
                    by_cases hc2 : c2 = c' ∧ fs2.length < 1000
                    case neg => rw [if_neg hc2] at p2; exact p2.elim
                    rw [if_pos hc2] at p2
                    obtain ⟨rfl, hl⟩ := hc2
                    have hn2 := s2.grow.get hn
                    obtain ⟨a3, ha3, q3⟩ := hl2.ob n _ e3
                    rw [hn2] at ha3; cases ha3
                    obtain ⟨Ca2, dx2, gs2, hC2, h12, h22, r2⟩ := id q3
                    obtain rfl : Ca2 = Ca := hC2.symm.trans hC
                    refine ⟨x, j, rfl, rfl, dx2, gs2, h12, by rw [r2.length]; exact hl, ?_⟩
                    refine p2 F2 θ2 _ _ Grow.refl (fr2.setW hn2 e3 ⟨Ca2, dx2, _, hC2, upd_same, ?_, RepF.put (.int _) r2⟩)
                    rw [upd_ne (fun z => by rw [z, h12] at h22; cases h22)]; exact h22
                  | _ => exact p2.elim
              | _ => first | exact p2.elim | (cases hq : w2[n]? <;> rw [hq] at p2 <;> exact p2.elim)
            | _ => exact p1.elim
        | _ => exact p1.elim
    | _ => exact p1.elim
end
end My

set_option Elab.async false
set_option linter.all false
set_option maxRecDepth 100000
set_option maxHeartbeats 4000000
/-! MiniB: pop of a shared list. -/
namespace My
open PySem L2
section
variable {K : PySem.W.Frag} {T : Tb} {F F' H H' : Hp} {θ θ' : List Addr} {w w' : Wd}
theorem Hl.setW (hl : Hl K T F θ w H) {n : Nat} {p : Addr} {o o' : Own} {u : HO} (hn : θ[n]? = some p) (hw : w[n]? = some o) (ho : OwnAt K T F θ (upd H p u) p o') : Hl K T F θ (w.set n o') (upd H p u) := by
  have hp : p ∈ θ := List.mem_of_getElem? hn
  have pF := hl.dj p hp
  obtain ⟨a, ha, q⟩ := hl.ob n o hw
  rw [hn] at ha; cases ha
  exact {
    fh := fun a o e => by rw [upd_ne (ne_of_none e pF)]; exact hl.fh a o e
    dj := hl.dj
    nd := hl.nd
    ln := by rw [List.length_set]; exact hl.ln
    ob := fun m o2 h => by
      rcases set_cases h with ⟨rfl, rfl, _⟩ | ⟨nm, h⟩
      · exact ⟨p, hn, ho⟩
      · obtain ⟨a2, h2, q2⟩ := hl.ob m o2 h
        refine ⟨a2, h2, q2.put q.noown fun z => nm ?_⟩
        subst z
        exact (List.getElem?_inj (List.getElem?_eq_some_iff.mp h2).1 hl.nd).mp (h2.trans hn.symm) }
theorem Step.setW {n : Nat} {p : Addr} {u : HO} (hn : θ[n]? = some p) : Step F θ H F θ (upd H p u) where
  keep := fun a o e n => by rw [upd_ne (fun z => by subst z; exact n (List.mem_of_getElem? hn))]; exact e
  ext := fun _ _ h => h
  pre := ⟨[], by simp, by simp⟩
  fre := fun _ _ h => .inl h
  live := fun a o e => by
    by_cases z : a = p
    · subst z; exact ⟨u, upd_same⟩
    · exact ⟨o, by rw [upd_ne z]; exact e⟩
end
section
variable {C : Ctx}
theorem je_popR0 {a e : Expr} {ma me : Env → M D} {ap cp : Pos} (hab : ∀ env : PySem.Env, attributeBase a "pop" env (eval a env) = eval a env)
    (hl : (ap.endLine == cp.line) = true) (ns : NoSt e) (ha : JD C a ma) (he : JD C e me) : JE C (.Call (.Attribute a "pop" ap) [e] [] cp) (fun ρ => (ma ρ).bd fun x w => (match x with
    | .ref n => if isLst w n then ((me ρ).bd fun k w => popAt n k w) w else .bad
    | _ => .bad)) := fun X on Wx tk =>
  imE (pe_bm F.plainAttrs_list F.slot_list_pop F.type_list_pop mt_popAt (ha X on Wx tk) (ja_cons ns he ja_nil X on Wx tk) (hab X.env) (few1 ns) hl (ns [] X.env) (by rfl)) fun σ H Q q => by
    obtain ⟨B, F, θ, w, ρ, hx, fr, po⟩ := q
    refine ⟨B, F, θ, w, ρ, hx, fr, (Po.bd (m := ma ρ) po).imp fun y F1 θ1 w1 H1 s1 hl1 p1 v r => ?_⟩
    cases r with
    | ref hn =>
      rename_i a n
      dsimp only at p1
      unfold isLst at p1
      cases e1 : w1[n]? with
      | none => simp only [e1] at p1; exact p1.elim
      | some o =>
        cases o with
        | lst ds0 =>
          simp only [e1, if_true] at p1
          obtain ⟨a2, ha2, q⟩ := hl1.ob n _ e1
          rw [hn] at ha2; cases ha2
          obtain ⟨vs0, e0, _⟩ := id q
          refine ⟨.inl ⟨rfl, vs0, .inl (.inl e0)⟩, B, F1, θ1, w1, ρ, hx, fr.step s1 hl1, ?_⟩
          show Po X.K C.T F1 θ1 H1 σ (((me ρ).bd fun x => (M.ret []).bd fun xs => M.ret (x :: xs)) w1) _ Wx
          have p0 := Po.bd (m := me ρ) (f := fun k w => popAt n k w) p1
          unfold M.bd
          cases e2 : me ρ w1 with
          | bad => rw [e2] at p0; exact p0
          | exc c fs w' => rw [e2] at p0; exact p0
          | ok d w2 =>
            rw [e2] at p0
            intro F2 θ2 H2 s2 hl2 vs rvs
            have p3 := p0 F2 θ2 H2 s2 hl2
            cases rvs with
            | cons r rr =>
              cases rr
              unfold popAt at p3
              cases r <;> first | exact p3.elim | skip
              rename_i i
              cases e3 : w2[n]? with
              | none => simp only [e3] at p3; exact p3.elim
              | some o3 =>
                cases o3 with
                | lst ds =>
                  simp only [e3] at p3
                  by_cases hi : 0 ≤ i ∧ i < 4611686018427387904
                  case neg => rw [if_neg hi] at p3; exact p3.elim
                  rw [if_pos hi] at p3
                  cases e4 : ds[i.toNat]? with
                  | none => simp only [e4] at p3; exact p3.elim
                  | some y =>
                    simp only [e4] at p3
                    have hn2 := s2.grow.get hn
                    obtain ⟨a3, ha3, q3⟩ := hl2.ob n _ e3
                    rw [hn2] at ha3; cases ha3
                    obtain ⟨xs, ex, rx⟩ := id q3
                    obtain ⟨v, hv, rv⟩ := rx.get e4
                    have hlen : i.toNat < xs.length := (List.getElem?_eq_some_iff.mp hv).1
                    refine ⟨a, xs, i, i.toNat, v, rfl, rfl, ex, by omega, by omega, ?_, hv, ?_⟩
                    · unfold seqIndex?
                      have h1 : ¬ i < 0 := by omega
                      have h2 : i < xs.length := by omega
                      simp [h1, h2, hi.1]
                    · exact p3 F2 θ2 _ (Step.setW hn2) (hl2.setW hn2 e3 ⟨_, upd_same, rx.eraseIdx _⟩) v rv
                | _ => simp only [e3] at p3; exact p3.elim
        | _ => simp only [e1] at p1; exact p1.elim
    | _ => exact p1.elim
end
end My

set_option Elab.async false
set_option linter.all false
set_option maxRecDepth 100000
set_option maxHeartbeats 4000000
/-! Mini17: loops, raise, try. -/
namespace My
open PySem L2

section
variable {C : Ctx}
/-- one turn of a while -/
noncomputable def whF (mt : Env → M Bool) (mb : Env → MS) (ρ : Env) (w : Wd) : RS × Bool := match mt ρ w with
    | .ok c w' => if c then (mb ρ w').turn else (.nx ρ w', false)
    | .exc c fs w' => (.ex c fs ρ w', false)
    | .bad => (.bad, false)
theorem js_while {c : Expr} {b : List Stmt} {mt : Env → M Bool} {mb : Env → MS} {pos : Pos} (hcm : C.cm = true) (hc : JT C c mt) (hb : JSs C b mb) : JS C (.While c b [] pos) (fun ρ => loopN (whF mt mb) ρ) := fun X on Wx tk =>
  imS (ps_while (on.pas hcm) (hc X on.on Wx tk) (hb X on Wx tk)) fun D σ H q => by
    obtain ⟨B, F, θ, w, ρ, hx, fr, po⟩ := q
    by_cases hn : ∃ n r, iterN (whF mt mb) n ρ w = some r
    case neg =>
      have e : loopN (whF mt mb) ρ w = .bad := by unfold loopN; rw [dif_neg hn]
      simp only [e] at po
      exact po.elim
    obtain ⟨n, r, hr⟩ := hn
    have e := loopN_of hr
    simp only [e] at po
    refine ⟨fun m σ H => ∃ F' θ' w ρ, Grow F θ F' θ' ∧ Fr X.K C.T B F' θ' w H σ ρ ∧ iterN (whF mt mb) m ρ w = some r, ⟨n, F, θ, w, ρ, Grow.refl, fr, hr⟩, ?_⟩
    clear fr hr e
    rintro m σ1 H1 ⟨F1, θ1, w1, ρ1, g1, fr1, h1⟩
    cases m with
    | zero => cases h1
    | succ m =>
      unfold iterN at h1
      refine ⟨B, F1, θ1, w1, ρ1, hx, fr1, ?_⟩
      have po1 := PoS.later po g1
      cases e1 : mt ρ1 w1 with
      | bad =>
        have e2 : whF mt mb ρ1 w1 = (.bad, false) := by unfold whF; rw [e1]
        rw [e2] at h1; cases h1
        exact po1.elim
      | exc c fs w2 =>
        have e2 : whF mt mb ρ1 w1 = (.ex c fs ρ1 w2, false) := by unfold whF; rw [e1]
        rw [e2] at h1; cases h1
        exact fun F' θ' H' cls od s hl x => po1 F' θ' H' σ1 cls od s.grow (fr1.step s hl) x
      | ok b w2 =>
        intro F2 θ2 H2 s2 hl2
        have fr2 := fr1.step s2 hl2
        cases b with
        | false =>
          have e2 : whF mt mb ρ1 w1 = (.nx ρ1 w2, false) := by unfold whF; rw [e1]; rfl
          rw [e2] at h1; cases h1
          simp only [KT, Bool.false_eq_true, ↓reduceIte]
          exact po1 F2 θ2 H2 σ1 s2.grow fr2
        | true =>
          have e2 : whF mt mb ρ1 w1 = (mb ρ1 w2).turn := by unfold whF; rw [e1]; rfl
          rw [e2] at h1
          simp only [KT, ↓reduceIte]
          refine ⟨fun σ' H' => ∃ F' θ' w ρ, Grow F θ F' θ' ∧ Fr X.K C.T B F' θ' w H' σ' ρ ∧ iterN (whF mt mb) m ρ w = some r, fun σ' H' z => ⟨m, Nat.lt_succ_self m, z⟩, B, F2, θ2, w2, ρ1, hx, fr2, ?_⟩
          have po2 := PoS.later po1 s2.grow
          have g2 := g1.trans s2.grow
          cases e3 : mb ρ1 w2 with
          | nx ρ' w' => rw [e3] at h1; exact fun F' θ' H' σ' g fr => ⟨F', θ', w', ρ', g2.trans g, fr, h1⟩
          | ct ρ' w' => rw [e3] at h1; exact fun F' θ' H' σ' g fr => ⟨F', θ', w', ρ', g2.trans g, fr, h1⟩
          | bk ρ' w' => rw [e3] at h1; cases h1; exact po2
          | rt v w' => rw [e3] at h1; cases h1; cases v <;> exact po2
          | ex c fs ρ' w' => rw [e3] at h1; cases h1; exact po2
          | bad => rw [e3] at h1; cases h1; exact po2.elim
theorem js_for {tg : Tg} {tge iter : Expr} {b : List Stmt} {mi : Env → M (List D)} {mb : Env → MS} {pos : Pos} (hcm : C.cm = true) (hg : tgIs C.N (isLC C.sc) tg tge = true) (hi : JI C tge iter mi) (hb : JSs C b mb) (hs : ∀ (env : PySem.Env) x, foldedSetIterable iter env x = pure x) :
    JS C (.For tge iter b [] pos) (fun ρ => (mi ρ).st ρ fun xs => forGo tg mb xs ρ) := fun X on Wx tk => by
  have ok : StOk X (isLC C.sc) := by have := @stOk_fn X on.fnA; rw [on.on.sc] at this; exact this
  refine imS (ps_for (on.pas hcm) (on.on.calm hcm) (hi X on.on Wx tk) (pg_tgIs (on.on.calm hcm) (by rw [on.on.N]; exact on.on.nd) ok (by rw [on.on.N]; exact hg)) (hb X on Wx tk) (hs X.env)) fun D σ H q => ?_
  obtain ⟨B, F, θ, w, ρ, hx, fr, po⟩ := q
  refine ⟨B, F, θ, w, ρ, hx, fr, (PoS.st po fr).imp fun xs F1 θ1 w1 H1 s1 hl1 p1 J itk => ?_⟩
  have f1 := fr.step s1 hl1
  have wk : Walk J xs.length (fun H => ∃ F θ w, Grow F1 θ1 F θ ∧ Hl X.K C.T F θ w H) (fun i H x H' => ∀ F θ w d, Grow F1 θ1 F θ → Hl X.K C.T F θ w H → xs[i]? = some d → ∃ F', Step F θ H F' θ H' ∧ Hl X.K C.T F' θ w H' ∧ Rep X.K C.T F' θ x d) :=
    ⟨fun i H hi ⟨F, θ, w, g, hl⟩ => itk.goes i F θ w H g hl hi, fun H ⟨F, θ, w, g, hl⟩ => itk.stops F θ w H g hl, fun i H x H' hi _ y F θ w d g hl hd => itk.yields i d F θ w H x H' g hl hd y⟩
  refine for_it wk (fun i σ H => ∃ F θ w ρ, Grow F1 θ1 F θ ∧ Fr X.K C.T B F θ w H σ ρ ∧ PoS X.K C.T B F θ D Wx (forGo tg mb (xs.drop i) ρ w)) ⟨F1, θ1, w1, ρ, Grow.refl, f1, p1⟩
    (fun i σ H hi ⟨F, θ, w, ρ, g, fr, _⟩ => ⟨F, θ, w, g, fr.hl⟩) ?_ ?_
  · rintro i x σ2 H2 H3 hi ⟨F2, θ2, w2, ρ2, g2, fr2, p2⟩ hy
    have hd : xs.drop i = xs[i] :: xs.drop (i + 1) := List.drop_eq_getElem_cons hi
    rw [hd] at p2
    unfold forGo at p2
    obtain ⟨F3, st3, hl3, rx⟩ := hy F2 θ2 w2 _ g2 fr2.hl (List.getElem?_eq_getElem hi)
    have f3 := fr2.step st3 hl3
    cases eb : bindTg tg xs[i] ρ2 with
    | none => rw [eb] at p2; exact p2.elim
    | some ρ' =>
      rw [eb] at p2
      dsimp only at p2
      refine gTg_law f3 rx eb fun σ' f4 _ => ⟨B, F3, θ2, w2, ρ', hx, f4, ?_⟩
      have p3 := PoS.later p2 st3.grow
      have g3 := g2.trans st3.grow
      cases e3 : mb ρ' w2 with
      | nx ρ' w' => rw [e3] at p3; exact fun F' θ' H' σ' g fr => ⟨F', θ', w', ρ', g3.trans g, fr, PoS.later p3 g⟩
      | ct ρ' w' => rw [e3] at p3; exact fun F' θ' H' σ' g fr => ⟨F', θ', w', ρ', g3.trans g, fr, PoS.later p3 g⟩
      | bk ρ' w' => rw [e3] at p3; exact p3
      | rt v w' => rw [e3] at p3; cases v <;> exact p3
      | ex c fs ρ' w' => rw [e3] at p3; exact p3
      | bad => rw [e3] at p3; exact p3.elim
  · rintro σ2 H2 ⟨F2, θ2, w2, ρ2, g2, fr2, p2⟩
    rw [List.drop_length] at p2
    exact p2 F2 θ2 H2 σ2 Grow.refl fr2

/-! ### raise, try -/
theorem pmk_own0 {X : Cx} {a : Addr} {bmB : List Value} {B newId initId : String} {x : Str} {p pos : Pos} (facts : PySem.ExcBaseFacts B newId initId bmB) (isx : PySem.W.excIn X.K a bmB newId = true) (at_ : X.mg x = some (.ref a))
    (kept : PySem.W.keepIn X.K (.ref a) = true) (rs : Raises X (.ref a)) (glob : Gl X x) (nd : (x == ("__debug__" : Str)) = false) : PMk X (.Call (.Name x p) [] [] pos) (fun _ H Q => Q (.ref a) none H) := by
  intro pins s σ H Q I hq
  refine wpAny_Call_Name_kw (ld_glob I glob at_ ?_ nd)
  refine PySem.W.callWith_K0 I.kIn kept ?_
  show wpAny _ _ (call (.ref a) []) _ _ _
  obtain ⟨bm, N, nm, qn, bs, hdct, sn, sub, ab, col, dd, k0, k1, k2, k3, k5, mN, hC, hN, hni, tl⟩ := exc_obj I.kIn isx
  exact wpAny_call_exc_subT facts tl hC hN hni (fun h' e made => mk_of I made rs hq (I.hok.gone made.new)) (Nat.zero_le _)
theorem js_rse0 {c : Nat} {p cp pos : Pos} (hcm : C.cm = true) (ok : C.okZ c = true) (hg : C.sc.names.lookup (C.cnm c) = some .globalImplicit) (hdb : (C.cnm c == ("__debug__" : Str)) = false) :
    JS C (.Raise (some (.Call (.Name (C.cnm c) p) [] [] cp)) none pos) (fun ρ => (M.ret ([] : List D)).st ρ fun ds w => if ds.length = (C.G.efs c).length then .ex c ((C.G.efs c).zip ds) ρ w else .bad) := fun X on Wx tk => by
  obtain ⟨hxc, hef, B, newId, initId, bmB, f1, f2, f3, f4, f5⟩ := on.ox.rz c ok
  refine imS (ps_raise (on.on.calm hcm) tk (pmk_own0 f1 f2 f3 f4 f5 (Gl_of on.on hg) hdb)) fun D σ H q => ?_
  obtain ⟨B, F, θ, w, ρ, hx, fr, po⟩ := q
  have po : PoS X.K C.T B F θ D Wx (if ([] : List My.D).length = (C.G.efs c).length then .ex c ((C.G.efs c).zip []) ρ w else .bad) := po
  rw [hef] at po
  exact po F θ H σ _ none Grow.refl fr ⟨hxc, rfl, rfl⟩
def Ctx.low (C : Ctx) : Ctx := { C with cm := false }
/-- the clauses: class, suite -/
inductive HsOk (C : Ctx) : List ExceptHandler → List (Nat × (Env → MS)) → Prop
  | nil : HsOk C [] []
  | cons {c : Nat} {s : Stmt} {ss : List Stmt} {m : Env → MS} {np pos : Pos} {hds : List ExceptHandler} {l : List (Nat × (Env → MS))} (hxc : C.T.xc c = true) (hg : C.sc.names.lookup (C.cnm c) = some .globalImplicit) (hdb : (C.cnm c == ("__debug__" : Str)) = false)
      (h : JSs C.low (s :: ss) m) (r : HsOk C hds l) : HsOk C (.ExceptHandler (some (.Name (C.cnm c) np)) none (s :: ss) pos :: hds) ((c, m) :: l)
noncomputable def hsGo (G : Gx) : List (Nat × (Env → MS)) → Nat → List (Nat × D) → Env → MS
  | [], c, fs, ρ => fun w => .ex c fs ρ w
  | (c', m) :: l, c, fs, ρ => if G.sub c c' then fun w => (m ρ w).noX else hsGo G l c fs ρ
theorem OnS.suite {X : Cx} (on : OnS C X) (a : Addr) (pn : List (Addr × Obj)) : OnS C.low (X.suite a pn) where
  on := ⟨on.on.N, on.on.nd, on.on.sc, (fun z => by cases z), (fun z => by cases z), on.on.fre, on.on.glb, on.on.gd, fun f n h => ⟨(on.on.fn f n h).h⟩, fun f c m n h => ⟨(on.on.mt f c m n h).h⟩, fun f c n h => ⟨(on.on.mkr f c n h).h⟩, on.on.at_, on.on.isc⟩
  ox := ⟨on.ox.rz, on.ox.xn, on.ox.sb⟩
  fnA := on.fnA
  pas := fun z => by cases z
  stk := on.stk
  fra := on.fra
theorem OnS.tr {X : Cx} (on : OnS C X) (pn : List (Addr × Obj)) (xe : Value → Shared → Prop) (hp : PassesOwn (model X.prog X.w) X.A X.env xe) : OnS C (X.tr pn xe) where
  on := ⟨on.on.N, on.on.nd, on.on.sc, on.on.calm, on.on.hr, on.on.fre, on.on.glb, on.on.gd, fun f n h => ⟨(on.on.fn f n h).h⟩, fun f c m n h => ⟨(on.on.mt f c m n h).h⟩, fun f c n h => ⟨(on.on.mkr f c n h).h⟩, on.on.at_, on.on.isc⟩
  ox := ⟨on.ox.rz, on.ox.xn, on.ox.sb⟩
  fnA := on.fnA
  pas := fun _ => hp
  stk := on.stk
  fra := on.fra
theorem PoS.nox {K : PySem.W.Frag} {T : Tb} {B : Bs} {F : Hp} {θ : List Addr} {D : Ends} {Wx Wy : WX} {r : RS} (h : PoS K T B F θ D Wx r.noX) : PoS K T B F θ D Wy r := by
  cases r with
  | ex c fs ρ w => exact h.elim
  | rt v w => cases v <;> exact h
  | bad => exact h.elim
  | _ => exact h
theorem js_try {b : List Stmt} {h₀ : ExceptHandler} {hds : List ExceptHandler} {l : List (Nat × (Env → MS))} {mb : Env → MS} {pos : Pos} (hb : JSs C b mb) (hh : HsOk C (h₀ :: hds) l) :
    JS C (.Try b (h₀ :: hds) [] [] pos) (fun ρ w => match mb ρ w with
      | .ex c fs ρ' w' => hsGo C.G l c fs ρ' w'
      | r => r) := fun X on Wx tk => by
  have hk : ∀ {hds : List ExceptHandler} {l : List (Nat × (Env → MS))}, HsOk C hds l → HdsOk X hds (l.map fun p => (.ref (C.T.cl p.1), fun _ _ _ => tS X.K C.T C.xi p.2 fun _ _ _ _ => False)) := by
    intro hds l h
    induction h with
    | nil => exact .nil
    | cons hxc hg hdb h r ih => exact .cons ⟨Gl_of on.on hg, hdb, .inl (on.ox.xn _ hxc)⟩ (fun a oe cls d pn _ _ => h _ (on.suite a _) _ takes0) ih
  refine imS (ps_try_many on.stk on.fra tk (tb := fun W => tS X.K C.T C.xi mb W) (fun W pn xe t p => hb _ (on.tr pn xe p) W t) (hk hh)) fun D σ H q => ?_
  obtain ⟨B, F, θ, w, ρ, hx, fr, po⟩ := q
  refine ⟨B, F, θ, w, ρ, hx, fr, ?_⟩
  dsimp only at po
  cases e : mb ρ w with
  | nx ρ' w' => rw [e] at po; exact po
  | bk ρ' w' => rw [e] at po; exact po
  | ct ρ' w' => rw [e] at po; exact po
  | rt v w' => rw [e] at po; cases v <;> exact po
  | bad => rw [e] at po; exact po
  | ex c fs ρ' w' =>
    rw [e] at po
    dsimp only at po
    clear e
    intro F1 θ1 H1 σ1 cls od g1 fr1 xr
    have po1 := PoS.later po g1
    clear po
    have go : ∀ {hds : List ExceptHandler} {l : List (Nat × (Env → MS))}, HsOk C hds l → PoS X.K C.T B F1 θ1 D Wx (hsGo C.G l c fs ρ' w') →
        wMany X.K Wx D (l.map fun p => (.ref (C.T.cl p.1), fun _ _ _ => tS X.K C.T C.xi p.2 fun _ _ _ _ => False)) cls od σ1 H1 := by
      intro hds l h
      induction h with
      | nil => exact fun p => p F1 θ1 H1 σ1 cls od Grow.refl fr1 xr
      | @cons c' s ss m np pos hds l hxc hg hdb h r ih =>
        intro p
        unfold hsGo at p
        refine ⟨C.G.sub c c', by rw [xr.2.1]; exact on.ox.sb c c' xr.1 hxc, fun hs a _ => ?_, fun hs => ?_⟩
        · rw [if_pos hs] at p
          exact ⟨B, F1, θ1, w', ρ', hx, fr1, PoS.nox p⟩
        · rw [if_neg (by rw [hs]; decide)] at p
          exact ih p
    exact go hh po1
end
end My

set_option Elab.async false
set_option linter.all false
set_option maxRecDepth 100000
set_option maxHeartbeats 4000000
/-! MiniC: a chained comparison; places that are never reached. -/
namespace My
open PySem L2
section
variable {C : Ctx}
theorem je_bad {x : Expr} (h : ∀ X : Cx, ∃ t, PE X x t) : JE C x (fun ρ => fun _ => .bad) := fun X on Wx tk => by
  obtain ⟨t, ht⟩ := h X
  exact imE ht fun σ H Q q => by
    obtain ⟨B, F, θ, w, ρ, hx, fr, po⟩ := q
    exact po.elim
theorem je_bad0 {x : Expr} : JE C x (fun ρ => fun _ => .bad) := fun X on Wx tk => ⟨fun pins s σ H Q I q => by
    obtain ⟨B, F, θ, w, ρ, hx, fr, po⟩ := q
    exact po.elim⟩
theorem js_bad0 {x : Stmt} : JS C x (fun ρ => fun _ => .bad) := fun X on Wx tk => ⟨fun pins s σ H D I q => by
    obtain ⟨B, F, θ, w, ρ, hx, fr, po⟩ := q
    exact po.elim⟩
theorem je_chn (hcm : C.cm = true) {c c' : Cm} {a b d : Expr} {ma mb md : Env → M D} {pos : Pos} (hm : lastMarks [pyCm c, pyCm c'] [b, d] = false) (hk : ∃ j, C.k = j + 1) (ha : JD C a ma) (hb : JD C b mb) (hd : JD C d md) :
    JE C (.Compare a [pyCm c, pyCm c'] [b, d] pos) (fun ρ => (ma ρ).bd fun x => (mb ρ).bd fun y w => (match dCmp c x y with
      | some true => (md ρ).bd (fun z => bl (dCmp c' y z)) w
      | some false => .ok (.v (.bl false)) w
      | none => .bad)) := fun X on Wx tk => by
  obtain ⟨j, hj⟩ := hk
  have hr := hj ▸ on.hr hcm
  refine imE (pe_chain (opR_cm (T := C.T) (k := j) hr c) (opR_cm (T := C.T) (k := j) hr c') (ha X on Wx tk) (hb X on Wx tk) (hd X on Wx tk) hm) fun σ H Q q => ?_
  obtain ⟨B, F, θ, w, ρ, hx, fr, po⟩ := q
  refine ⟨B, F, θ, w, ρ, hx, fr, (Po.bd (m := ma ρ) po).imp fun d1 F1 θ1 w1 H1 s1 hl1 p1 v1 r1 => ?_⟩
  refine ⟨B, F1, θ1, w1, ρ, hx, fr.step s1 hl1, (Po.bd (m := mb ρ) p1).imp fun d2 F2 θ2 w2 H2 s2 hl2 p2 v2 r2 => ?_⟩
  cases e : dCmp c d1 d2 with
  | none => rw [e] at p2; exact p2.elim
  | some z =>
    rw [e] at p2
    refine ⟨F2, θ2, w2, d1, d2, z, hl2, .inl (r1.mono s2.grow), .inl r2, e, z, rfl, ?_⟩
    cases z with
    | false => exact p2 F2 θ2 H2 Step.refl hl2 _ (.bl false)
    | true =>
      refine ⟨B, F2, θ2, w2, ρ, hx, (fr.step s1 hl1).step s2 hl2, (Po.bd (m := md ρ) p2).imp fun d3 F3 θ3 w3 H3 s3 hl3 p3 v3 r3 => ?_⟩
      unfold bl M.opt at p3
      cases e3 : dCmp c' d2 d3 with
      | none => rw [e3] at p3; exact p3.elim
      | some z =>
        rw [e3] at p3
        exact ⟨F3, θ3, w3, d2, d3, z, hl3, .inl (r2.mono s3.grow), .inl r3, e3, p3 F3 θ3 H3 Step.refl hl3 _ (.bl z)⟩
end
end My

set_option Elab.async false
set_option linter.all false
set_option maxRecDepth 100000
set_option maxHeartbeats 4000000
/-! MiniD: dict.get; a walk over a dict's keys. -/
namespace My
open PySem L2
section
variable {C : Ctx}
theorem je_dget (hcm : C.cm = true) {a b c : Expr} {ma mb mc : Env → M D} {ap cp : Pos} (hab : ∀ env : PySem.Env, attributeBase a "get" env (eval a env) = eval a env)
    (hl : (ap.endLine == cp.line) = true) (nb : NoSt b) (nc : NoSt c) (ha : JB C a ma) (hb : JD C b mb) (hc : JD C c mc) :
    JE C (.Call (.Attribute a "get" ap) [b, c] [] cp) (fun ρ => (ma ρ).bd fun x w => if isDct (deref w x) then ((mb ρ).bd fun y => (mc ρ).bd fun z w => vl (dGetD (deref w x) y z) w) w else .bad) := fun X on Wx tk => by
  have hM : M2 X a "get" ap b c cp := ⟨hab X.env, by rw [nb [c] X.env, nc [] X.env]; rfl, hl, by rw [nb [c] X.env, nc [] X.env]; rfl⟩
  have hu : X.A.units + 1 < cLine := by
    have := (on.hr hcm).units
    omega
  refine imE (pe_dget2 hu (ha X on Wx tk) (hb X on Wx tk) (hc X on Wx tk) hM) fun σ H Q q => ?_
  obtain ⟨B, F, θ, w, ρ, hx, fr, po⟩ := q
  refine ⟨B, F, θ, w, ρ, hx, fr, (Po.bd (m := ma ρ) po).imp fun d1 F1 θ1 w1 H1 s1 hl1 p1 v1 src1 => ?_⟩
  by_cases hd : isDct (deref w1 d1) = true
  case neg => rw [if_neg hd] at p1; exact p1.elim
  rw [if_pos hd] at p1
  have dr := src1.drf hl1
  cases e1 : deref w1 d1 with
  | dct kvs =>
    rw [e1] at dr
    obtain ⟨a1, ks, rfl, h1, rk⟩ := dr.dct hl1
    refine ⟨a1, rfl, .inl ⟨ks, h1⟩, B, F1, θ1, w1, ρ, hx, fr.step s1 hl1, (Po.bd (m := mb ρ) p1).imp fun d2 F2 θ2 w2 H2 s2 hl2 p2 v2 r2 => ?_⟩
    refine ⟨B, F2, θ2, w2, ρ, hx, (fr.step s1 hl1).step s2 hl2, (Po.bd (m := mc ρ) p2).imp fun d3 F3 θ3 w3 H3 s3 hl3 p3 v3 r3 => ?_⟩
    unfold vl M.opt at p3
    have dr3 := (src1.step hl1 (s2.trans s3)).drf hl3
    cases e3 : deref w3 d1 with
    | dct kvs3 =>
      rw [e3] at dr3 p3
      obtain ⟨a3, ks3, ea, h3, rk3⟩ := dr3.dct hl3
      cases ea
      unfold dGetD at p3
      by_cases hk : keyOk d2 = true
      case neg => simp only [hk, if_false] at p3; exact p3.elim
      simp only [hk, if_true] at p3
      obtain ⟨k, rfl, rfl⟩ := key_of (H := H3) (.inl (r2.mono s3.grow)) hk
      rcases rk3.look k with ⟨e4, e5⟩ | ⟨z, d, e4, e5, rz⟩
      · rw [e4] at p3
        refine ⟨none, .inl ⟨ks3, k, h3, rfl, e5.symm⟩, ?_⟩
        exact p3 F3 θ3 H3 Step.refl hl3 _ r3
      · rw [e4] at p3
        refine ⟨some z, .inl ⟨ks3, k, h3, rfl, e5.symm⟩, ?_⟩
        exact p3 F3 θ3 H3 Step.refl hl3 _ rz
    | _ => rw [e3] at p3; exact p3.elim
  | _ => rw [e1] at hd; exact absurd hd (by intro z; cases z)
end
end My
namespace My
open PySem L2
section
variable {K : PySem.W.Frag} {T : Tb} {B : Bs} {F F' H H' : Hp} {θ θ' : List Addr} {w w' : Wd} {σ : St} {ρ : Env}
theorem Hl.lock (hl : Hl K T F θ w H) {a : Addr} {ks : List (Key × V)} {ob : Obj} (hF : F a = some (.dK ks)) (hH : H a = some (.dK ks)) : Hl K T F θ w (upd H a (.frz ob (.dK ks))) where
  fh := fun b o e => by
    by_cases z : b = a
    · subst z
      rw [hF] at e
      cases e
      exact .inr ⟨ks, ob, rfl, upd_same⟩
    · rw [upd_ne z]; exact hl.fh b o e
  dj := hl.dj
  nd := hl.nd
  ln := hl.ln
  ob := fun n o e => by
    obtain ⟨p, hp, q⟩ := hl.ob n o e
    refine ⟨p, hp, q.put (fun b z => by rw [hH] at z; cases z) fun z => ?_⟩
    subst z
    have := hl.dj _ (List.mem_of_getElem? hp)
    rw [hF] at this
    cases this
theorem Hl.unlock (hl : Hl K T F θ w H) {a : Addr} {ks : List (Key × V)} {ob : Obj} (hF : F a = some (.dK ks)) (hH : H a = some (.frz ob (.dK ks))) : Hl K T F θ w (upd H a (.dK ks)) where
  fh := fun b o e => by
    by_cases z : b = a
    · subst z
      rw [hF] at e
      cases e
      exact .inl upd_same
    · rw [upd_ne z]; exact hl.fh b o e
  dj := hl.dj
  nd := hl.nd
  ln := hl.ln
  ob := fun n o e => by
    obtain ⟨p, hp, q⟩ := hl.ob n o e
    refine ⟨p, hp, q.put (fun b z => by rw [hH] at z; cases z) fun z => ?_⟩
    subst z
    have := hl.dj _ (List.mem_of_getElem? hp)
    rw [hF] at this
    cases this
end
end My
namespace My
open PySem L2
section
variable {K : PySem.W.Frag} {T : Tb} {B : Bs} {F F' H H' : Hp} {θ θ' : List Addr} {w w' : Wd} {σ : St} {ρ : Env}
/-- the base with a locked, too -/
def Bs.lock (B : Bs) (a : Addr) (u : HO) : Bs := { B with H := fun x => if x = a ∧ (B.H a).isSome = true then some u else B.H x }
theorem Bs.lock_ne {a x : Addr} {u : HO} (h : x ≠ a) : (B.lock a u).H x = B.H x := if_neg fun z => h z.1
theorem Bs.lock_none {a x : Addr} {u : HO} : (B.lock a u).H x = none ↔ B.H x = none := by
  by_cases z : x = a
  · subst z
    cases e : B.H x with
    | none => simp [Bs.lock, e]
    | some o => simp [Bs.lock, e]
  · rw [Bs.lock_ne z]
theorem Fr.lock (f : Fr K T B F θ w H σ ρ) {a : Addr} {ks : List (Key × V)} {ob : Obj} (hF : F a = some (.dK ks)) (hH : H a = some (.dK ks)) : Fr K T (B.lock a (.frz ob (.dK ks))) F θ w (upd H a (.frz ob (.dK ks))) σ ρ where
  hl := f.hl.lock hF hH
  keep := fun x o e n1 n2 => by
    by_cases z : x = a
    · subst z
      cases q : B.H x with
      | none => rw [Bs.lock_none.mpr q] at e; cases e
      | some o1 =>
        have : (B.lock x (.frz ob (.dK ks))).H x = some (.frz ob (.dK ks)) := if_pos ⟨rfl, by rw [q]; rfl⟩
        rw [this] at e
        cases e
        exact upd_same
    · rw [Bs.lock_ne z] at e
      rw [upd_ne z]
      exact f.keep x o e n1 n2
  ext := f.ext
  pre := by
    obtain ⟨t, h1, h2⟩ := f.pre
    exact ⟨t, h1, fun x m => Bs.lock_none.mpr (h2 x m)⟩
  fre := fun x o e => by
    rcases f.fre x o e with h | h | h
    · exact .inl h
    · exact .inr (.inl (Bs.lock_none.mpr h))
    · exact .inr (.inr h)
  live := fun x o e => by
    by_cases z : x = a
    · subst z; exact ⟨_, upd_same⟩
    · rw [Bs.lock_ne z] at e
      rw [upd_ne z]
      exact f.live x o e
  len := f.len
  sl := fun i s v h1 h2 => by
    have q := f.sl i s v h1 h2
    cases s with
    | u => exact q
    | v d => exact q
    | o o =>
      obtain ⟨p, e1, e2, e3, e4, e5⟩ := q
      have hp : p ≠ a := fun z => by subst z; rw [hF] at e2; cases e2
      refine ⟨p, e1, e2, e3, ?_, e5.put (fun b z => by rw [hH] at z; cases z) hp⟩
      rcases e4 with ⟨z1, z2⟩ | ⟨⟨z1, C, dx, gs, gs0, z2, z3⟩, z4⟩
      · exact .inl ⟨z1, Bs.lock_none.mpr z2⟩
      · exact .inr ⟨⟨z1, C, dx, gs, gs0, by rw [upd_ne hp]; exact z2, by rw [Bs.lock_ne hp]; exact z3⟩, z4⟩
    | x c fs =>
      obtain ⟨y, d, e1, e2, e3⟩ := q
      refine ⟨y, d, e1, e2, ?_⟩
      cases d with
      | none => exact e3
      | some d =>
        obtain ⟨gs, h3, h4, h5⟩ := e3
        exact ⟨gs, by rw [upd_ne (fun z => by subst z; rw [hH] at h3; cases h3)]; exact h3, h4, h5⟩
  di := f.di
end
end My
namespace My
open PySem L2
section
variable {C : Ctx}
theorem keys_get {K : PySem.W.Frag} {T : Tb} {F : Hp} {θ : List Addr} : ∀ {ks : List (Key × V)} {kvs : List (D × D)}, RepK K T F θ ks kvs → ks.length = kvs.length ∧ ∀ (i : Nat) (k : Key) (v : V) (d : D), ks[i]? = some (k, v) → (kvs.map (·.1))[i]? = some d → d = kD k
  | _, _, .nil => ⟨rfl, fun i k v d h => by simp at h⟩
  | _, _, .cons r t => by
    obtain ⟨l, g⟩ := keys_get t
    refine ⟨by simp [l], fun i k v d h1 h2 => ?_⟩
    cases i with
    | zero =>
      simp at h1 h2
      rw [← h2, h1.1]
    | succ i => exact g i k v d (by simpa using h1) (by simpa using h2)
theorem lcd_core {X : Cx} {tg : Tg} {mc : Env → M Bool} {me : Env → M D} {vs : List Nat} (hsl : ∀ i, i ∈ vs ↔ i ∈ tg.slots) {σ : St} {H1 : Hp} {Q : VK} {B : Bs} {F1 : Hp} {θ1 : List Addr} {w1 : Wd} {ρ : Env} (hx : B.xi = C.xi)
    (f1 : Fr X.K C.T B F1 θ1 w1 H1 σ ρ) {a : Addr} {ob : Obj} {ks : List (Key × V)} {kvs : List (D × D)} (hF : F1 a = some (.dK ks)) (hH : H1 a = some (.frz ob (.dK ks))) (rk : RepK X.K C.T F1 θ1 ks kvs) (hz : (kvs.map (·.1)).length ≤ lim)
    (hks : ∀ k ∈ ks, ∀ F θ, Rep X.K C.T F θ (kV k.1) (kD k.1))
    {ys0 : List D} {wE : Wd} (hgo : lcGo (lcF mc me tg ρ) (kvs.map (·.1)) w1 = .ok ys0 wE) (fin : ∀ F' θ' H', Step F1 θ1 H1 F' θ' H' → Hl X.K C.T F' θ' wE H' → KE X.K C.T Q H1 (.o (.lst ys0)) F' θ' wE H') (D : Addr) (hD : H1 D = none) :
    ∃ W : Nat → Nat → Hp → Prop, (∃ m, W 0 m (upd H1 D (.lst []))) ∧ ∀ i m H, W i m H →
  ((Itk a ob ks).stop i H ∧ Q (.ref D) H) ∨ ((Itk a ob ks).go i H ∧ ∃ Nx : Hp → Prop, (∀ H', Nx H' → ∃ m', m' < m ∧ W (i + 1) m' H') ∧ ∀ x H', (Itk a ob ks).yld i H x H' → gTg X.K tg x (wipe σ vs) H' fun σ2 H2 => wipe σ2 vs = wipe σ vs ∧ tT X.K C.T C.xi mc (fun _ _ _ _ => False) σ2 H2 fun b H3 =>
    if b = true then tD X.K C.T C.xi me (fun _ _ _ _ => False) σ2 H3 fun y H4 => ∃ acc, H4 D = some (.lst acc) ∧ acc.length < sizeLine ∧ Nx (upd H4 D (.lst (acc ++ [y]))) else Nx H3) := by
  have hl1 := f1.hl
  have hkl := keys_get rk
  have hat : a ∉ θ1 := fun m => by have := hl1.dj _ m; rw [hF] at this; cases this
  have wk : Walk (Itk a ob ks) (kvs.map (·.1)).length (fun H => H a = some (.frz ob (.dK ks))) (fun i H x H' => H' = H ∧ ∃ k v, ks[i]? = some (k, v) ∧ x = kV k) := by
    have := walk_keys (d := a) (o := ob) (kvs := ks)
    rw [hkl.1] at this
    rw [List.length_map]
    exact this
  generalize hxs : kvs.map (·.1) = xs at hz hgo wk hkl
  have hF1 := hl1.fnone hD
  have ht1 := hl1.tnone hD
  refine lc_it wk (fun i H => ∃ F θ w vs acc ys, Step F1 θ1 H1 F θ H ∧ Hl X.K C.T F θ w H ∧ H D = some (.lst vs) ∧ Reps X.K C.T F θ vs acc ∧ F D = none ∧ D ∉ θ ∧ acc.length ≤ i ∧
    lcGo (lcF mc me tg ρ) (xs.drop i) w = .ok ys wE ∧ acc ++ ys = ys0) ⟨F1, θ1, w1, [], [], ys0, Step.lay hD, hl1.lay hD, upd_same, .nil, hF1, ht1, Nat.le_refl _, hgo, rfl⟩
    (fun i H hi ⟨F, θ, w, vs, acc, ys, st, hl, _⟩ => st.keep _ _ hH hat) ?_ ?_
  · rintro i x H2 H3 hi ⟨F2, θ2, w2, us, acc, ys, st2, hl2, hD2, rs2, hF2, ht2, hle, hg2, hys⟩ hy
    have hd : xs.drop i = xs[i] :: xs.drop (i + 1) := List.drop_eq_getElem_cons hi
    rw [hd] at hg2
    obtain ⟨o, w3, r, e1, e2, e3⟩ := lcGo_ok hg2
    obtain ⟨ρ', b, w4, eb, ec, ht, hf⟩ := lcF_ok e1
    obtain ⟨rfl, k, v, hk, rfl⟩ := hy
    have ed : xs[i] = kD k := hkl.2 i k v _ hk (List.getElem?_eq_getElem hi)
    have rx : Rep X.K C.T F2 θ2 (kV k) xs[i] := by
      rw [ed]
      exact hks _ (List.mem_of_getElem? hk) _ _
    have f3 := f1.step st2 hl2
    have hD3 := hD2
    refine gTg_law (f3.wipe vs tg.slots hsl) rx eb fun σ' f4 hw => ?_
    refine ⟨(hw vs fun j hj => (hsl j).mpr hj).trans wipe_wipe, ?_⟩
    · refine ⟨B, F2, θ2, w2, ρ', hx, f4, ?_⟩
      show Po _ _ _ _ _ _ (mc ρ' w2) _ _
      rw [ec]
      intro F4 θ4 H4 st4 hl4
      have hD4 := st4.keep _ _ hD3 ht2
      have hF4 := st4.fnone hF2 hD3
      have ht4 := st4.tnone ht2 hD3
      cases b with
      | true =>
        obtain ⟨y, ey, eo⟩ := ht rfl
        simp only [KT, ↓reduceIte]
        refine ⟨B, F4, θ4, w4, ρ', hx, f4.step st4 hl4, ?_⟩
        show Po _ _ _ _ _ _ (me ρ' w4) _ _
        rw [ey]
        intro F5 θ5 H5 st5 hl5 v rv
        have hD5 := st5.keep _ _ hD4 ht4
        refine ⟨us, hD5, ?_, F5, θ5, w3, us ++ [v], acc ++ [y], r, ?_, ?_, upd_same, ?_, st5.fnone hF4 hD4, st5.tnone ht4 hD4, ?_, e2, ?_⟩
        · rw [rs2.length]
          have : acc.length < lim := by omega
          rw [← lim_size]; exact this
        · exact (st2.trans (st4.trans st5)).put hD
        · exact hl5.put (st5.fnone hF4 hD4) (st5.tnone ht4 hD4) fun b z => by rw [hD5] at z; cases z
        · exact (rs2.mono ((st4.trans st5).grow)).append (.cons rv .nil)
        · rw [List.length_append]; simp; omega
        · rw [eo] at e3
          dsimp only at e3
          rw [← hys, e3, List.append_assoc]; rfl
      | false =>
        obtain ⟨eo, rfl⟩ := hf rfl
        simp only [KT, Bool.false_eq_true, ↓reduceIte]
        refine ⟨F4, θ4, w4, us, acc, r, st2.trans st4, hl4, hD4, rs2.mono st4.grow, hF4, ht4, by omega, e2, ?_⟩
        rw [eo] at e3
        dsimp only at e3
        rw [← hys, e3]
  · rintro H2 ⟨F2, θ2, w2, us, acc, ys, st2, hl2, hD2, rs2, hF2, ht2, hle, hg2, hys⟩
    rw [List.drop_length] at hg2
    unfold lcGo M.ret at hg2
    cases hg2
    rw [List.append_nil] at hys
    subst hys
    exact fin F2 θ2 H2 st2 hl2 D hF2 ht2 ⟨hD, fun C dx gs e => by rw [hD2] at e; cases e⟩ ⟨us, hD2, rs2⟩
end
end My
namespace My
open PySem L2
section
theorem Step.unlock {F F' H H' : Hp} {θ θ' : List Addr} {a : Addr} {ks : List (Key × V)} {ob : Obj} (hH : H a = some (.dK ks)) (s : Step F θ (upd H a (.frz ob (.dK ks))) F' θ' H') : Step F θ H F' θ' (upd H' a (.dK ks)) where
  keep := fun x o e n => by
    by_cases z : x = a
    · subst z; rw [hH] at e; cases e; exact upd_same
    · rw [upd_ne z]; exact s.keep x o (by rw [upd_ne z]; exact e) n
  ext := s.ext
  pre := by
    obtain ⟨t, h1, h2⟩ := s.pre
    refine ⟨t, h1, fun x m => ?_⟩
    have q := h2 x m
    by_cases z : x = a
    · subst z; rw [upd_same] at q; cases q
    · rw [upd_ne z] at q; exact q
  fre := fun x o e => by
    rcases s.fre x o e with q | q
    · exact .inl q
    · by_cases z : x = a
      · subst z; rw [upd_same] at q; cases q
      · rw [upd_ne z] at q; exact .inr q
  live := fun x o e => by
    by_cases z : x = a
    · subst z; exact ⟨_, upd_same⟩
    · rw [upd_ne z]; exact s.live x o (by rw [upd_ne z]; exact e)
theorem pe_or {X : Cx} {e : Expr} {t1 t2 : TE} (h1 : PE X e t1) (h2 : PE X e t2) : PE X e (fun σ H Q => t1 σ H Q ∨ t2 σ H Q) := ⟨fun pins s σ H Q I h => h.elim (fun q => h1.run pins s σ H Q I q) (fun q => h2.run pins s σ H Q I q)⟩
end
end My
namespace My
open PySem L2
section
variable {C : Ctx}
theorem okK_rep {k : Key} (h : okK (kD k) = true) {K : PySem.W.Frag} {T : Tb} {F : Hp} {θ : List Addr} : Rep K T F θ (kV k) (kD k) := by
  rcases k with i | s
  · exact .int i
  · have e : s = S8 s.cps.toList := rfl
    have q : okS s.cps.toList := by
      unfold okK kD at h
      simp only [Bool.and_eq_true, List.all_eq_true, decide_eq_true_eq] at h
      exact h
    exact .str _ q
/-- a written comprehension over the keys of a dict that nobody changes -/
def lcdM (mc : Env → M Bool) (me : Env → M D) (tg : Tg) (i : Nat) : Env → M Rv := fun ρ w => match ρ[i]? with
  | some (.v (.dct kvs)) => if (kvs.map (·.1)).length ≤ lim ∧ (kvs.all fun p => okK p.1) = true then ((M.noX (lcGo (lcF mc me tg ρ) (kvs.map (·.1)))).bd fun ys => M.ret (.o (.lst ys))) w else .bad
  | _ => .bad
theorem je_lcd (hcm : C.cm = true) {i : Nat} {x : Str} {p : Pos} (hN : C.N[i]? = some x) (hv : Vis C.sc x) (hd : (x == ("__debug__" : Str)) = false) (hcd : (x == ("__classdict__" : Str)) = false)
    {tg : Tg} {tge elt : Expr} {cnds : List Expr} {scope : Scope} {own : List (Str × Nat)} {pos : Pos} {mc : Env → M Bool} {me : Env → M D}
    (ok : blkC C.N C.sc scope own = true) (hsl : ∀ i, i ∈ own.map (·.2) ↔ i ∈ tg.slots) (hg : tgIs C.N (isLoc (relS scope C.sc)) tg tge = true)
    (ht : JC (C.blk scope) cnds mc) (he : JD (C.blk scope) elt me) :
    JE C (.ListComp elt [⟨tge, .Name x p, cnds, 0⟩] scope pos) (lcdM mc me tg i) := fun X on Wx tk => by
  have hb : BlkOk X.N X.env.scope scope own := by rw [on.N, on.sc]; exact blkOk_by ok
  have base : PE X (.ListComp elt [⟨tge, .Name x p, cnds, 0⟩] scope pos) (tLc (iKeys (tVar i)) (gTg X.K tg) (tT X.K C.T C.xi mc fun _ _ _ _ => False) (tD X.K C.T C.xi me fun _ _ _ _ => False) (own.map (·.2))) := by
    refine pe_lc (on.calm hcm) (by rw [on.N]; exact on.nd) (pi_keys (pe_var (i := i) (by rw [on.N]; exact hN) (by rw [on.sc]; exact hv) hd hcd)) hb (g := gTg X.K tg) (fun s H c cl fp => ?_) (fun s H c cl fp => ht _ (on.blk s H scope cl c fp) _ takes0) (fun s H c cl fp => he _ (on.blk s H scope cl c fp) _ takes0) fun x => rfl
    have o2 := on.blk s H scope cl c fp
    refine pg_tgIs (o2.calm hcm) (by rw [o2.N]; exact o2.nd) (g := isLoc (relS scope C.sc)) ?_ ?_
    · have := @stOk_loc (X.blk s H scope (compEnvC scope cl c X.env) fp)
      rw [o2.sc] at this
      exact this
    · rw [o2.N]; exact hg
  refine imE (pe_or base (pe_lock base)) fun σ H Q q => ?_
  obtain ⟨B, F, θ, w, ρ, hx, fr, po⟩ := q
  unfold lcdM at po
  cases e : ρ[i]? with
  | none => rw [e] at po; exact po.elim
  | some sl =>
    rw [e] at po
    cases sl with
    | v d =>
      cases d with
      | dct kvs =>
        dsimp only at po
        by_cases hz : (kvs.map (·.1)).length ≤ lim ∧ (kvs.all fun p => okK p.1) = true
        case neg => rw [if_neg hz] at po; exact po.elim
        rw [if_pos hz] at po
        have hi : i < σ.length := by rw [fr.len]; exact (List.getElem?_eq_some_iff.mp e).1
        obtain ⟨v, hv2, r⟩ := fr.sl i _ _ e (List.getElem?_eq_getElem hi)
        have hσ : σ[i]? = some (some v) := by rw [List.getElem?_eq_getElem hi, hv2]
        cases r with
        | dct hF rk =>
          rename_i a ks
          have hks : ∀ k ∈ ks, ∀ F θ, Rep X.K C.T F θ (kV k.1) (kD k.1) := fun k m F' θ' => by
            obtain ⟨j, hj⟩ := List.getElem?_of_mem m
            have hlt : j < (kvs.map (·.1)).length := by rw [List.length_map, ← (keys_get rk).1]; exact (List.getElem?_eq_some_iff.mp hj).1
            have q := (keys_get rk).2 j k.1 k.2 _ hj (List.getElem?_eq_getElem hlt)
            refine okK_rep ?_
            rw [← q]
            have := List.all_eq_true.mp hz.2 (kvs[j]'(by simpa using hlt)) (List.getElem_mem _)
            simpa using this
          have hfin : ∃ ys0 w', lcGo (lcF mc me tg ρ) (kvs.map (·.1)) w = .ok ys0 w' ∧ ∀ F' θ' H', Step F θ H F' θ' H' → Hl X.K C.T F' θ' w' H' → KE X.K C.T Q H (.o (.lst ys0)) F' θ' w' H' := by
            unfold M.bd M.noX at po
            cases e2 : lcGo (lcF mc me tg ρ) (kvs.map (·.1)) w with
            | ok ys w' => rw [e2] at po; exact ⟨ys, w', rfl, po⟩
            | exc c fs w' => rw [e2] at po; exact po.elim
            | bad => rw [e2] at po; exact po.elim
          obtain ⟨ys0, wE, hgo, fin⟩ := hfin
          rcases fr.hl.fh a _ hF with hH | ⟨ks', ob, e3, hH⟩
          · refine .inr ⟨a, .dK ks, hH, True.intro, fun od => ⟨_, hσ, a, od, rfl, .inl ⟨ks, upd_same, fun D hD => ?_⟩⟩⟩
            refine lcd_core (C := C) (Q := fun v H' => H' a = some (.frz od (.dK ks)) ∧ Q v (upd H' a (.dK ks))) hsl (B := B.lock a (.frz od (.dK ks))) hx (fr.lock hF hH) hF upd_same rk hz.1 hks hgo (fun F' θ' H' st hl => ?_) D hD
            have hat : a ∉ θ := fun m => by have := fr.hl.dj _ m; rw [hF] at this; cases this
            have ha : H' a = some (.frz od (.dK ks)) := st.keep _ _ upd_same hat
            have k := fin F' θ' _ (Step.unlock hH st) (hl.unlock (st.ext _ _ hF) ha)
            intro p pF pt pN po2
            have hp : p ≠ a := fun z => by subst z; rw [st.ext _ _ hF] at pF; cases pF
            refine ⟨ha, k p pF pt ?_ (po2.put (fun b z => by rw [ha] at z; cases z) hp)⟩
            refine ⟨?_, fun C' dx gs e4 => ?_⟩
            · have := pN.1
              rw [upd_ne hp] at this
              exact this
            · rw [upd_ne hp] at e4
              have q := pN.2 C' dx gs e4
              by_cases z : dx = a
              · subst z; rw [upd_same] at q; cases q
              · rw [upd_ne z] at q; exact q
          · cases e3
            refine .inl ⟨_, hσ, a, ob, rfl, .inl ⟨ks, hH, fun D hD => ?_⟩⟩
            exact lcd_core (C := C) hsl hx fr hF hH rk hz.1 hks hgo fin D hD
      | _ => exact po.elim
    | _ => exact po.elim
end
end My

set_option Elab.async false
set_option linter.all false
set_option maxRecDepth 100000
set_option maxHeartbeats 4000000
/-! MiniE: isinstance of an own class; operators by own methods. -/
namespace My
open PySem L2
section
variable {C : Ctx}
/-- isinstance(x, C), x an instance of C -/
theorem je_isc {c : Nat} {e : Expr} {me : Env → M D} {p p2 pos : Pos} (ok : C.okI c = true) (hg : C.sc.names.lookup ("isinstance" : Str) = some .globalImplicit) (hgt : C.sc.names.lookup (C.cnm c) = some .globalImplicit) (hdb : (C.cnm c == ("__debug__" : Str)) = false) (ns : NoSt e) (he : JD C e me) :
    JE C (.Call (.Name "isinstance" p) [e, .Name (C.cnm c) p2] [] pos) (fun ρ => (me ρ).bd fun x w => if isCls w c x then .ok (.v (.bl true)) w else .bad) := fun X on Wx tk => by
  have hG : Gl X ("isinstance" : Str) := Gl_of on hg
  have hm := on.fre ("isinstance" : Str) (by decide +kernel)
  obtain ⟨ic, sf, hmg⟩ := on.isc c ok
  have args : PA X [e, .Name (C.cnm c) p2] (tCons (tD X.K C.T C.xi me Wx) (tCons (tC (.ref (C.T.cl c))) tNil)) :=
    pa_cons (he X on Wx tk) (pa_cons (pe_glob (v := .ref (C.T.cl c)) (Gl_of on hgt) hmg rfl hdb) pa_nil) (ns _ X.env)
  refine imE (pe_callB (C8.call_isC ic) hG hm PyProof.Rows.boot_isinstance args (by decide +kernel) (by decide +kernel) (ns _ X.env) (nostl_cons (fun _ _ => rfl) nostl_nil X.env pos)) fun σ H Q q => ?_
  obtain ⟨B, F, θ, w, ρ, hx, fr, po⟩ := q
  refine ⟨B, F, θ, w, ρ, hx, fr, (Po.bd (m := me ρ) po).imp fun x F1 θ1 w1 H1 s1 hl1 p1 v r => ?_⟩
  by_cases hz : isCls w1 c x = true
  · simp only [if_pos hz] at p1
    obtain ⟨p, dx, gs, fs, rfl, h2, r4⟩ := cls_at hl1 r hz
    exact ⟨p, dx, gs, rfl, h2, p1 F1 θ1 H1 Step.refl hl1 _ (.bl true)⟩
  · simp only [if_neg hz] at p1
    exact p1.elim
end

section
variable {X : Cx} {k : Nat} {Ca f : Addr} {fd : FuncData} {ps : List Str} {sp : Sp} {dvs : List V} {ds : List Value} {Wx : WX} {a b : Expr} {ta tb : TE} {pos : Pos}
/-- a == b by the class's own method -/
theorem pe_oeq (mth : Meth X.K Ca "__eq__" f) (hF : FnOk X.prog X.w X.K X.mg X.base (CX X.prog X.w) k f fd ps sp) (room : Room k X.A) (bnd : Binds X.K fd ps ds) (dv : Vals dvs ds) (takes : Takes X Wx) (ha : PE X a ta) (hb : PE X b tb) (hm : behindInMarks .Eq b = false) :
    PE X (.Compare a [.Eq] [b] pos) (fun σ H Q => ta σ H fun x H1 => tb σ H1 fun y H2 => ∃ p q dx dy fs gs, x = .ref p ∧ y = .ref q ∧ H2 p = some (.ins Ca dx fs) ∧ H2 q = some (.ins Ca dy gs) ∧ sp (x :: y :: dvs) H2 (fun v H' => ∃ b, v = .bl b ∧ Q (.bl b) H') (WE Wx σ)) := by
  constructor
  intro pins s σ H Q I h
  refine wpAny_Compare1 (binT ha hb I h fun v u s2 x y H2 I2 rx ry q => ?_) hm
  obtain ⟨p, q, dx, dy, fs, gs, rfl, rfl, e1, e2, h3⟩ := q
  obtain rfl : v = Value.ref p := rx
  obtain rfl : u = Value.ref q := ry
  obtain ⟨mA, J, _⟩ := ins_get I2.hok e1
  obtain ⟨mB, J', _⟩ := ins_get I2.hok e2
  obtain ⟨od, J, _⟩ := J.look
  obtain ⟨od', J', _⟩ := J'.look
  obtain ⟨m, hf⟩ := I2.fr
  refine PySem.W.cmp_K (op := .Eq) (tb := .ref Ca) room.units0 hf I2.ok.mod.kin J J'.type (by simp [PySem.W.notFirst]) mth.at_ mth.fn ?_
  refine wpAny_mono (run_fnSD (us := [.ref p, .ref q]) (vs := [.ref p, .ref q]) hF room bnd dv (passAt takes σ) I2 (.cons rfl (.cons rfl .nil)) h3) (fun r s' z => ?_) fun _ _ x => x
  obtain ⟨v, H', I', rv, b, rfl, q⟩ := z
  cases rv
  exact ⟨.bl b, H', I', rfl, q⟩
/-- a in b by the class's own method -/
theorem pe_oin (mth : Meth X.K Ca "__contains__" f) (hF : FnOk X.prog X.w X.K X.mg X.base (CX X.prog X.w) k f fd ps sp) (room : Room k X.A) (bnd : Binds X.K fd ps ds) (dv : Vals dvs ds) (takes : Takes X Wx) (ha : PE X a ta) (hb : PE X b tb) (hm : behindInMarks .In b = false) :
    PE X (.Compare a [.In] [b] pos) (fun σ H Q => ta σ H fun x H1 => tb σ H1 fun y H2 => ∃ q dy gs, y = .ref q ∧ H2 q = some (.ins Ca dy gs) ∧ sp (y :: x :: dvs) H2 (fun v H' => ∃ b, v = .bl b ∧ Q (.bl b) H') (WE Wx σ)) := by
  constructor
  intro pins s σ H Q I h
  refine wpAny_Compare1 (binT ha hb I h fun v u s2 x y H2 I2 rx ry q => ?_) hm
  obtain ⟨q, dy, gs, rfl, e2, h3⟩ := q
  obtain rfl : u = Value.ref q := ry
  obtain ⟨mB, J', _⟩ := ins_get I2.hok e2
  obtain ⟨od', J', _⟩ := J'.look
  obtain ⟨m, hf⟩ := I2.fr
  refine PySem.W.in_K hf I2.ok.mod.kin J' mth.at_ mth.fn ?_
  refine wpAny_mono (run_fnSD (us := [.ref q, v]) (vs := [.ref q, x]) hF room bnd dv (passAt takes σ) I2 (.cons rfl (.cons rx .nil)) h3) (fun r s' z => ?_) fun _ _ x => x
  obtain ⟨v, H', I', rv, b, rfl, q⟩ := z
  cases rv
  exact wpAny_truthy_bool ⟨.bl b, H', I', rfl, q⟩
/-- a & b by the class's own method: a new object comes -/
theorem pe_oand (mth : Meth X.K Ca "__and__" f) (sf : PySem.W.selfFirst X.K Ca = true) (hF : FnOk X.prog X.w X.K X.mg X.base (CX X.prog X.w) k f fd ps sp) (room : Room k X.A) (bnd : Binds X.K fd ps ds) (dv : Vals dvs ds) (takes : Takes X Wx) (ha : PE X a ta) (hb : PE X b tb) :
    PE X (.BinOp a .BitAnd b pos) (fun σ H Q => ta σ H fun x H1 => tb σ H1 fun y H2 => ∃ p q dx dy fs gs, x = .ref p ∧ y = .ref q ∧ H2 p = some (.ins Ca dx fs) ∧ H2 q = some (.ins Ca dy gs) ∧ sp (x :: y :: dvs) H2 (fun v H' => ∃ a, v = .ref a ∧ Q (.ref a) H') (WE Wx σ)) := by
  constructor
  intro pins s σ H Q I h
  refine wpAny_BinOp (binT ha hb I h fun v u s2 x y H2 I2 rx ry q => ?_)
  obtain ⟨p, q, dx, dy, fs, gs, rfl, rfl, e1, e2, h3⟩ := q
  obtain rfl : v = Value.ref p := rx
  obtain rfl : u = Value.ref q := ry
  obtain ⟨mA, J, _⟩ := ins_get I2.hok e1
  obtain ⟨mB, J', _⟩ := ins_get I2.hok e2
  obtain ⟨od, J, _⟩ := J.look
  obtain ⟨od', J', _⟩ := J'.look
  obtain ⟨m, hf⟩ := I2.fr
  refine PySem.W.binop_K (op := .BitAnd) hf I2.ok.mod.kin J J'.type sf mth.at_ mth.fn ?_
  refine wpAny_mono (run_fnSD (us := [.ref p, .ref q]) (vs := [.ref p, .ref q]) hF room bnd dv (passAt takes σ) I2 (.cons rfl (.cons rfl .nil)) h3) (fun r s' z => ?_) fun _ _ x => x
  obtain ⟨v, H', I', rv, b, rfl, q⟩ := z
  cases rv
  exact ⟨.ref b, H', I', rfl, q⟩
end

section
variable {C : Ctx}
/-- a Boolean alone -/
theorem po_bool {K : PySem.W.Frag} {T : Tb} {F H H0 : Hp} {θ : List Addr} {σ : St} {w : Wd} {m : M Rv} {Q : VK} {Wx : WX} (h : Po K T F θ H σ ((m.bd onlyB) w) (KE K T Q H0) Wx) :
    Po K T F θ H σ (m w) (KE K T (fun v H' => ∃ b, v = .bl b ∧ Q (.bl b) H') H0) Wx :=
  (Po.bd h).imp fun r F1 θ1 w1 H1 s1 hl1 p1 => by
    cases r with
    | o o => exact p1.elim
    | v d =>
      cases d with
      | bl b =>
        intro v rv
        cases rv
        exact ⟨b, rfl, p1 F1 θ1 H1 Step.refl hl1 _ (.bl b)⟩
      | _ => exact p1.elim
theorem po_new {K : PySem.W.Frag} {T : Tb} {F H H0 : Hp} {θ : List Addr} {σ : St} {w : Wd} {m : M Rv} {Q : VK} {Wx : WX} (h : Po K T F θ H σ ((m.bd onlyO) w) (KE K T Q H0) Wx) :
    Po K T F θ H σ (m w) (KE K T (fun v H' => ∃ a, v = .ref a ∧ Q (.ref a) H') H0) Wx := by
  unfold M.bd at h
  cases e : m w with
  | bad => rw [e] at h; exact h
  | exc c fs w1 => rw [e] at h; exact h
  | ok r w1 =>
    rw [e] at h
    cases r with
    | v d => exact h.elim
    | o o => exact fun F1 θ1 H1 s1 hl1 p z1 z2 z3 z4 => ⟨p, rfl, h F1 θ1 H1 s1 hl1 p z1 z2 z3 z4⟩
theorem je_oeq (hcm : C.cm = true) {f c m : Nat} {a b : Expr} {ma mb : Env → M D} {pos : Pos} (ok : C.okT f c m 1 = true) (hn : C.mnm m = ("__eq__" : Str)) (hmk : behindInMarks .Eq b = false) (ha : JD C a ma) (hb : JD C b mb) :
    JE C (.Compare a [.Eq] [b] pos) (fun ρ => (ma ρ).bd fun x => (mb ρ).bd fun y w => if isCls w c x = true ∧ isCls w c y = true then ((C.G.fn f [x, y]).bd onlyB) w else .bad) := fun X on Wx tk => by
  obtain ⟨g, fd, ps, ds, dvs, hF, hc, hm, hbn, hd⟩ := (on.mt f c m 1 ok).h
  rw [hn] at hm
  refine imE (pe_oeq hm hF (on.hr hcm) hbn hd tk (ha X on Wx tk) (hb X on Wx tk) hmk) fun σ H Q q => ?_
  obtain ⟨B, F, θ, w, ρ, hx, fr, po⟩ := q
  refine ⟨B, F, θ, w, ρ, hx, fr, (Po.bd (m := ma ρ) po).imp fun x F1 θ1 w1 H1 s1 hl1 p1 v r => ?_⟩
  refine ⟨B, F1, θ1, w1, ρ, hx, fr.step s1 hl1, (Po.bd (m := mb ρ) p1).imp fun y F2 θ2 w2 H2 s2 hl2 p2 u r2 => ?_⟩
  by_cases hz : isCls w2 c x = true ∧ isCls w2 c y = true
  · simp only [if_pos hz] at p2
    have r1 := r.mono s2.grow
    obtain ⟨p, dx, gs, fs, rfl, h2, _⟩ := cls_at hl2 r1 hz.1
    obtain ⟨q, dy, gs', fs', rfl, h3, _⟩ := cls_at hl2 r2 hz.2
    exact ⟨p, q, dx, dy, gs, gs', rfl, rfl, h2, h3, [.ref p, .ref q], rfl, rfl, F2, θ2, w2, [x, y], hl2, .cons r1 (.cons r2 .nil), ((po_bool p2).imp fun r F3 θ3 w3 H3 s3 hl3 p3 => p3.back (s1.trans s2)).sig fun c d H' z => z⟩
  · simp only [if_neg hz] at p2
    exact p2.elim
theorem je_oin (hcm : C.cm = true) {f c m : Nat} {a b : Expr} {ma mb : Env → M D} {pos : Pos} (ok : C.okT f c m 1 = true) (hn : C.mnm m = ("__contains__" : Str)) (hmk : behindInMarks .In b = false) (ha : JD C a ma) (hb : JD C b mb) :
    JE C (.Compare a [.In] [b] pos) (fun ρ => (ma ρ).bd fun x => (mb ρ).bd fun y w => if isCls w c y = true then ((C.G.fn f [y, x]).bd onlyB) w else .bad) := fun X on Wx tk => by
  obtain ⟨g, fd, ps, ds, dvs, hF, hc, hm, hbn, hd⟩ := (on.mt f c m 1 ok).h
  rw [hn] at hm
  refine imE (pe_oin hm hF (on.hr hcm) hbn hd tk (ha X on Wx tk) (hb X on Wx tk) hmk) fun σ H Q q => ?_
  obtain ⟨B, F, θ, w, ρ, hx, fr, po⟩ := q
  refine ⟨B, F, θ, w, ρ, hx, fr, (Po.bd (m := ma ρ) po).imp fun x F1 θ1 w1 H1 s1 hl1 p1 v r => ?_⟩
  refine ⟨B, F1, θ1, w1, ρ, hx, fr.step s1 hl1, (Po.bd (m := mb ρ) p1).imp fun y F2 θ2 w2 H2 s2 hl2 p2 u r2 => ?_⟩
  by_cases hz : isCls w2 c y = true
  · simp only [if_pos hz] at p2
    have r1 := r.mono s2.grow
    obtain ⟨q, dy, gs', fs', rfl, h3, _⟩ := cls_at hl2 r2 hz
    exact ⟨q, dy, gs', rfl, h3, [.ref q, v], rfl, rfl, F2, θ2, w2, [y, x], hl2, .cons r2 (.cons r1 .nil), ((po_bool p2).imp fun r F3 θ3 w3 H3 s3 hl3 p3 => p3.back (s1.trans s2)).sig fun c d H' z => z⟩
  · simp only [if_neg hz] at p2
    exact p2.elim
theorem je_oand (hcm : C.cm = true) {f c m : Nat} {a b : Expr} {ma mb : Env → M D} {pos : Pos} (ok : C.okT f c m 1 = true) (hn : C.mnm m = ("__and__" : Str)) (oi : C.okI c = true) (ha : JD C a ma) (hb : JD C b mb) :
    JE C (.BinOp a .BitAnd b pos) (fun ρ => (ma ρ).bd fun x => (mb ρ).bd fun y w => if isCls w c x = true ∧ isCls w c y = true then ((C.G.fn f [x, y]).bd onlyO) w else .bad) := fun X on Wx tk => by
  obtain ⟨g, fd, ps, ds, dvs, hF, hc, hm, hbn, hd⟩ := (on.mt f c m 1 ok).h
  rw [hn] at hm
  refine imE (pe_oand hm (on.isc c oi).2.1 hF (on.hr hcm) hbn hd tk (ha X on Wx tk) (hb X on Wx tk)) fun σ H Q q => ?_
  obtain ⟨B, F, θ, w, ρ, hx, fr, po⟩ := q
  refine ⟨B, F, θ, w, ρ, hx, fr, (Po.bd (m := ma ρ) po).imp fun x F1 θ1 w1 H1 s1 hl1 p1 v r => ?_⟩
  refine ⟨B, F1, θ1, w1, ρ, hx, fr.step s1 hl1, (Po.bd (m := mb ρ) p1).imp fun y F2 θ2 w2 H2 s2 hl2 p2 u r2 => ?_⟩
  by_cases hz : isCls w2 c x = true ∧ isCls w2 c y = true
  · simp only [if_pos hz] at p2
    have r1 := r.mono s2.grow
    obtain ⟨p, dx, gs, fs, rfl, h2, _⟩ := cls_at hl2 r1 hz.1
    obtain ⟨q, dy, gs', fs', rfl, h3, _⟩ := cls_at hl2 r2 hz.2
    exact ⟨p, q, dx, dy, gs, gs', rfl, rfl, h2, h3, [.ref p, .ref q], rfl, rfl, F2, θ2, w2, [x, y], hl2, .cons r1 (.cons r2 .nil), ((po_new p2).imp fun r F3 θ3 w3 H3 s3 hl3 p3 => p3.back (s1.trans s2)).sig fun c d H' z => z⟩
  · simp only [if_neg hz] at p2
    exact p2.elim
end
end My

set_option Elab.async false
set_option linter.all false
set_option maxRecDepth 100000
set_option maxHeartbeats 4000000
/-! MiniF: a text reversed; a list's place set in any context. -/
namespace My
open PySem PySem.Spec PyProof.Rows L2
theorem rev_ix (n : Nat) : Builtin.Str.strSliceIndices none none (-1) n = (List.range n).reverse := by
  show sliceRange ((n : Int) - 1) (-1) (-1) = _
  rw [PySem.W.krv_sliceRange, PySem.W.krv_range]
theorem rev_pick (z : Str) : ((List.range z.length).reverse.filterMap (z.cps[·]?)) = z.cps.toList.reverse := by
  rw [List.filterMap_reverse]
  exact congrArg List.reverse (PySem.W.krv_all z.cps)
section
variable {X : Cx}
theorem pe_revS {e : Expr} {te : TE} {k : Nat} {p1 p2 p3 pos : Pos} (he : PE X e te) : PE X (.Subscript e (.Slice none none (some (.UnaryOp .USub (.Constant (.int 1) k p1) p2)) p3) pos)
    (fun σ H Q => te σ H fun x H1 => ∃ z : List Nat, x = .str (S8 z) ∧ z.length ≤ lim ∧ Q (.str (S8 z.reverse)) H1) := by
  constructor
  intro pins s σ H Q I h
  refine Subscript_ (thn (he.run pins s σ H _ I h) fun v s1 w1 => ?_)
  obtain ⟨x, H1, I1, r1, z, rfl, hz, q⟩ := w1
  obtain ⟨t, rfl⟩ := r1
  have stp : PO X (some (.UnaryOp .USub (.Constant (.int 1) k p1) p2)) (tPart (tUn (rU fun i => .int (-i)) (tC (.int 1)))) := po_some (pe_un un_neg pe_int)
  have no := fun (s' : Shared) (I' : Inv X pins σ H1 s') => (po_none (X := X)).run pins s' σ H1 (fun o H2 => o = none ∧ H2 = H1) I' ⟨rfl, rfl⟩
  refine wpAny_Slice (thn (no s1 I1) fun va s2 w2 => ?_)
  obtain ⟨l, H2, I2, pl, rfl, rfl⟩ := w2
  refine thn (no s2 I2) fun vb s3 w3 => ?_
  obtain ⟨u, H3, I3, pu, rfl, rfl⟩ := w3
  refine thn (stp.run pins s3 σ _ (fun o H4 => o = some (-1) ∧ H4 = H3) I3 ⟨1, rfl, -1, rfl, rfl, rfl⟩) fun vc s4 w4 => ?_
  obtain ⟨o, H4, I4, ps, rfl, rfl⟩ := w4
  obtain ⟨la, rfl, ea⟩ := IsPart.raw pl
  obtain ⟨lb, rfl, eb⟩ := IsPart.raw pu
  obtain ⟨lc, rfl, ec⟩ := IsPart.raw ps
  have sub : subscripted (.Slice none none (some (.UnaryOp .USub (.Constant (.int 1) k p1) p2)) p3) false (.str (S8 z) t) (.ref s4.heap.objs.size) = operate [.ref s4.heap.objs.size, .str (S8 z) t] (getItem (.str (S8 z) t) (.ref s4.heap.objs.size)) := by with_unfolding_all rfl
  refine PyProof.Rows.tail_any (ops := [.ref s4.heap.objs.size, .str (S8 z) t]) (typeIs_str _ _ _) F.slot_str_getitem.lookup ?_ sub
  refine wpAny_getItem_str_slice (l := la) (u := lb) (st := lc) ⟨_, Heap.get?_push_size _ rfl, rfl, rfl⟩ (by rw [ec]; rfl) ?_
  have J : Inv X pins σ _ { s4 with heap := s4.heap.push { cls := .type "slice", data := .fields #[partValue la, partValue lb, partValue lc] } } := I4.kept (t' := s4.toks) fun b ob q => Heap.get?_push_of_some _ q
  unfold sliceMade
  have e1 : slicePicked (S8 z) la lb lc = (List.range (S8 z).length).reverse := by
    unfold slicePicked
    rw [ea, eb, ec]
    exact rev_ix _
  rw [e1, ec]
  rw [if_neg (by rw [show ((some (-1 : Int)).getD 1 == 1) = false from rfl]; simp)]
  rw [rev_pick]
  refine ⟨?_, .str (S8 z.reverse), _, J.tok _, ⟨_, rfl⟩, q⟩
  show (z.reverse).toArray.size ≤ sizeLine
  rw [← lim_size]
  simpa using hz
end
section
variable {C : Ctx}
/-- text[::-1] -/
theorem je_rev {e : Expr} {me : Env → M D} {k : Nat} {p1 p2 p3 pos : Pos} (he : JD C e me) : JE C (.Subscript e (.Slice none none (some (.UnaryOp .USub (.Constant (.int 1) k p1) p2)) p3) pos) (fun ρ => (me ρ).bd fun x => (match x with
    | .str s => M.ret (.v (.str s.reverse))
    | _ => fun _ => .bad)) := fun X on Wx tk =>
  imE (pe_revS (he X on Wx tk)) fun σ H Q q => by
    obtain ⟨B, F, θ, w, ρ, hx, fr, po⟩ := q
    refine ⟨B, F, θ, w, ρ, hx, fr, (Po.bd (m := me ρ) po).imp fun d F1 θ1 w1 H1 s1 hl1 p1 v r => ?_⟩
    cases r with
    | str s o => exact ⟨s, rfl, o.2, p1 F1 θ1 H1 Step.refl hl1 _ (.str _ ⟨fun c m => o.1 c (List.mem_reverse.mp m), by rw [List.length_reverse]; exact o.2⟩)⟩
    | _ => exact p1.elim
/-- xs[i] = v, xs a list alone: in every context -/
theorem stL_ok {K : PySem.W.Frag} {T : Tb} {F H : Hp} {θ : List Addr} {w : Wd} {p : Addr} {ds : List D} {o' : Own} {x y : D} {i v : V} (hl : Hl K T F θ w H) (q : OwnAt K T F θ H p (.lst ds)) (rx : Rep K T F θ i x) (ry : Rep K T F θ v y) (e : stO (.lst ds) x y = some o') :
    o'.isI = false ∧ (∀ C dx gs, H p ≠ some (.ins C dx gs)) ∧ ∃ u, OwnAt K T F θ (upd H p u) p o' ∧ ∀ Q : Hp → Prop, Q (upd H p u) → rSetL (.ref p) i v H Q := by
  obtain ⟨a, b, u, c, d⟩ := stO_ok hl q rx ry e
  refine ⟨a, b, u, c, fun Q h => ?_⟩
  obtain ⟨vs, hv, _⟩ := q
  rcases d Q h with z | z
  · exact z
  · exfalso
    obtain ⟨a', H', ea, hd, _⟩ := z
    cases ea
    rcases hd with ⟨_, _, h1, _⟩ | ⟨_, _, _, h1, _⟩ <;> (rw [hv] at h1; cases h1)
theorem js_setL {i : Nat} {x : Str} {e k : Expr} {me mk : Env → M D} {p ps pos : Pos} (hN : C.N[i]? = some x) (hx : isLC C.sc x = true) (hd : (x == ("__debug__" : Str)) = false) (hcd : (x == ("__classdict__" : Str)) = false)
    (he : JD C e me) (hk : JD C k mk) (hs : ∀ (t : Expr) (env : PySem.Env), swapsWith e (some t) pos.line env = pure false)
    (ha : ∀ (env : PySem.Env) v, assign (.Subscript (.Name x p) k ps) env v = (do
      let ov ← holding [v] (eval (.Name x p) env)
      let iv ← holding [v, ov] (eval k env)
      standAt ps
      holding [v, ov, iv] (setItem ov iv v)
      release [v, ov, iv] [])) (hw : ∀ env : PySem.Env, swappedStores [.Subscript (.Name x p) k ps] e env = pure none) :
    JS C (.Assign [.Subscript (.Name x p) k ps] e pos) (fun ρ => (me ρ).st ρ fun v w => (match ρ[i]? with
    | some (.o (.lst ds)) => (mk ρ).st ρ (fun x w => (match stO (.lst ds) x v with
      | some o' => .nx (ρ.set i (.o o')) w
      | none => .bad)) w
    | _ => .bad)) := fun X on Wx tk =>
  imS (ps_asg (he X on.on Wx tk) (pg_sub (pe_var (i := i) (by rw [on.on.N]; exact hN) (by rw [on.on.sc]; exact vis_of hx) hd hcd) (hk X on.on Wx tk) set_list (ha X.env)) (hs (.Subscript (.Name x p) k ps) X.env) (hw X.env)) fun D σ H q => by
    obtain ⟨B, F, θ, w, ρ, hx, fr, po⟩ := q
    refine ⟨B, F, θ, w, ρ, hx, fr, (PoS.st po fr).imp fun d F1 θ1 w1 H1 s1 hl1 p1 v rv => ?_⟩
    have fr1 := fr.step s1 hl1
    cases e : ρ[i]? with
    | none => rw [e] at p1; exact p1.elim
    | some s =>
      rw [e] at p1
      cases s with
      | o o =>
        cases o with
        | lst ds =>
          dsimp only at p1
          have hi : i < σ.length := by rw [fr.len]; exact (List.getElem?_eq_some_iff.mp e).1
          obtain ⟨a, hv, _⟩ := fr1.sl i _ _ e (List.getElem?_eq_getElem hi)
          have hva : σ[i]? = some (some (.ref a)) := by rw [List.getElem?_eq_getElem hi, hv]
          refine ⟨.ref a, hva, B, F1, θ1, w1, ρ, hx, fr1, (PoS.st p1 fr1).imp fun y F2 θ2 w2 H2 s2 hl2 p2 u ru => ?_⟩
          have fr2 := fr1.step s2 hl2
          cases e2 : stO (.lst ds) y d with
          | none => rw [e2] at p2; exact p2.elim
          | some o' =>
            rw [e2] at p2
            obtain ⟨a2, ha2, _, _, _, q⟩ := fr2.sl i _ _ e hva
            cases ha2
            obtain ⟨hI, nI, z, hz, hq⟩ := stL_ok hl2 q ru (rv.mono s2.grow) e2
            exact hq _ (p2 F2 θ2 _ _ Grow.refl (fr2.setO e hva (fun C dx gs y => absurd y (nI C dx gs)) hI hz))
        | _ => exact p1.elim
      | _ => exact p1.elim
end
end My

set_option Elab.async false
set_option linter.all false
set_option maxRecDepth 100000
set_option maxHeartbeats 4000000
/-! MiniG: except clauses with and without a name, one after the other. -/
namespace My
open PySem PySem.Spec PyProof.Rows L2
/-- a clause: its class, the slot of its name, its suite -/
abbrev Cz := Value × Option Nat × (Addr → Value → Option Addr → TS)
/-- the name's slot is empty behind the suite -/
def shed (D : Ends) (i : Nat) : Ends := { nx := fun q G => D.nx (q.set i none) G, rt := D.rt, bk := fun q G => D.bk (q.set i none) G, ct := fun q G => D.ct (q.set i none) G }
def wCl (K : PySem.W.Frag) (Wo : WX) (D : Ends) : List Cz → WX
  | [] => Wo
  | (c, none, ts) :: r => fun k d q G => ∃ b, PySem.W.exmOne K k c = some b ∧ (b = true → ∀ a, G a = none → ts a k d D q G) ∧ (b = false → wCl K Wo D r k d q G)
  | (c, some i, ts) :: r => fun k d q G => ∃ b, PySem.W.exmOne K k c = some b ∧ (b = true → ∀ a, G a = none → ts a k d (shed D i) (q.set i (some (.ref a))) G) ∧ (b = false → wCl K Wo D r k d q G)
inductive ClOk (X : Cx) : List ExceptHandler → List Cz → Prop
  | nil : ClOk X [] []
  | any {y : Str} {c : Value} {ts : Addr → Value → Option Addr → TS} {b0 : Stmt} {bs : List Stmt} {yp hp : Pos} {r : List ExceptHandler} {l : List Cz} (ny : Names X y c)
      (su : ∀ (a : Addr) (o : Obj) (k : Value) (d : Option Addr) (pn : List (Addr × Obj)), Zc k d o → (∃ vs, o.data = .fields vs) → PSs (X.suite a ((a, o) :: pn)) (b0 :: bs) (ts a k d)) (t : ClOk X r l) :
      ClOk X (.ExceptHandler (some (.Name y yp)) none (b0 :: bs) hp :: r) ((c, none, ts) :: l)
  | nam {i : Nat} {n y : Str} {c : Value} {ts : Addr → Value → Option Addr → TS} {b0 : Stmt} {bs : List Stmt} {yp hp : Pos} {r : List ExceptHandler} {l : List Cz} (ni : X.N[i]? = some n) (nl : X.env.kindOf n = some .local) (ny : Names X y c)
      (su : ∀ (a : Addr) (o : Obj) (k : Value) (d : Option Addr) (pn : List (Addr × Obj)), Zc k d o → (∃ vs, o.data = .fields vs) → PSs (X.suite a ((a, o) :: pn)) (b0 :: bs) (ts a k d)) (t : ClOk X r l) :
      ClOk X (.ExceptHandler (some (.Name y yp)) (some n) (b0 :: bs) hp :: r) ((c, some i, ts) :: l)
section
variable {X : Cx}
/-- an exception that is looked at: what is known of it, the state without it -/
structure Caug (X : Cx) (pins : List (Addr × Obj)) (q : L2.St) (G : Hp) (B : Heap) (z0 z : Shared) (a : Addr) (k : Value) (d : Option Addr) : Prop where
  inv : Inv X pins q G z0
  sky : ∀ (b : Addr) (o : Obj), z0.heap.get? b = some o → b ∉ frs X.stack → B.get? b = some o
  up : z0.heap.UpToSlots z.heap
  fly : HandSPX.FlyingZ B (X.env :: X.outer) a (Zc k d) z.heap
  fresh : G a = none
  os : z.os = z0.os
  bare : AllBare z.gens
theorem Caug.land {pins : List (Addr × Obj)} {q : L2.St} {G : Hp} {B : Heap} {z0 z : Shared} {a : Addr} {k : Value} {d : Option Addr} (c : Caug X pins q G B z0 z a k d) : Inv X pins q G z := c.inv.landed c.sky c.fly.1 c.up c.os c.bare
/-- it is no frame -/
theorem Caug.apart {pins : List (Addr × Obj)} {q : L2.St} {G : Hp} {B : Heap} {z0 z : Shared} {a : Addr} {k : Value} {d : Option Addr} (c : Caug X pins q G B z0 z a k d) (hf : X.env.frame = some X.env.locals) : a ≠ X.env.locals ∧ a ∉ X.fs := by
  obtain ⟨o, vs, e1, e2, e3⟩ := c.fly.there
  have key : a ∉ frs (X.env :: X.outer) := fun m => by
    obtain ⟨_, o2, e4, no⟩ := c.fly.2.2.1.mem m
    rw [e1] at e4
    cases e4
    exact no _ e3
  refine ⟨fun e => key (List.mem_filterMap.mpr ⟨X.env, List.mem_cons_self, by rw [hf, e]⟩), fun m => ?_⟩
  obtain ⟨v, mv, e⟩ := List.mem_filterMap.mp m
  exact key (List.mem_filterMap.mpr ⟨v, List.mem_cons_of_mem _ mv, e⟩)
theorem Caug.suite {pins : List (Addr × Obj)} {q : L2.St} {G : Hp} {B : Heap} {z0 z : Shared} {a : Addr} {k : Value} {d : Option Addr} (c : Caug X pins q G B z0 z a k d) (hf : X.env.frame = some X.env.locals) :
    ∃ o, Zc k d o ∧ (∃ vs, o.data = .fields vs) ∧ z.heap.get? a = some o ∧ Inv (X.suite a ((a, o) :: (X.pn ++ pins))) [] q G z := by
  obtain ⟨o, vs, e1, e2, e3⟩ := c.fly.there
  obtain ⟨n1, n2⟩ := c.apart hf
  exact ⟨o, e2, ⟨vs, e3⟩, e1, c.land.suite e1 e3 c.fresh n1 n2⟩
/-- the clause's class, looked up -/
theorem cl_name {pins : List (Addr × Obj)} {q : L2.St} {G : Hp} {z : Shared} {a : Addr} {o : Obj} {y : Str} {c : Value} {yp : Pos} {P P2 : Value → Shared → Prop} (ny : Names X y c) (S : Inv (X.suite a ((a, o) :: (X.pn ++ pins))) [] q G z) (h : P c z) :
    wpAny (model X.prog X.w) (X.A.mark (some (.ref a))) (eval (.Name y yp) X.env) P P2 z := by
  obtain ⟨g, nd, w | ⟨w1, w2, w3⟩⟩ := ny
  · exact ld_glob (X := X.suite a ((a, o) :: (X.pn ++ pins))) S g w h nd
  · exact ld_blt (X := X.suite a ((a, o) :: (X.pn ++ pins))) S g w1 w2 h w3 nd
theorem cl_none {pins : List (Addr × Obj)} {q : L2.St} {G : Hp} {B : Heap} {z0 z : Shared} {a : Addr} {k : Value} {d : Option Addr} {D : Ends} {Wo : WX} (hst : X.stack = X.env :: X.outer) (hf : X.env.frame = some X.env.locals) (tk : Takes X Wo) (c : Caug X pins q G B z0 z a k d) (w : Wo k d q G) :
    wpAny (model X.prog X.w) X.A (handleBy (.ref a) X.env []) (SP X pins D) X.xe z := by
  refine wpAny_handleBy_nil ?_
  obtain ⟨_, _, _, o, vs, T, _, _, e1, _, e3, e4, _⟩ := id c.fly
  have onw : wpAny (model X.prog X.w) X.A (setFlight (.ref a) X.env.frame) (fun _ z1 => wpAny (model X.prog X.w) X.A (throw (.ref a) : Sem Flow) (SP X pins D) X.xe z1) X.xe z := by
    rw [hf]
    refine HandSPX.setFlight_upZ c.fly fun g held u => wpAny_throw (tk _ _ ⟨a, B, z0, pins, q, G, k, d, rfl, c.inv, c.sky, c.up.trans u, ?_, c.fresh, c.os, c.bare, w⟩)
    exact .inr (.inr (by rw [hst]; exact held))
  unfold PySem.passOn
  refine wpAny_bind (wpAny_field e1 e3 e4 ?_)
  have ne : ¬ ((Value.ref T == Value.none) = true) := by simp
  rw [if_neg ne]
  first
    | exact wpAny_bind (wpAny_pure (wpAny_bind onw))
    | exact wpAny_bind onw
theorem cl_all (hst : X.stack = X.env :: X.outer) (hf : X.env.frame = some X.env.locals) (nd : X.N.Nodup) {Wo : WX} (tk : Takes X Wo) {D : Ends} {pins : List (Addr × Obj)} {q : L2.St} {G : Hp} {B : Heap} {z0 z : Shared} {a : Addr} {k : Value} {d : Option Addr} (c : Caug X pins q G B z0 z a k d) :
    ∀ {hs : List ExceptHandler} {l : List Cz}, ClOk X hs l → wCl X.K Wo D l k d q G → wpAny (model X.prog X.w) X.A (handleBy (.ref a) X.env hs) (SP X pins D) X.xe z := by
  have ok := c.inv.ok
  obtain ⟨o, zc, fo, ea, S⟩ := c.suite hf
  have ty : PySem.W.Looks (model X.prog X.w) z.heap (typeOf (.ref a)) k := fun A Q E s kp q => wpAny_typeOf_ref (kp _ _ ea) (by rw [zc.1]; exact q)
  intro hs l cl
  induction cl with
  | nil => exact fun w => cl_none hst hf tk c w
  | any ny su t ih =>
    intro w
    obtain ⟨b, hb, yes, no⟩ := w
    refine wpAny_handleBy_cons (codeAny_handlers_test ?_) (fun e => by cases e)
    refine cl_name ny S ((PySem.W.exm_one (M := model X.prog X.w) S.kIn ty hb).here ?_)
    cases b with
    | false => exact ih (no rfl)
    | true =>
      refine codeAny_handlers_suite (HandSPX.lands_againZ c.fly fun g fl u => ?_)
      have c2 : Caug X pins q G B z0 { z with heap := g } a k d := ⟨c.inv, c.sky, c.up.trans u, fl, c.fresh, c.os, c.bare⟩
      obtain ⟨o2, zc2, fo2, ea2, S2⟩ := c2.suite hf
      refine wpAny_mono ((su a o2 k d (X.pn ++ pins) zc2 fo2).run [] _ _ _ _ S2 (yes rfl a c.fresh)) (fun fl z6 w6 => ?_) (fun _ _ v => v.elim)
      cases fl with
      | ret u =>
        obtain ⟨v6, q6, G6, I6, r6, w6⟩ := w6
        exact ⟨v6, q6, G6, I6.unsuite ok, r6, w6⟩
      | next =>
        obtain ⟨q6, G6, I6, w6⟩ := w6
        exact ⟨q6, G6, I6.unsuite ok, w6⟩
      | brk =>
        obtain ⟨q6, G6, I6, w6⟩ := w6
        exact ⟨q6, G6, I6.unsuite ok, w6⟩
      | cont =>
        obtain ⟨q6, G6, I6, w6⟩ := w6
        exact ⟨q6, G6, I6.unsuite ok, w6⟩
  | nam ni nl ny su t ih =>
    intro w
    obtain ⟨b, hb, yes, no⟩ := w
    refine wpAny_handleBy_cons (codeAny_handlers_test ?_) (fun e => by cases e)
    refine cl_name ny S ((PySem.W.exm_one (M := model X.prog X.w) S.kIn ty hb).here ?_)
    cases b with
    | false => exact ih (no rfl)
    | true =>
      refine codeAny_handlers_suite_as (HandSPX.lands_againZ c.fly fun g fl u => ?_)
      have c2 : Caug X pins q G B z0 { z with heap := g } a k d := ⟨c.inv, c.sky, c.up.trans u, fl, c.fresh, c.os, c.bare⟩
      obtain ⟨o2, zc2, fo2, ea2, S2⟩ := c2.suite hf
      refine store_ok (X := X.suite a ((a, o2) :: (X.pn ++ pins))) (v := .ref a) S2 nd ni (.inl nl) rfl (fun z5 S5 => ?_) (.inr nl)
      refine wpAny_mono ((su a o2 k d (X.pn ++ pins) zc2 fo2).run [] _ _ _ _ S5 (yes rfl a c.fresh)) (fun fl z6 w6 => ?_) (fun _ _ v => v.elim)
      cases fl with
      | ret u =>
        obtain ⟨v6, q6, G6, I6, r6, w6⟩ := w6
        exact gone_ok (I6.unsuite ok) nd ni nl fun z7 I7 => ⟨v6, _, G6, I7, r6, w6⟩
      | next =>
        obtain ⟨q6, G6, I6, w6⟩ := w6
        exact gone_ok (I6.unsuite ok) nd ni nl fun z7 I7 => ⟨_, G6, I7, w6⟩
      | brk =>
        obtain ⟨q6, G6, I6, w6⟩ := w6
        exact gone_ok (I6.unsuite ok) nd ni nl fun z7 I7 => ⟨_, G6, I7, w6⟩
      | cont =>
        obtain ⟨q6, G6, I6, w6⟩ := w6
        exact gone_ok (I6.unsuite ok) nd ni nl fun z7 I7 => ⟨_, G6, I7, w6⟩
/-- try with clauses of both kinds -/
theorem ps_clauses {body : List Stmt} {h0 : ExceptHandler} {hs : List ExceptHandler} {l : List Cz} {pos : Pos} {tb : WX → TS} {Wo : WX} (hst : X.stack = X.env :: X.outer) (hf : X.env.frame = some X.env.locals) (nd : X.N.Nodup) (tk : Takes X Wo)
    (hb : ∀ (W : WX) (pn : List (Addr × Obj)) (xe : Value → Shared → Prop), Takes (X.tr pn xe) W → PassesOwn (model X.prog X.w) X.A X.env xe → PSs (X.tr pn xe) body (tb W)) (cl : ClOk X (h0 :: hs) l) :
    PS X (.Try body (h0 :: hs) [] [] pos) (fun D q G => tb (wCl X.K Wo D l) D q G) := by
  constructor
  intro pins z q G D I h
  have ok := I.ok
  have frm : X.A.frames = some (X.env :: X.outer) := by rw [ok.frames, hst]
  let cat : Value → Shared → Prop := fun e z1 => wpAny (model X.prog X.w) X.A (noteFrame e X.env) (fun _ z2 => wpAny (model X.prog X.w) X.A (setFlight e none) (fun _ z3 => wpAny (model X.prog X.w) X.A (handleBy e X.env (h0 :: hs)) (SP X pins D) X.xe z3) X.xe z2) X.xe z1
  have tks : Takes (X.tr (X.pn ++ pins) cat) (wCl X.K Wo D l) := fun u z1 x => by
    obtain ⟨a, B, z0, pins2, q2, G2, k, d, rfl, I2, sky, up, air, na, os, ag, w⟩ := x
    have air2 : Sky B (X.env :: X.outer) a (Zc k d) X.env.locals z1.heap := by rw [← hst]; exact air
    show wpAny (model X.prog X.w) X.A (noteFrame (.ref a) X.env) _ _ _
    refine Sky.land Zc.steady frm hf air2 fun g fl up2 => ?_
    exact cl_all (z := { z1 with heap := g }) hst hf nd tk ⟨I2.ofTry ok, sky, up.trans up2, fl, na, os, ag⟩ cl w
  refine wpAny_Try_except (wpAny_mono ((hb (wCl X.K Wo D l) (X.pn ++ pins) cat tks PassesOwn.looking).run [] z q G D (I.toTry cat) h) (fun fl z1 w1 => ?_) fun e z1 w1 => w1)
  cases fl with
  | ret u =>
    obtain ⟨v, q1, G1, I1, r, w1⟩ := w1
    exact ⟨v, q1, G1, I1.ofTry ok, r, w1⟩
  | next =>
    obtain ⟨q1, G1, I1, w1⟩ := w1
    exact wpAny_execs_nil ⟨q1, G1, I1.ofTry ok, w1⟩
  | brk =>
    obtain ⟨q1, G1, I1, w1⟩ := w1
    exact ⟨q1, G1, I1.ofTry ok, w1⟩
  | cont =>
    obtain ⟨q1, G1, I1, w1⟩ := w1
    exact ⟨q1, G1, I1.ofTry ok, w1⟩
end
end My

set_option Elab.async false
set_option linter.all false
set_option maxRecDepth 100000
set_option maxHeartbeats 4000000
/-! MiniH: enumerate of a tuple; zip of a tuple and a list. -/
namespace My
open PySem PySem.Spec PyProof.Rows L2
theorem pi_or {X : Cx} {tg e : Expr} {t1 t2 : TI} (h1 : PI X tg e t1) (h2 : PI X tg e t2) : PI X tg e (fun σ H R => t1 σ H R ∨ t2 σ H R) := ⟨fun pins s σ H R I h => h.elim (fun q => h1.run pins s σ H R I q) (fun q => h2.run pins s σ H R I q)⟩
/-- a tuple's items, numbered -/
def IteT (K : PySem.W.Frag) (a : Addr) : L2.It :=
  ⟨fun n G => ∃ (l : List V) (y : V), SqT K G a l ∧ l[n]? = some y, fun n G v G' => ∃ T y, v = .ref T ∧ G T = none ∧ G' = upd G T (.tup [.int (n : Nat), y]) ∧ ∀ l, SqT K G a l → l[n]? = some y, fun n G => ∃ l : List V, SqT K G a l ∧ l.length ≤ n⟩
theorem tup_ne_iter {h : Heap} {a it t : Addr} {i : Nat} {items : Array Value} (p : h.IsTuple a items) (q : h.IsTupleIter it t i) : a ≠ it := fun e => by
  subst e
  obtain ⟨o, e1, c1, n, d1⟩ := p
  obtain ⟨o2, e2, c2, d2⟩ := q
  rw [e1] at e2
  cases e2
  rw [d1] at d2
  cases d2
theorem enum_ne_iter {h : Heap} {e it t : Addr} {i : Nat} {k : Int} {old : Value} (p : IsEnum h e it k old) (q : h.IsTuple t #[] ∨ ∃ items, h.IsTuple t items) : e ≠ t := fun z => by
  subst z
  have key : ∀ items, h.IsTuple e items → False := fun items q => by
    obtain ⟨o, e1, c1, n, d1⟩ := q
    have p' : h.get? e = _ := p
    rw [e1] at p'
    cases p'
    cases d1
  rcases q with q | ⟨items, q⟩ <;> exact key _ q
theorem turn_enumT {P : Program} {w : World} {K : PySem.W.Frag} {elts : List Expr} {kk : Nat} {tpos : Pos} (a e it : Addr) :
    Turn P w K (.Tuple elts kk tpos) (IteT K a) [e, it] e (fun n h => (∃ old, IsEnum h e it ((n : Nat) : Int) old) ∧ h.IsTupleIter it a n ∧ e ≠ it) where
  mem := List.mem_cons_self
  obj := fun n h st b hb => by
    obtain ⟨⟨old, st1⟩, ⟨o, s1, s2, s3⟩, _⟩ := st
    rcases List.mem_cons.mp hb with z | z
    · subst z; exact ⟨_, st1, fun v q => nomatch q⟩
    · rw [List.mem_singleton.mp z]; exact ⟨o, s1, fun v q => by rw [s3] at q; cases q⟩
  keep := fun n h h' st kp => ⟨st.1.imp fun old q => kp e List.mem_cons_self _ q, st.2.1.at fun o q => kp it (List.mem_cons_of_mem _ List.mem_cons_self) o q, st.2.2⟩
  self := fun _ _ _ _ _ st q => st.1.elim fun old z => wpAny_pyIter_enum z q
  item := by
    intro X e1 e2 e3 calm n pins z q G E I free st go
    subst e1 e2 e3
    obtain ⟨⟨old, st1⟩, st2, ne⟩ := st
    obtain ⟨l, y, sq, hy⟩ := go
    obtain ⟨its, rv, tp, _⟩ := I.tuple sq
    have tp : z.heap.IsTuple a its.toArray := tp
    obtain ⟨u, hu, ru⟩ := rv.get hy
    have nA : a ≠ it := tup_ne_iter tp st2
    have nE : e ≠ a := enum_ne_iter (i := n) st1 (.inr ⟨_, tp⟩)
    have dr := Draws.tuple (prog := X.prog) (w := X.w) (A := X.A.in1) (by show X.A.handled = none; exact I.ok.hd calm) it a nA its.toArray
    have hn : n < its.toArray.size := by simpa using (List.getElem?_eq_some_iff.mp hu).1
    have lte : e < z.heap.objs.size := Heap.lt_size st1
    have lti : it < z.heap.objs.size := by obtain ⟨_, q, _⟩ := st2; exact Heap.lt_size q
    refine wpAny_pyNext_enum_itemD dr st1 ⟨st2, tp⟩ hn ne (by simp [ne, nE]) fun x h1 tk px out st3 tup sz kp => ?_
    have ex : x = u := by
      have hu' : its.toArray[n]? = some u := by simpa using hu
      rw [hu'] at px
      exact (Option.some.inj px).symm
    subst ex
    refine ⟨_, rfl, wpAny_letOwnedTupleGo_enum (s := { z with heap := h1, toks := tk + 1 }) out fun h2 en sb => ?_⟩
    have tup2 := (sb.2 _ (Nat.ne_of_gt lte)).trans tup
    have fr0 : G z.heap.objs.size = none := I.hok.fresh (Nat.le_refl _)
    have new : ObjOk X.prog X.w (upd G z.heap.objs.size (.tup [.int (n : Nat), y])) h2 z.heap.objs.size (.tup [.int (n : Nat), y]) := ⟨(by decide : 2 ≤ sizeLine), [.int n tk, x], .cons ⟨_, rfl⟩ (.cons ru .nil), ⟨_, tup2, rfl, _, rfl⟩⟩
    have I2 : Inv X pins q (upd G z.heap.objs.size (.tup [.int (n : Nat), y])) { z with heap := h2, toks := tk + 1 } :=
      I.turnedNew (ch := [e, it]) (fun b o nb eb => by
        have n1 : b ≠ e := fun z => nb (by simp [z])
        have n2 : b ≠ it := fun z => nb (by simp [z])
        exact (sb.2 b n1).trans (kp b o n1 n2 eb)) free (Nat.le_refl _) new
    refine ⟨.ref z.heap.objs.size, _, I2, rfl, ⟨_, y, rfl, fr0, rfl, fun l' sq' => by rw [I.tuple_inj sq' sq]; exact hy⟩, ⟨⟨x, ?_⟩, st3.1.at fun o q => (sb.2 it (Ne.symm ne)).trans q, ne⟩, fun b hb => ?_⟩
    · rw [show ((n + 1 : Nat) : Int) = (n : Int) + 1 by omega]; exact en
    · have ltb : b < z.heap.objs.size := by
        rcases List.mem_cons.mp hb with z1 | z1
        · subst z1; exact lte
        · rw [List.mem_singleton.mp z1]; exact lti
      rw [upd_ne (Nat.ne_of_lt ltb)]
      exact (free b hb).1
  done := by
    intro X e1 e2 e3 calm n pins z q G E I free st go
    subst e1 e2 e3
    obtain ⟨⟨old, st1⟩, st2, ne⟩ := st
    obtain ⟨l, sq, hl⟩ := go
    obtain ⟨its, rv, tp, _⟩ := I.tuple sq
    have tp : z.heap.IsTuple a its.toArray := tp
    have nA : a ≠ it := tup_ne_iter tp st2
    obtain ⟨f0, f1, f2, f3, f4, f5⟩ := free it (List.mem_cons_of_mem _ List.mem_cons_self)
    have hh : X.A.in1.in1.handled = none := by show X.A.handled = none; exact I.ok.hd calm
    have hT : z.TypeIs (.ref e) "enumerate" := ⟨_, st1, rfl⟩
    unfold pyNext
    refine wpAny_bind (wpAny_attempt (wpAny_callSpecial?_slot (name := Str.ofString "__next__") hT F.slot_enumerate_next (wpAny_call_entry F.slot_enumerate_next hT F.entry_enumerate_next ?_ (F.args_enumerate_next_1 _))))
    show wpAny _ _ (field (.ref e) 2 >>= _) _ _ _
    refine wpAny_bind (wpAny_field st1 rfl (x := .ref it) rfl (wpAny_bind (wpAny_nextOf_tuple_end hh st2 tp (by simp; have := rv.length; omega) fun h' x keep hx => ?_)))
    obtain ⟨o, ho, hc⟩ := hx
    refine wpAny_bind (wpAny_isInstance (T := "StopIteration") (b := true) ⟨o, ho, hc⟩ isSubtype_stop (wpAny_pure ⟨rfl, ?_⟩))
    exact I.turned (t' := z.toks) (fun b o nb eb => keep b o nb eb) f0 f1 f3 f4 f5

/-- enumerate(v) of what begins -/
theorem meets_enum1 {v : Value} {o : Obj} {Hb : Heap → Prop} (B : Begins v o Hb) : Meets (Builtin.«enumerate.__new__» ⟨[.type "enumerate", v], []⟩) (fun _ R s => Hb s.heap ∧
      R (.ok (.ret (.ref (s.heap.push o).objs.size))) { s with heap := (s.heap.push o).push { cls := .type "enumerate", data := .fields #[.none, .bool false, .ref s.heap.objs.size, rawInt 0, .none, .none] } }) :=
  .of_wp fun prog w A R s h => by
    obtain ⟨hp, g, d, tk, os⟩ := s
    obtain ⟨hb, h⟩ := h
    have hsub := sub_enumerate
    have it : ∀ {A' : Around} {E : Value → Shared → Prop} {Q : Value → Shared → Prop}, Q (.ref hp.objs.size) ⟨hp.push o, g, d, tk, os⟩ → wpAny (model prog w) A' (pyIter v) Q E ⟨hp, g, d, tk, os⟩ := fun q => B.iter prog w _ _ ⟨hp, g, d, tk, os⟩ _ hb q
    wp_walk using it
    refine wpAny_stack_any fun st => wpAny_pure ?_
    split
    · rename_i c _ _ _ _ _
      cases (c == Value.type "enumerate") <;> (wp_walk using it; exact ⟨_, rfl, h⟩)
    · wp_walk using it
      exact ⟨_, rfl, h⟩
theorem call_enum1 {prog : Program} {w : World} {A : Around} {E : Value → Shared → Prop} {s : Shared} {v : Value} {o : Obj} {Hb : Heap → Prop} {Q : Value → Shared → Prop} (B : Begins v o Hb) (hb : Hb s.heap)
    (h : ∀ h', IsEnum h' (s.heap.objs.size + 1) s.heap.objs.size 0 .none → h'.get? s.heap.objs.size = some o → (∀ b u, s.heap.get? b = some u → h'.get? b = some u) → Q (.ref (s.heap.objs.size + 1)) { s with heap := h' }) :
    wpAny (model prog w) A (call (.type "enumerate") [v]) Q E s := by
  refine callType_new F.called_enumerate (by decide) (F.typeCall_enumerate_1 _) (F.newCall_enumerate_1 _) (fun ob => F.args_object_init_2 ob _) F.entry_enumerate_new (meets_enum1 B) ⟨hb, ?_⟩
  have sz : (s.heap.push o).objs.size = s.heap.objs.size + 1 := Heap.size_push ..
  have en := Heap.get?_push_size (s.heap.push o) (o := { cls := .type "enumerate", data := .fields #[.none, .bool false, .ref s.heap.objs.size, rawInt 0, .none, .none] }) rfl
  rw [sz] at en
  show _ ∧ _
  rw [sz]
  exact ⟨⟨_, en, rfl⟩, h _ en (Heap.get?_push_of_some _ (Heap.get?_push_size _ B.free)) fun b u q => Heap.get?_push_of_some _ (Heap.get?_push_of_some _ q)⟩
theorem fresh_list {X : Cx} {pins : List (Addr × Obj)} {σ : L2.St} {G : Hp} {z : Shared} {l : List Nat} (I : Inv X pins σ G z) : ∀ b ∈ l.map (z.heap.objs.size + ·), FpOk X pins G b := fun b hb => by
  obtain ⟨n, _, rfl⟩ := List.mem_map.mp hb
  have le : z.heap.objs.size ≤ z.heap.objs.size + n := Nat.le_add_right _ _
  exact I.fpOk le (I.hok.fresh le)
/-- enumerate(a tuple) -/
theorem pi_enumT {X : Cx} {e : Expr} {ta : TA} {p pos tpos : Pos} {elts : List Expr} {kk : Nat} (hg : Gl X "enumerate") (hm : X.mg "enumerate" = none) (ha : PA X [e] ta) (hs : starEach [e] X.env = [(false, eval e X.env)]) :
    PI X (.Tuple elts kk tpos) (.Call (.Name "enumerate" p) [e] [] pos) (fun σ G R => ta σ G fun vs G1 => ∃ a xs, vs = [.ref a] ∧ SqT X.K G1 a xs ∧ R (IteT X.K a) G1) := by
  constructor
  intro pins z σ G R I h
  refine Call_ (ld_blt I hg hm boot_enumerate (PyProof.Rows.callWith_type1 (thn (ha.run pos pins z σ G _ I h) fun us z1 w1 => ?_) hs rfl))
  obtain ⟨vs, G1, I1, r1, a, xs, rfl, sq, q⟩ := w1
  cases r1 with
  | cons r rr =>
    cases rr
    cases r
    obtain ⟨its, rv, tp, _⟩ := I1.tuple sq
    have tp : z1.heap.IsTuple a its.toArray := tp
    refine call_enum1 (begins_tuple a its.toArray) tp fun h' en it kp => wpAny_pyIter_enum en ?_
    have I2 : Inv X pins σ G1 { z1 with heap := h' } := I1.kept (t' := z1.toks) kp
    have fr := fresh_list (l := [1, 0]) I1
    exact ⟨z1.heap.objs.size + 1, [z1.heap.objs.size + 1, z1.heap.objs.size], _, _, G1, rfl, I2, turn_enumT a (z1.heap.objs.size + 1) z1.heap.objs.size, ⟨⟨.none, en⟩, ⟨_, it, rfl, rfl⟩, Nat.succ_ne_self _⟩, fr, q⟩
/-! zip of a tuple and a list -/
def ItzM (K : PySem.W.Frag) (a b : Addr) : L2.It :=
  ⟨fun n G => ∃ (l m : List V) (x y : V), SqT K G a l ∧ SqL K G b m ∧ l[n]? = some x ∧ m[n]? = some y,
    fun n G v G' => ∃ T x y, v = .ref T ∧ G T = none ∧ G' = upd G T (.tup [x, y]) ∧ (∀ l, SqT K G a l → l[n]? = some x) ∧ ∀ m, SqL K G b m → m[n]? = some y,
    fun n G => ∃ l m : List V, SqT K G a l ∧ SqL K G b m ∧ n = min l.length m.length⟩
theorem turn_zipM {P : Program} {w : World} {K : PySem.W.Frag} {elts : List Expr} {kk : Nat} {tpos : Pos} {a b z TI TO i1 i2 : Addr} (nd : [z, TI, TO, i1, i2].Nodup) (na : a ∉ [z, TI, TO, i1, i2]) (nb : b ∉ [z, TI, TO, i1, i2]) :
    Turn P w K (.Tuple elts kk tpos) (ItzM K a b) [z, TI, TO, i1, i2] z (fun n h => IsZip h z TI TO .none ∧ IsTupOf2 h TI (.ref i1) (.ref i2) ∧ (∃ x y, IsTupOf2 h TO x y) ∧ h.IsTupleIter i1 a n ∧ h.IsListIter i2 b n) := by
  simp only [List.nodup_cons, List.mem_cons, List.not_mem_nil, or_false, not_or, List.nodup_nil, and_true, not_false_eq_true] at nd na nb
  obtain ⟨⟨d1, d2, d3, d4⟩, ⟨d5, d6, d7⟩, ⟨d8, d9⟩, d10⟩ := nd
  obtain ⟨a1, a2, a3, a4, a5⟩ := na
  obtain ⟨b1, b2, b3, b4, b5⟩ := nb
  have S : ZipSep2 z TI TO i1 i2 [i1, a] [i2, b] := {
    TIz := Ne.symm d1
    TOz := Ne.symm d2
    TITO := d5
    TIi1 := d6
    mem1 := List.mem_cons_self
    zf1 := by simp [d3, Ne.symm a1]
    Tf1 := by simp [d8, Ne.symm a3]
    TIi2 := d7
    mem2 := List.mem_cons_self
    zf2 := by simp [d4, Ne.symm b1]
    Tf2 := by simp [d9, Ne.symm b3]
    sep1_2 := by simp [d10, Ne.symm b4]
    sep2_1 := by simp [Ne.symm d10, Ne.symm a5] }
  exact {
  mem := List.mem_cons_self
  obj := fun n h st c hc => by
    obtain ⟨st1, st2, ⟨x, y, st3⟩, ⟨o4, e4, _, q4⟩, ⟨o5, e5, _, q5⟩⟩ := st
    simp only [List.mem_cons, List.not_mem_nil, or_false] at hc
    rcases hc with rfl | rfl | rfl | rfl | rfl
    · exact ⟨_, st1, fun v q => nomatch q⟩
    · exact ⟨_, st2, fun v q => nomatch q⟩
    · exact ⟨_, st3, fun v q => nomatch q⟩
    · exact ⟨o4, e4, fun v q => by rw [q4] at q; cases q⟩
    · exact ⟨o5, e5, fun v q => by rw [q5] at q; cases q⟩
  keep := fun n h h' st kp => by
    obtain ⟨st1, st2, ⟨x, y, st3⟩, st4, st5⟩ := st
    exact ⟨kp z (by simp) _ st1, kp TI (by simp) _ st2, ⟨x, y, kp TO (by simp) _ st3⟩, st4.at fun o q => kp i1 (by simp) o q, st5.at fun o q => kp i2 (by simp) o q⟩
  self := fun _ _ _ _ _ st q => wpAny_pyIter_zip st.1 q
  item := by
    intro X e1 e2 e3 calm n pins s q G E I free st go
    subst e1 e2 e3
    obtain ⟨st1, st2, ⟨x0, y0, st3⟩, st4, st5⟩ := st
    obtain ⟨l, m, x, y, sq1, sq2, hx, hy⟩ := go
    obtain ⟨its, rv, tp, _⟩ := I.tuple sq1
    obtain ⟨its2, rv2, tp2, _⟩ := I.list sq2
    have tp : s.heap.IsTuple a its.toArray := tp
    have tp2 : s.heap.IsList b its2.toArray := tp2.isList
    obtain ⟨u, hu, ru⟩ := rv.get hx
    obtain ⟨u2, hu2, ru2⟩ := rv2.get hy
    have hu' : its.toArray[n]? = some u := by simpa using hu
    have hu2' : its2.toArray[n]? = some u2 := by simpa using hu2
    have hh : X.A.in1.handled = none := by show X.A.handled = none; exact I.ok.hd calm
    have D1 := Draws.tuple (prog := X.prog) (w := X.w) (A := X.A.in1) hh i1 a a4 its.toArray
    have D2 := Draws.list (prog := X.prog) (w := X.w) (A := X.A.in1) hh i2 b b5 its2.toArray
    have lz : z < s.heap.objs.size := Heap.lt_size st1
    refine wpAny_pyNext_zipD2_item S D1 D2 st1 st2 st3 ⟨st4, tp⟩ ⟨st5, tp2⟩ (by simpa using (List.getElem?_eq_some_iff.mp hu).1) (by simpa using (List.getElem?_eq_some_iff.mp hu2).1) fun x1 x2 h1 tk px py zo to s4 s5 tup sz kp => ?_
    obtain rfl : x1 = u := by rw [hu'] at px; exact (Option.some.inj px).symm
    obtain rfl : x2 = u2 := by rw [hu2'] at py; exact (Option.some.inj py).symm
    refine ⟨_, rfl, wpAny_letOwnedTupleGo_zip (s := { s with heap := h1, toks := tk }) zo fun h2 zn sb => ?_⟩
    have tup2 := (sb.2 _ (Nat.ne_of_gt lz)).trans tup
    have new : ObjOk X.prog X.w (upd G s.heap.objs.size (.tup [x, y])) h2 s.heap.objs.size (.tup [x, y]) := ⟨(by decide : 2 ≤ sizeLine), [x1, x2], .cons ru (.cons ru2 .nil), ⟨_, tup2, rfl, _, rfl⟩⟩
    have I2 : Inv X pins q (upd G s.heap.objs.size (.tup [x, y])) { s with heap := h2, toks := tk } :=
      I.turnedNew (ch := [z, TI, TO, i1, i2]) (fun c o nc ec => by
        simp only [List.mem_cons, List.not_mem_nil, or_false, not_or] at nc
        exact (sb.2 c nc.1).trans (kp c o nc.1 nc.2.2.1 nc.2.2.2.1 nc.2.2.2.2 ec)) free (Nat.le_refl _) new
    refine ⟨.ref s.heap.objs.size, _, I2, rfl, ⟨_, x, y, rfl, I.hok.fresh (Nat.le_refl _), rfl, fun l' sq' => by rw [I.tuple_inj sq' sq1]; exact hx, fun l' sq' => by rw [I.list_inj sq' sq2]; exact hy⟩, ⟨zn, ?_, ⟨x1, x2, ?_⟩, ?_, ?_⟩, fun c hc => ?_⟩
    · exact (sb.2 _ (Ne.symm d1)).trans (kp _ _ (Ne.symm d1) d5 d6 d7 st2)
    · exact (sb.2 _ (Ne.symm d2)).trans to
    · exact s4.1.at fun o q => (sb.2 _ (Ne.symm d3)).trans q
    · exact s5.1.at fun o q => (sb.2 _ (Ne.symm d4)).trans q
    · have lt : c < s.heap.objs.size := by
        obtain ⟨o4, e4, _⟩ := st4
        obtain ⟨o5, e5, _⟩ := st5
        have hc' := hc
        simp only [List.mem_cons, List.not_mem_nil, or_false] at hc'
        rcases hc' with rfl | rfl | rfl | rfl | rfl
        · exact lz
        · exact Heap.lt_size st2
        · exact Heap.lt_size st3
        · exact Heap.lt_size e4
        · exact Heap.lt_size e5
      rw [upd_ne (Nat.ne_of_lt lt)]
      exact (free c hc).1
  done := by
    intro X e1 e2 e3 calm n pins s q G E I free st go
    subst e1 e2 e3
    obtain ⟨st1, st2, ⟨x0, y0, st3⟩, st4, st5⟩ := st
    obtain ⟨l, m, sq1, sq2, hend⟩ := go
    obtain ⟨its, rv, tp, _⟩ := I.tuple sq1
    obtain ⟨its2, rv2, tp2, _⟩ := I.list sq2
    have tp : s.heap.IsTuple a its.toArray := tp
    have tp2 : s.heap.IsList b its2.toArray := tp2.isList
    have hh : X.A.in1.handled = none := by show X.A.handled = none; exact I.ok.hd calm
    have fin : ∀ h' tk, (∀ c o, c ≠ z → c ≠ TO → c ≠ i1 → c ≠ i2 → s.heap.get? c = some o → h'.get? c = some o) → Inv X pins q G { s with heap := h', toks := tk } := fun h' tk kp =>
      I.turnedL (ch := [z, TI, TO, i1, i2]) (fun c o nc ec => by
        simp only [List.mem_cons, List.not_mem_nil, or_false, not_or] at nc
        exact kp c o nc.1 nc.2.2.1 nc.2.2.2.1 nc.2.2.2.2 ec) free
    have l1 := rv.length
    have l2 := rv2.length
    have D1 := Draws.tuple (prog := X.prog) (w := X.w) (A := X.A.in1) hh i1 a a4 its.toArray
    have D2 := Draws.list (prog := X.prog) (w := X.w) (A := X.A.in1) hh i2 b b5 its2.toArray
    refine wpAny_pyNext_zipD2_end S D1 D2 st1 st2 st3 ⟨st4, tp⟩ ⟨st5, tp2⟩ (by simp; omega) (by simp; omega) (by simp; omega) fun h' tk kp => ⟨rfl, fin h' tk kp⟩ }
theorem nin5 {a s : Nat} (h : a < s) : a ∉ [s + 4, s + 2, s + 3, s, s + 1] := by simp; omega
/-- zip(a tuple, a list) -/
theorem pi_zipM {X : Cx} {e e2 : Expr} {ta : TA} {p pos tpos : Pos} {elts : List Expr} {kk : Nat} (hg : Gl X "zip") (hm : X.mg "zip" = none) (ha : PA X [e, e2] ta) (hs : starEach [e, e2] X.env = (false, eval e X.env) :: starEach [e2] X.env) (hpl : (backTo pos (starEach [e2] X.env)).any (·.1) = false) :
    PI X (.Tuple elts kk tpos) (.Call (.Name "zip" p) [e, e2] [] pos) (fun σ G R => ta σ G fun vs G1 => ∃ a b xs ys, vs = [.ref a, .ref b] ∧ SqT X.K G1 a xs ∧ SqL X.K G1 b ys ∧ R (ItzM X.K a b) G1) := by
  constructor
  intro pins z σ G R I h
  refine Call_ (ld_blt I hg hm PyProof.Rows.boot_zip (PyProof.Rows.callWith_type1 (thn (ha.run pos pins z σ G _ I h) fun us z1 w1 => ?_) hs hpl))
  obtain ⟨vs, G1, I1, r1, a, b, xs, ys, rfl, sq1, sq2, q⟩ := w1
  cases r1 with
  | cons r rr =>
    cases rr with
    | cons r' rr =>
      cases rr
      cases r
      cases r'
      obtain ⟨its, rv, tp, _⟩ := I1.tuple sq1
      obtain ⟨its2, rv2, tp2, _⟩ := I1.list sq2
      have tp : z1.heap.IsTuple a its.toArray := tp
      have tp2 : z1.heap.IsList b its2.toArray := tp2.isList
      have la : a < z1.heap.objs.size := by obtain ⟨_, q, _⟩ := tp; exact Heap.lt_size q
      have lb : b < z1.heap.objs.size := by obtain ⟨_, q, _⟩ := tp2; exact Heap.lt_size q
      refine zip_begins2 (begins_tuple a its.toArray) (begins_list b its2.toArray) tp tp2 fun h' zz t1 t2 g1 g2 sz kp => wpAny_pyIter_zip zz ?_
      have I2 : Inv X pins σ G1 { z1 with heap := h' } := I1.kept (t' := z1.toks) kp
      have fr := fresh_list (l := [4, 2, 3, 0, 1]) I1
      have nd : [z1.heap.objs.size + 4, z1.heap.objs.size + 2, z1.heap.objs.size + 3, z1.heap.objs.size, z1.heap.objs.size + 1].Nodup := by simp
      exact ⟨z1.heap.objs.size + 4, [z1.heap.objs.size + 4, z1.heap.objs.size + 2, z1.heap.objs.size + 3, z1.heap.objs.size, z1.heap.objs.size + 1], _, _, G1, rfl, I2, turn_zipM nd (nin5 la) (nin5 lb), ⟨zz, t1, ⟨_, _, t2⟩, ⟨_, g1, rfl, rfl⟩, ⟨_, g2, rfl, rfl⟩⟩, fr, q⟩
end My

set_option Elab.async false
set_option linter.all false
set_option maxRecDepth 100000
set_option maxHeartbeats 4000000
/-! MiniI: enumerate, zip of lists and of tuples, as the evaluator has them. -/
namespace My
open PySem PySem.Spec PyProof.Rows L2
section
variable {K : PySem.W.Frag} {T : Tb} {B : Bs} {F F' H H' : Hp} {θ θ' : List Addr} {w w' : Wd} {σ σ' : L2.St} {ρ ρ' : Env} {v : V} {d : D} {C : Ctx}
theorem sqt_at {a : Addr} {vs : List V} (h : SqT K F a vs) : ∀ F' θ' w H, Grow F θ F' θ' → Hl K T F' θ' w H → SqT K H a vs := fun F' θ' w H g hl => hl.fh.sqT (sqT_mono g.ext h)
theorem itOk_enumT {a : Addr} {vs : List V} {ds : List D} (h : SqT K F a vs) (r : Reps K T F θ vs ds) : ItOk K T F θ (enmD 0 ds) (IteT K a) := by
  have q := sqt_at (T := T) (θ := θ) h
  have hn : vs.length = (enmD 0 ds).length := by rw [enm_len, r.length]
  refine ⟨fun i F' θ' w H g hl hi => ?_, fun F' θ' w H g hl => ⟨vs, q _ _ _ _ g hl, by rw [hn]; exact Nat.le_refl _⟩, fun i d F' θ' w H x H' g hl hd y => ?_⟩
  · rw [← hn] at hi
    exact ⟨vs, vs[i], q _ _ _ _ g hl, List.getElem?_eq_getElem hi⟩
  · obtain ⟨p, y, rfl, hp, rfl, e2⟩ := y
    obtain ⟨e, h1, rfl⟩ := enm_get hd
    rw [Nat.zero_add]
    exact pair_new hl hp (.int _) ((r.mono g).at_ h1 (e2 vs (q _ _ _ _ g hl)))
theorem itOk_zipT {a b : Addr} {vs us : List V} {ds es : List D} (h : SqT K F a vs) (r : Reps K T F θ vs ds) (h2 : SqT K F b us) (r2 : Reps K T F θ us es) : ItOk K T F θ (zpD ds es) (RZ.ItzT K a b) := by
  have q := sqt_at (T := T) (θ := θ) h
  have q2 := sqt_at (T := T) (θ := θ) h2
  have hn : min vs.length us.length = (zpD ds es).length := by rw [zp_len, r.length, r2.length]
  refine ⟨fun i F' θ' w H g hl hi => ?_, fun F' θ' w H g hl => ⟨vs, us, q _ _ _ _ g hl, q2 _ _ _ _ g hl, by rw [← hn]; omega⟩, fun i d F' θ' w H x H' g hl hd y => ?_⟩
  · rw [← hn] at hi
    exact ⟨vs, us, vs[i]'(by omega), us[i]'(by omega), q _ _ _ _ g hl, q2 _ _ _ _ g hl, List.getElem?_eq_getElem _, List.getElem?_eq_getElem _⟩
  · obtain ⟨p, v1, v2, rfl, hp, rfl, e1, e2⟩ := y
    obtain ⟨c, e, h3, h4, rfl⟩ := zp_get hd
    exact pair_new hl hp ((r.mono g).at_ h3 (e1 vs (q _ _ _ _ g hl))) ((r2.mono g).at_ h4 (e2 us (q2 _ _ _ _ g hl)))
theorem itOk_zipM {a b : Addr} {vs us : List V} {ds es : List D} (h : SqT K F a vs) (r : Reps K T F θ vs ds) (h2 : Rd F b (.lst us)) (r2 : Reps K T F θ us es) : ItOk K T F θ (zpD ds es) (ItzM K a b) := by
  have q := sqt_at (T := T) (θ := θ) h
  have q2 : ∀ F' θ' w H, Grow F θ F' θ' → Hl K T F' θ' w H → SqL K H b us := fun F' θ' w H g hl => .inl (hl.fh.rdl (rd_mono g.ext h2))
  have hn : min vs.length us.length = (zpD ds es).length := by rw [zp_len, r.length, r2.length]
  refine ⟨fun i F' θ' w H g hl hi => ?_, fun F' θ' w H g hl => ⟨vs, us, q _ _ _ _ g hl, q2 _ _ _ _ g hl, hn.symm⟩, fun i d F' θ' w H x H' g hl hd y => ?_⟩
  · rw [← hn] at hi
    exact ⟨vs, us, vs[i]'(by omega), us[i]'(by omega), q _ _ _ _ g hl, q2 _ _ _ _ g hl, List.getElem?_eq_getElem _, List.getElem?_eq_getElem _⟩
  · obtain ⟨p, v1, v2, rfl, hp, rfl, e1, e2⟩ := y
    obtain ⟨c, e, h3, h4, rfl⟩ := zp_get hd
    exact pair_new hl hp ((r.mono g).at_ h3 (e1 vs (q _ _ _ _ g hl))) ((r2.mono g).at_ h4 (e2 us (q2 _ _ _ _ g hl)))
/-- one value, as arguments; which value it was -/
theorem Po.oneE {Wx : WX} {α : Type} {m : M D} {f : D → M α} {k : α → Hp → List Addr → Wd → Hp → Prop} {Q : List V → Hp → Prop}
    (po : Po K T F θ H σ ((m.bd f) w) k Wx)
    (h : ∀ x F' θ' w' H' v, m w = .ok x w' → Step F θ H F' θ' H' → Hl K T F' θ' w' H' → Po K T F' θ' H' σ (f x w') k Wx → Rep K T F' θ' v x → Q [v] H') :
    Po K T F θ H σ ((m.bd fun x => (M.ret []).bd fun xs => M.ret (x :: xs)) w) (KA K T Q H) Wx := by
  unfold M.bd at po ⊢
  cases e : m w with
  | bad => rw [e] at po; exact po
  | exc c fs w' => rw [e] at po; exact po
  | ok d w' =>
    rw [e] at po
    intro F2 θ2 H2 s2 hl2 vs rvs
    cases rvs with
    | cons r rr => cases rr; exact h _ _ _ _ _ _ e s2 hl2 (po.later s2) r
theorem Po.twoE {Wx : WX} {α : Type} {m m2 : M D} {f : D → D → M α} {k : α → Hp → List Addr → Wd → Hp → Prop} {Q : List V → Hp → Prop}
    (po : Po K T F θ H σ ((m.bd fun x => m2.bd fun y => f x y) w) k Wx)
    (h : ∀ x y F' θ' w1 w' H' v u, m w = .ok x w1 → m2 w1 = .ok y w' → Step F θ H F' θ' H' → Hl K T F' θ' w' H' → Po K T F' θ' H' σ (f x y w') k Wx → Rep K T F' θ' v x → Rep K T F' θ' u y → Q [v, u] H') :
    Po K T F θ H σ ((m.bd fun x => (m2.bd fun y => (M.ret []).bd fun xs => M.ret (y :: xs)).bd fun xs => M.ret (x :: xs)) w) (KA K T Q H) Wx := by
  unfold M.bd at po ⊢
  cases e : m w with
  | bad => rw [e] at po; exact po
  | exc c fs w' => rw [e] at po; exact po
  | ok d w' =>
    rw [e] at po
    dsimp only at po ⊢
    cases e2 : m2 w' with
    | bad => rw [e2] at po; exact po
    | exc c fs w' => rw [e2] at po; exact po
    | ok d2 w2 =>
      rw [e2] at po
      intro F2 θ2 H2 s2 hl2 vs rvs
      cases rvs with
      | cons r rr =>
        cases rr with
        | cons r2 rr => cases rr; exact h _ _ _ _ _ _ _ _ _ e e2 s2 hl2 (po.later s2) r r2
theorem ji_enm {e : Expr} {p pos tpos : Pos} {elts : List Expr} {kk : Nat} {m : Env → M D} (hg : C.sc.names.lookup ("enumerate" : Str) = some .globalImplicit) (hs : NoSt e) (h : JD C e m) : JI C (.Tuple elts kk tpos) (.Call (.Name "enumerate" p) [e] [] pos) (fun ρ => (m ρ).bd fun x => M.opt (enmQ x)) := fun X on Wx tk =>
  imI (pi_or (pi_enum (Gl_of on hg) (on.fre _ (by decide)) (ja_cons hs h ja_nil X on Wx tk) (hs [] X.env)) (pi_enumT (Gl_of on hg) (on.fre _ (by decide)) (ja_cons hs h ja_nil X on Wx tk) (hs [] X.env))) fun σ H R q => by
    obtain ⟨B, F, θ, w, ρ, hx, fr, po⟩ := q
    by_cases z : ∃ l w1, m ρ w = .ok (.tup l) w1
    · obtain ⟨l, w1, z⟩ := z
      refine .inr ⟨B, F, θ, w, ρ, hx, fr, po.oneE fun x F1 θ1 w1 H1 v e s1 hl1 p1 r => ?_⟩
      rw [z] at e
      cases e
      cases r with
      | tup h r => exact ⟨_, _, rfl, hl1.fh.sqT h, p1 F1 θ1 H1 Step.refl hl1 _ (itOk_enumT h r)⟩
    · refine .inl ⟨B, F, θ, w, ρ, hx, fr, po.oneE fun x F1 θ1 w1 H1 v e s1 hl1 p1 r => ?_⟩
      cases r with
      | lst h r => exact ⟨_, _, rfl, .inl (hl1.fh.rdl h), p1 F1 θ1 H1 Step.refl hl1 _ (itOk_enum h r)⟩
      | tup h r => exact absurd ⟨_, _, e⟩ z
      | _ => exact p1.elim
theorem ji_zp {e e2 : Expr} {p pos tpos : Pos} {elts : List Expr} {kk : Nat} {m m2 : Env → M D} (hg : C.sc.names.lookup ("zip" : Str) = some .globalImplicit) (hs : NoSt e) (hs2 : NoSt e2) (hpl : ∀ env : PySem.Env, (backTo pos (starEach [e2] env)).any (·.1) = false) (h : JD C e m) (h2 : JD C e2 m2) :
    JI C (.Tuple elts kk tpos) (.Call (.Name "zip" p) [e, e2] [] pos) (fun ρ => (m ρ).bd fun x => (m2 ρ).bd fun y => M.opt (zpQ x y)) := fun X on Wx tk =>
  imI (pi_or (RZ.pi_zipA (Gl_of on hg) (on.fre _ (by decide)) (ja_cons hs h (ja_cons hs2 h2 ja_nil) X on Wx tk) (hs [e2] X.env) (hpl X.env)) (pi_zipM (Gl_of on hg) (on.fre _ (by decide)) (ja_cons hs h (ja_cons hs2 h2 ja_nil) X on Wx tk) (hs [e2] X.env) (hpl X.env))) fun σ H R q => by
    obtain ⟨B, F, θ, w, ρ, hx, fr, po⟩ := q
    by_cases z : ∃ l r w1 w2, m ρ w = .ok (.tup l) w1 ∧ m2 ρ w1 = .ok (.lst r) w2
    · obtain ⟨l, r, w1, w2, z, z2⟩ := z
      refine .inr ⟨B, F, θ, w, ρ, hx, fr, Po.twoE (f := fun x y => M.opt (zpQ x y)) po fun x y F1 θ1 u1 u2 H1 v u e e2 s1 hl1 p1 r r2 => ?_⟩
      rw [z] at e
      cases e
      rw [z2] at e2
      cases e2
      cases r with
      | tup h r =>
        cases r2 with
        | lst h2 r2 => exact ⟨_, _, _, _, rfl, hl1.fh.sqT h, .inl (hl1.fh.rdl h2), p1 F1 θ1 H1 Step.refl hl1 _ (itOk_zipM h r h2 r2)⟩
    · refine .inl ⟨B, F, θ, w, ρ, hx, fr, Po.twoE (f := fun x y => M.opt (zpQ x y)) po fun x y F1 θ1 u1 u2 H1 v u e e2 s1 hl1 p1 r r2 => ?_⟩
      cases r with
      | lst h r =>
        cases r2 with
        | lst h2 r2 => exact ⟨_, _, _, _, rfl, .inl ⟨.inl (hl1.fh.rdl h), .inl (hl1.fh.rdl h2), p1 F1 θ1 H1 Step.refl hl1 _ (itOk_zip h r h2 r2)⟩⟩
        | _ => exact p1.elim
      | tup h r =>
        cases r2 with
        | tup h2 r2 => exact ⟨_, _, _, _, rfl, .inr ⟨hl1.fh.sqT h, hl1.fh.sqT h2, p1 F1 θ1 H1 Step.refl hl1 _ (itOk_zipT h r h2 r2)⟩⟩
        | lst h2 r2 => exact absurd ⟨_, _, _, _, e, e2⟩ z
        | _ => exact p1.elim
      | _ => first | exact p1.elim | (cases r2 <;> exact p1.elim)
end
end My

set_option Elab.async false
set_option linter.all false
set_option maxRecDepth 100000
set_option maxHeartbeats 4000000
/-! Mini18: the check that a text is a small program; what it gives for expressions. -/
namespace My
open PySem L2

/-- field names, told apart for every number -/
def oddN (i : Nat) : Str := ⟨#[2000000 + i]⟩
def flOf (l : List Str) (i : Nat) : Str := l.getD i (oddN i)
def evenN (x : Str) : Bool := x.cps.toList.all (· < 2000000) && x.cps.size != 0
def flOk (l : List Str) : Bool := l.all evenN && decide l.Nodup
theorem even_odd {x : Str} {i : Nat} (h : evenN x = true) : x ≠ oddN i := fun e => by
  subst e
  unfold evenN oddN at h
  simp at h
  omega
theorem flOf_cases (l : List Str) (i : Nat) : (∃ h : i < l.length, flOf l i = l[i]) ∨ (¬ i < l.length ∧ flOf l i = oddN i) := by
  unfold flOf
  by_cases h : i < l.length
  · exact .inl ⟨h, by simp [List.getD_eq_getElem?_getD, h]⟩
  · exact .inr ⟨h, by simp [List.getD_eq_getElem?_getD, h]⟩
theorem flOf_inj {l : List Str} (hl : flOk l = true) : ∀ i j, flOf l i = flOf l j → i = j := fun i j e => by
  unfold flOk at hl
  simp only [Bool.and_eq_true, decide_eq_true_eq, List.all_eq_true] at hl
  rcases flOf_cases l i with ⟨hi, e1⟩ | ⟨hi, e1⟩ <;> rcases flOf_cases l j with ⟨hj, e2⟩ | ⟨hj, e2⟩
  · rw [e1, e2] at e
    exact (List.getElem_inj hl.2).mp e
  · rw [e1, e2] at e
    exact absurd e (even_odd (hl.1 _ (List.getElem_mem hi)))
  · rw [e1, e2] at e
    exact absurd e.symm (even_odd (hl.1 _ (List.getElem_mem hj)))
  · rw [e1, e2] at e
    have : (2000000 + i) = 2000000 + j := by
      have := congrArg Str.cps e
      simpa [oddN] using this
    omega
theorem flOf_no {l : List Str} {x : Str} (h1 : evenN x = true) (h2 : x ∉ l) : ∀ g, flOf l g ≠ x := fun g e => by
  rcases flOf_cases l g with ⟨hi, e1⟩ | ⟨hi, e1⟩
  · exact h2 (by rw [← e, e1]; exact List.getElem_mem hi)
  · exact even_odd h1 (e.symm.trans e1)

/-- what is fixed of a context -/
structure Sta where
  N : List Str
  sc : Scope
  cm : Bool
  fnl : List Str
  cnl : List Str
  mnl : List Str
  gnl : List Str
  gdl : List Str
  fll : List Str
  xcl : List Nat
  zl : List Nat
  okF : List (Nat × Nat)
  okT : List (Nat × Nat × Nat × Nat)
  okM : List (Nat × Nat × Nat)
  okA : List (Nat × Nat)
  okG : List Nat
  okD : List Nat
  okI : List Nat
def nmAt (l : List Str) (i : Nat) : Str := l.getD i ⟨#[]⟩
def Sta.ctx (S : Sta) (hf : flOk S.fll = true) (cl : Nat → Addr) (G : Gx) (k : Nat) : Ctx where
  T := ⟨cl, flOf S.fll, fun c => S.xcl.contains c, flOf_inj hf⟩
  G := G
  N := S.N
  sc := S.sc
  xi := none
  k := k
  cm := S.cm
  fnm := nmAt S.fnl
  cnm := nmAt S.cnl
  mnm := nmAt S.mnl
  gnm := nmAt S.gnl
  gdn := nmAt S.gdl
  okF := fun f n => S.okF.contains (f, n)
  okT := fun f c m n => S.okT.contains (f, c, m, n)
  okM := fun f c n => S.okM.contains (f, c, n)
  okA := fun c f => S.okA.contains (c, f)
  okZ := fun c => S.zl.contains c
  okG := fun x => S.okG.contains x
  okD := fun x => S.okD.contains x
  okI := fun x => S.okI.contains x
def Sta.blk (S : Sta) (scope : Scope) : Sta := { S with sc := relS scope S.sc }
def Sta.low (S : Sta) : Sta := { S with cm := false }
def visB (sc : Scope) (x : Str) : Bool := sc.names.lookup x == some .local || sc.names.lookup x == some .cell || sc.names.lookup x == some .free
def gloB (sc : Scope) (x : Str) : Bool := sc.names.lookup x == some .globalImplicit && !(x == ("__debug__" : Str))
def Sta.nm (S : Sta) (i : Nat) (x : Str) : Bool := S.N[i]? == some x && visB S.sc x && !(x == ("__debug__" : Str)) && !(x == ("__classdict__" : Str))
def cstIs : D → Const → Bool
  | .non, .none => true
  | .bl a, .bool b => a == b
  | .int a, .int b => a == b
  | .str a, .str b => a == b.cps.toList && a.all (· < 0x110000) && decide (a.length ≤ 1000)
  | _, _ => false
/-- an expression that stands ahead of a point -/
def plainO : Expr → Bool
  | .Name _ _ => true
  | .Attribute _ _ _ => true
  | .Subscript _ _ _ => true
  | .Constant _ _ _ => true
  | .Call (.Name _ _) (_ :: _) _ _ => true
  | .Call (.Attribute _ _ _) _ _ _ => true
  | _ => false
theorem plainO_base {o : Expr} (h : plainO o = true) (m : Str) (env : PySem.Env) : attributeBase o m env (eval o env) = eval o env := by
  unfold plainO at h
  split at h <;> first | rfl | cases h
def plainT : Expr → Bool
  | .Name _ _ => true
  | .Call _ _ _ _ => true
  | .Attribute _ _ _ => true
  | .Subscript _ _ _ => true
  | .Constant _ _ _ => true
  | _ => false
theorem plainT_true {e : Expr} (h : plainT e = true) (env : PySem.Env) (whole : Sem Value) : PySem.isTrue e env whole = (do let v ← whole; standAt e.pos; holding [v] (truthy v)) := by
  unfold plainT at h
  split at h <;> first | rfl | cases h
def noStB : Expr → Bool
  | .Starred _ _ => false
  | _ => true
theorem noSt_of {e : Expr} (h : noStB e = true) : NoSt e := fun es env => by
  cases e <;> first | rfl | cases h
def plainIxB : Expr → Bool
  | .Name _ _ => true
  | .Constant _ _ _ => true
  | .UnaryOp _ _ _ => true
  | .BinOp _ _ _ _ => true
  | .Call _ _ _ _ => true
  | .Attribute _ _ _ => true
  | .Subscript _ _ _ => true
  | _ => false
theorem plainIx_of {b : Expr} (h : plainIxB b = true) : PlainIx b := fun o i => by
  unfold plainIxB at h
  split at h <;> first | rfl | cases h
def noSetB : Expr → Bool
  | .Set _ _ _ => false
  | _ => true
theorem noSet_mark {b : Expr} (h : noSetB b = true) (op : CmpOp) : behindInMarks op b = false := by
  cases b <;> first | rfl | cases h
theorem noSet_fold {b : Expr} (h : noSetB b = true) (env : PySem.Env) (x : Value) : foldedSetIterable b env x = pure x := by
  cases b <;> first | rfl | cases h
def Es.len : Es → Nat
  | .nil => 0
  | .cons _ es => es.len + 1
theorem evs_len {G : Gx} : ∀ {es : Es} {ρ : Env} {w w' : Wd} {ds : List D}, evs G es ρ w = .ok ds w' → ds.length = es.len
  | .nil, ρ, w, w', ds, h => by cases h; rfl
  | .cons e es, ρ, w, w', ds, h => by
    have h : ((val (ev G e ρ)).bd fun x => (evs G es ρ).bd fun xs => M.ret (x :: xs)) w = .ok ds w' := h
    unfold M.bd at h
    split at h
    · dsimp only at h
      split at h
      · rename_i h2
        cases h
        rw [List.length_cons, evs_len h2]
        rfl
      · cases h
      · cases h
    · cases h
    · cases h
mutual
def chkE : Nat → Sta → E → Expr → Bool
  | 0, _, _, _ => false
  | n + 1, S, e, x => match e, x with
    | .bad, _ => true
    | .var i, .Name x _ => S.nm i x
    | .cst d, .Constant c _ _ => cstIs d c
    | .glb i, .Name x _ => nmAt S.gnl i == x && (gloB S.sc x && S.okG.contains i)
    | .tup es, .Tuple l _ _ => chkEs n S es l
    | .lst es, .List l _ => chkEs n S es l
    | .dct0, .Dict [] [] _ => true
    | .op o a b, .BinOp x p y _ => decide (p = pyOp o) && chkB n S a x && chkB n S b y
    | .oeq f c m a b, .Compare x [.Eq] [y] _ => S.cm && noSetB y && decide (nmAt S.mnl m = ("__eq__" : Str)) && S.okT.contains (f, c, m, 1) && chkE n S a x && chkE n S b y
    | .oin f c m a b, .Compare x [.In] [y] _ => S.cm && noSetB y && decide (nmAt S.mnl m = ("__contains__" : Str)) && S.okT.contains (f, c, m, 1) && chkE n S a x && chkE n S b y
    | .oand f c m a b, .BinOp x .BitAnd y _ => S.cm && decide (nmAt S.mnl m = ("__and__" : Str)) && S.okI.contains c && S.okT.contains (f, c, m, 1) && chkE n S a x && chkE n S b y
    | .isc c a, .Call (.Name x _) [y, .Name z _] [] _ => decide (x = "isinstance") && nmAt S.cnl c == z && gloB S.sc x && gloB S.sc z && S.okI.contains c && noStB y && chkE n S a y
    | .cmp c a b, .Compare x [p] [y] _ => S.cm && decide (p = pyCm c) && noSetB y && chkB n S a x && chkB n S b y
    | .chn a c b c' d, .Compare x [p, p'] [y, z] _ => S.cm && decide (p = pyCm c) && decide (p' = pyCm c') && !(lastMarks [p, p'] [y, z]) && chkE n S a x && chkE n S b y && chkE n S d z
    | .and a b, .BoolOp .And (x :: y :: r) p => chkE n S a x && chkE n S b (.BoolOp .And (y :: r) p)
    | .or a b, .BoolOp .Or (x :: y :: r) p => chkE n S a x && chkE n S b (.BoolOp .Or (y :: r) p)
    | e, .BoolOp _ [x] _ => chkE n S e x
    | .not a, .UnaryOp .Not x _ => chkE n S a x
    | .neg a, .UnaryOp .USub x _ => chkE n S a x
    | .ite t a b, .IfExp x y z _ => chkT n S t x && chkE n S a y && chkE n S b z
    | .slc a lo hi, .Subscript x (.Slice l h none _) _ => chkB n S a x && chkO n S lo l && chkO n S hi h
    | .rev a, .Subscript x (.Slice none none (some (.UnaryOp .USub (.Constant (.int 1) _ _) _)) _) _ => chkE n S a x
    | .idx a b, .Subscript x y _ => S.cm && plainIxB y && chkB n S a x && chkE n S b y
    | .gix i b, .Subscript (.Name x _) y _ => S.okD.contains i && decide (i < S.gdl.length) && nmAt S.gdl i == x && gloB S.sc x && plainIxB y && chkE n S b y
    | .fld c f a, .Attribute x nm _ => flOf S.fll f == nm && S.okA.contains (c, f) && plainO x && chkB n S a x
    | .lc tg it cnd elt, .ListComp el [⟨t, i, cs, 0⟩] scope _ => S.cm && blkC S.N S.sc scope ((tg.slots.zip (tg.slots.map fun j => (S.N[j]?).getD ⟨#[]⟩)).map fun p => (p.2, p.1)) && tgIs S.N (isLoc (relS scope S.sc)) tg t && noSetB i && chkI n S it t i && chkC n (S.blk scope) cnd cs && chkE n (S.blk scope) elt el
    | .call f es, .Call (.Name x _) (y :: l) [] _ => S.cm && nmAt S.fnl f == x && gloB S.sc x && S.okF.contains (f, l.length + 1) && chkEs n S es (y :: l)
    | .mk f c es, .Call (.Name x _) (y :: l) [] _ => S.cm && nmAt S.cnl c == x && gloB S.sc x && S.okM.contains (f, c, l.length + 1) && chkEs n S es (y :: l)
    | .met f c m a es, .Call (.Attribute o x ap) l [] p => S.cm && nmAt S.mnl m == x && evenN x && !S.fll.contains x && S.okT.contains (f, c, m, l.length) && plainO o && decide (l.length < 29) && (ap.endLine == p.line) && chkE n S a o && chkEs n S es l
    | .bi b es, .Call (.Name x _) (y :: l) [] _ => S.cm && decide (biN b = x) && gloB S.sc x && chkBs n S es (y :: l)
    | .isi t a, .Call (.Name x _) [y, .Name z _] [] _ => decide (x = "isinstance") && decide (z = Str.ofString (tyT t)) && (match t with | .cls _ => false | _ => true) && gloB S.sc x && gloB S.sc z && noStB y && chkB n S a y
    | .sm m a e, .Call (.Attribute o x ap) [y] [] p => decide (smN m = x) && plainO o && noStB y && (ap.endLine == p.line) && chkE n S a o && chkB n S e y
    | .popR0 a e, .Call (.Attribute o x ap) [y] [] p => decide (x = ("pop" : Str)) && plainO o && noStB y && (ap.endLine == p.line) && chkE n S a o && chkE n S e y
    | .dget a b c, .Call (.Attribute o x ap) [y, z] [] p => S.cm && decide (x = ("get" : Str)) && plainO o && noStB y && noStB z && (ap.endLine == p.line) && chkB n S a o && chkE n S b y && chkE n S c z
    | .lcd i tg cnd elt, .ListComp el [⟨t, .Name y _, cs, 0⟩] scope _ => S.cm && S.nm i y && blkC S.N S.sc scope ((tg.slots.zip (tg.slots.map fun j => (S.N[j]?).getD ⟨#[]⟩)).map fun p => (p.2, p.1)) && tgIs S.N (isLoc (relS scope S.sc)) tg t && chkC n (S.blk scope) cnd cs && chkE n (S.blk scope) elt el
    | .al a, x => chkE n S a x
    | _, _ => false
def chkEs : Nat → Sta → Es → List Expr → Bool
  | 0, _, _, _ => false
  | n + 1, S, es, xs => match es, xs with
    | .nil, [] => true
    | .cons e es, x :: xs => noStB x && chkE n S e x && chkEs n S es xs
    | _, _ => false
def chkB : Nat → Sta → E → Expr → Bool
  | 0, _, _, _ => false
  | n + 1, S, e, x => match e with
    | .var i => (match x with
      | .Name x _ => S.nm i x
      | _ => false)
    | e => chkE n S e x
def chkBs : Nat → Sta → Es → List Expr → Bool
  | 0, _, _, _ => false
  | n + 1, S, es, xs => match es, xs with
    | .nil, [] => true
    | .cons e es, x :: xs => noStB x && chkB n S e x && chkBs n S es xs
    | _, _ => false
def chkO : Nat → Sta → Oe → Option Expr → Bool
  | 0, _, _, _ => false
  | n + 1, S, e, x => match e, x with
    | .no, none => true
    | .so e, some x => chkE n S e x
    | _, _ => false
def chkT : Nat → Sta → T → Expr → Bool
  | 0, _, _, _ => false
  | n + 1, S, t, x => match t, x with
    | .and a b, .BoolOp .And (x :: y :: r) p => chkT n S a x && chkT n S b (.BoolOp .And (y :: r) p)
    | .or a b, .BoolOp .Or (x :: y :: r) p => chkT n S a x && chkT n S b (.BoolOp .Or (y :: r) p)
    | t, .BoolOp _ [x] _ => chkT n S t x
    | .not a, .UnaryOp .Not x _ => chkT n S a x
    | .e (.cmp c a b), .Compare x [p] [y] _ => S.cm && decide (p = pyCm c) && noSetB y && chkB n S a x && chkB n S b y
    | .e e, x => plainT x && chkB n S e x
    | _, _ => false
def chkC : Nat → Sta → Ot → List Expr → Bool
  | 0, _, _, _ => false
  | n + 1, S, t, xs => match t, xs with
    | .no, [] => true
    | .so t, [x] => chkT n S t x
    | _, _ => false
def chkI : Nat → Sta → It → Expr → Expr → Bool
  | 0, _, _, _, _ => false
  | n + 1, S, i, tg, x => match i, x with
    | .rng1 a, .Call (.Name f _) [y] [] _ => decide (f = "range") && gloB S.sc f && noStB y && chkE n S a y
    | .rng2 a b, .Call (.Name f _) [y, z] [] _ => decide (f = "range") && gloB S.sc f && noStB y && noStB z && chkE n S a y && chkE n S b z
    | .enm a, .Call (.Name f _) [y] [] _ => decide (f = "enumerate") && gloB S.sc f && noStB y && (match tg with | .Tuple _ _ _ => true | _ => false) && chkE n S a y
    | .zp a b, .Call (.Name f _) [y, z] [] _ => decide (f = "zip") && gloB S.sc f && noStB y && noStB z && (match tg with | .Tuple _ _ _ => true | _ => false) && chkE n S a y && chkE n S b z
    | .on e, x => chkE n S e x
    | _, _ => false
end
end My

set_option Elab.async false
set_option linter.all false
set_option maxRecDepth 100000
set_option maxHeartbeats 4000000
/-! Mini19: the check is enough, for expressions. -/
namespace My
open PySem L2

theorem S8_list (z : Str) : S8 z.cps.toList = z := by cases z; rfl
theorem cst_ok {C : Ctx} {d : D} {c : Const} {j : Nat} {pos : Pos} (h : cstIs d c = true) : JE C (.Constant c j pos) (ev C.G (.cst d)) := by
  unfold cstIs at h
  split at h
  · exact je_c (v := .non) (fun X => pe_non) fun K T F θ => .non
  · rw [beq_iff_eq] at h; subst h
    exact je_c (v := .bl _) (fun X => pe_bl) fun K T F θ => .bl _
  · rw [beq_iff_eq] at h; subst h
    exact je_c (v := .int _) (fun X => pe_int) fun K T F θ => .int _
  · rename_i a b
    simp only [Bool.and_eq_true, beq_iff_eq, List.all_eq_true, decide_eq_true_eq] at h
    obtain ⟨⟨rfl, h2⟩, h3⟩ := h
    refine je_c (v := .str b) (fun X => pe_str) fun K T F θ => ?_
    have := Rep.str (K := K) (T := T) (F := F) (θ := θ) b.cps.toList ⟨h2, Nat.le_trans h3 (by decide)⟩
    rw [S8_list] at this
    exact this
  · cases h
theorem glo_of {sc : Scope} {x : Str} (h : gloB sc x = true) : sc.names.lookup x = some .globalImplicit ∧ (x == ("__debug__" : Str)) = false := by
  unfold gloB at h
  simp only [Bool.and_eq_true, beq_iff_eq, Bool.not_eq_true'] at h
  exact h
theorem nm_of {S : Sta} {i : Nat} {x : Str} (h : S.nm i x = true) : S.N[i]? = some x ∧ Vis S.sc x ∧ (x == ("__debug__" : Str)) = false ∧ (x == ("__classdict__" : Str)) = false := by
  unfold Sta.nm visB at h
  simp only [Bool.and_eq_true, Bool.or_eq_true, beq_iff_eq, Bool.not_eq_true'] at h
  obtain ⟨⟨⟨a, b⟩, c⟩, d⟩ := h
  refine ⟨a, ?_, c, d⟩
  rcases b with (b | b) | b
  · exact .inl b
  · exact .inr (.inl b)
  · exact .inr (.inr b)
theorem starEach_any {es : List Expr} : es.all noStB = true → NoStL es := fun h => by
  induction es with
  | nil => exact nostl_nil
  | cons e es ih =>
    rw [List.all_cons, Bool.and_eq_true] at h
    exact nostl_cons (noSt_of h.1) (ih h.2)

section
variable {cl : Nat → Addr} {G : Gx} {k : Nat}
abbrev Sta.c (cl : Nat → Addr) (G : Gx) (k : Nat) (S : Sta) (hf : flOk S.fll = true) : Ctx := S.ctx hf cl G k
structure Dis (cl : Nat → Addr) (G : Gx) (k : Nat) (n : Nat) : Prop where
  e : ∀ (S : Sta) (hf : flOk S.fll = true), (∀ i, i < S.gdl.length → ∃ k d, lookD (G.gd i) k = some d) → ∀ (e : E) (x : Expr), chkE n S e x = true → JE (S.ctx hf cl G k) x (ev G e)
  b : ∀ (S : Sta) (hf : flOk S.fll = true), (∀ i, i < S.gdl.length → ∃ k d, lookD (G.gd i) k = some d) → ∀ (e : E) (x : Expr), chkB n S e x = true → JB (S.ctx hf cl G k) x (fun ρ => bas e ρ (ev G e ρ))
  es : ∀ (S : Sta) (hf : flOk S.fll = true), (∀ i, i < S.gdl.length → ∃ k d, lookD (G.gd i) k = some d) → ∀ (e : Es) (x : List Expr), chkEs n S e x = true → JA (S.ctx hf cl G k) x (evs G e) ∧ x.all noStB = true ∧ e.len = x.length
  bs : ∀ (S : Sta) (hf : flOk S.fll = true), (∀ i, i < S.gdl.length → ∃ k d, lookD (G.gd i) k = some d) → ∀ (e : Es) (x : List Expr), chkBs n S e x = true → JAb (S.ctx hf cl G k) x (evb G e) ∧ x.all noStB = true
  o : ∀ (S : Sta) (hf : flOk S.fll = true), (∀ i, i < S.gdl.length → ∃ k d, lookD (G.gd i) k = some d) → ∀ (e : Oe) (x : Option Expr), chkO n S e x = true → JO (S.ctx hf cl G k) x (evo G e)
  t : ∀ (S : Sta) (hf : flOk S.fll = true), (∀ i, i < S.gdl.length → ∃ k d, lookD (G.gd i) k = some d) → ∀ (e : T) (x : Expr), chkT n S e x = true → JT (S.ctx hf cl G k) x (evT G e) ∧
    ∀ op l p, x = .BoolOp op l p → ∀ X, On (S.ctx hf cl G k) X → ∀ Wx, Takes X Wx → PW X x (tT X.K (S.ctx hf cl G k).T (S.ctx hf cl G k).xi (evT G e) Wx)
  c : ∀ (S : Sta) (hf : flOk S.fll = true), (∀ i, i < S.gdl.length → ∃ k d, lookD (G.gd i) k = some d) → ∀ (e : Ot) (x : List Expr), chkC n S e x = true → JC (S.ctx hf cl G k) x (evc G e)
  i : ∀ (S : Sta) (hf : flOk S.fll = true), (∀ i, i < S.gdl.length → ∃ k d, lookD (G.gd i) k = some d) → ∀ (e : It) (tg x : Expr), chkI n S e tg x = true → JI (S.ctx hf cl G k) tg x (evi G e)
theorem dis_e {n : Nat} (hk : ∃ j, k = j + 1) (ih : Dis cl G k n) (S : Sta) (hf : flOk S.fll = true) (hg : ∀ i, i < S.gdl.length → ∃ k d, lookD (G.gd i) k = some d) (e : E) (x : Expr) (h : chkE (n + 1) S e x = true) : JE (S.ctx hf cl G k) x (ev G e) := by
  have E1 := ih.e S hf hg
  have B1 := ih.b S hf hg
  have A1 := ih.es S hf hg
  unfold chkE at h
  split at h
  · exact je_bad0 (C := S.ctx hf cl G k)
  · obtain ⟨a, b, c, d⟩ := nm_of h
    exact je_var (C := S.ctx hf cl G k) a b c d
  · exact cst_ok (C := S.ctx hf cl G k) h
  · simp only [Bool.and_eq_true, beq_iff_eq] at h
    obtain ⟨rfl, h, ho⟩ := h
    exact je_glb (C := S.ctx hf cl G k) ho (glo_of h).1 (glo_of h).2
  · exact je_tup (C := S.ctx hf cl G k) (A1 _ _ h).1
  · exact je_lst (C := S.ctx hf cl G k) (A1 _ _ h).1
  · exact je_dct0 (C := S.ctx hf cl G k)
  · simp only [Bool.and_eq_true, decide_eq_true_eq] at h
    obtain ⟨⟨rfl, h1⟩, h2⟩ := h
    exact je_op (C := S.ctx hf cl G k) (B1 _ _ h1) (B1 _ _ h2)
  · simp only [Bool.and_eq_true, decide_eq_true_eq] at h
    obtain ⟨⟨⟨⟨⟨h0, hm⟩, hn⟩, ho⟩, h1⟩, h2⟩ := h
    exact je_oeq (C := S.ctx hf cl G k) h0 ho hn (noSet_mark hm _) (E1 _ _ h1).d (E1 _ _ h2).d
  · simp only [Bool.and_eq_true, decide_eq_true_eq] at h
    obtain ⟨⟨⟨⟨⟨h0, hm⟩, hn⟩, ho⟩, h1⟩, h2⟩ := h
    exact je_oin (C := S.ctx hf cl G k) h0 ho hn (noSet_mark hm _) (E1 _ _ h1).d (E1 _ _ h2).d
  · simp only [Bool.and_eq_true, decide_eq_true_eq] at h
    obtain ⟨⟨⟨⟨⟨h0, hn⟩, hi⟩, ho⟩, h1⟩, h2⟩ := h
    exact je_oand (C := S.ctx hf cl G k) h0 ho hn hi (E1 _ _ h1).d (E1 _ _ h2).d
  · simp only [Bool.and_eq_true, decide_eq_true_eq, beq_iff_eq] at h
    obtain ⟨⟨⟨⟨⟨⟨rfl, rfl⟩, hg⟩, hg2⟩, hi⟩, hs⟩, h1⟩ := h
    exact je_isc (C := S.ctx hf cl G k) hi (glo_of hg).1 (glo_of hg2).1 (glo_of hg2).2 (noSt_of hs) (E1 _ _ h1).d
  · simp only [Bool.and_eq_true, decide_eq_true_eq] at h
    obtain ⟨⟨⟨⟨h0, rfl⟩, hm⟩, h1⟩, h2⟩ := h
    exact je_cmp (C := S.ctx hf cl G k) h0 (noSet_mark hm _) hk (B1 _ _ h1) (B1 _ _ h2)
  · simp only [Bool.and_eq_true, decide_eq_true_eq, Bool.not_eq_true'] at h
    obtain ⟨⟨⟨⟨⟨⟨h0, rfl⟩, rfl⟩, hm⟩, h1⟩, h2⟩, h3⟩ := h
    exact je_chn (C := S.ctx hf cl G k) h0 hm hk (E1 _ _ h1).d (E1 _ _ h2).d (E1 _ _ h3).d
  · simp only [Bool.and_eq_true] at h
    exact je_and (C := S.ctx hf cl G k) (E1 _ _ h.1) (E1 _ _ h.2)
  · simp only [Bool.and_eq_true] at h
    exact je_or (C := S.ctx hf cl G k) (E1 _ _ h.1) (E1 _ _ h.2)
  · exact je_one (C := S.ctx hf cl G k) (E1 _ _ h)
  · exact je_not (C := S.ctx hf cl G k) (E1 _ _ h)
  · exact je_neg (C := S.ctx hf cl G k) (E1 _ _ h).d
  · simp only [Bool.and_eq_true] at h
    exact je_ite (C := S.ctx hf cl G k) (ih.t S hf hg _ _ h.1.1).1 (E1 _ _ h.1.2) (E1 _ _ h.2)
  · simp only [Bool.and_eq_true] at h
    exact je_slc (C := S.ctx hf cl G k) (B1 _ _ h.1.1) (ih.o S hf hg _ _ h.1.2) (ih.o S hf hg _ _ h.2)
  · exact je_rev (C := S.ctx hf cl G k) (E1 _ _ h).d
  · simp only [Bool.and_eq_true] at h
    obtain ⟨⟨⟨h0, h1⟩, h2⟩, h3⟩ := h
    exact je_idx (C := S.ctx hf cl G k) h0 (plainIx_of h1) (B1 _ _ h2) (E1 _ _ h3).d
  · simp only [Bool.and_eq_true, beq_iff_eq, decide_eq_true_eq] at h
    obtain ⟨⟨⟨⟨⟨ho, h0⟩, rfl⟩, h1⟩, h2⟩, h3⟩ := h
    exact je_gix (C := S.ctx hf cl G k) ho (plainIx_of h2) (glo_of h1).1 (glo_of h1).2 (hg _ h0) (E1 _ _ h3).d
  · simp only [Bool.and_eq_true, beq_iff_eq] at h
    obtain ⟨⟨⟨rfl, h1⟩, h2⟩, h3⟩ := h
    exact je_fld (C := S.ctx hf cl G k) (fun env => plainO_base h2 _ env) h1 (B1 _ _ h3)
  · simp only [Bool.and_eq_true] at h
    obtain ⟨⟨⟨⟨⟨⟨h0, h1⟩, h2⟩, h3⟩, h4⟩, h5⟩, h6⟩ := h
    refine je_lc (C := S.ctx hf cl G k) h0 h1 (fun i => ?_) (ih.i S hf hg _ _ _ h4) h2 (ih.c (S.blk _) hf hg _ _ h5) (ih.e (S.blk _) hf hg _ _ h6).d (fun env x => noSet_fold h3 env x)
    rename_i tg _ _ _ _ _ _ _ _ _
    have : (((tg.slots.zip (tg.slots.map fun j => (S.N[j]?).getD ⟨#[]⟩)).map fun p => (p.2, p.1)).map (·.2)) = tg.slots := by
      rw [List.map_map]
      have : ((fun p : Str × Nat => p.2) ∘ fun p : Nat × Str => (p.2, p.1)) = Prod.fst := rfl
      rw [this, List.map_fst_zip]
      rw [List.length_map]; exact Nat.le_refl _
    rw [this]
  · simp only [Bool.and_eq_true, beq_iff_eq] at h
    obtain ⟨⟨⟨⟨h0, rfl⟩, h1⟩, h2⟩, h3⟩ := h
    obtain ⟨a1, a2, a3⟩ := A1 _ _ h3
    rw [List.all_cons, Bool.and_eq_true] at a2
    exact je_call (C := S.ctx hf cl G k) (n := 0) h0 (glo_of h1).1 (glo_of h1).2 h2 (noSt_of a2.1) (starEach_any a2.2) (fun ρ w ds w' e => (evs_len e).trans a3) a1
  · simp only [Bool.and_eq_true, beq_iff_eq] at h
    obtain ⟨⟨⟨⟨h0, rfl⟩, h1⟩, h2⟩, h3⟩ := h
    obtain ⟨a1, a2, a3⟩ := A1 _ _ h3
    rw [List.all_cons, Bool.and_eq_true] at a2
    exact je_mk (C := S.ctx hf cl G k) h0 (glo_of h1).1 (glo_of h1).2 h2 (noSt_of a2.1) (starEach_any a2.2) (fun ρ w ds w' e => (evs_len e).trans a3) a1
  · simp only [Bool.and_eq_true, beq_iff_eq, Bool.not_eq_true', decide_eq_true_eq] at h
    obtain ⟨⟨⟨⟨⟨⟨⟨⟨⟨h0, rfl⟩, h1⟩, h2⟩, h3⟩, h4⟩, h5⟩, h6⟩, h7⟩, h8⟩ := h
    obtain ⟨a1, a2, a3⟩ := A1 _ _ h8
    rename_i f c m a es o ap l p
    have hfl : ∀ g, flOf S.fll g ≠ nmAt S.mnl m := flOf_no h1 (by simpa using h2)
    cases l with
    | nil =>
      cases es with
      | nil => exact je_met0 (C := S.ctx hf cl G k) h0 h3 hfl (methCall_of (fun env => plainO_base h4 _ env) nostl_nil h5 (by simpa using h6)) (E1 _ _ h7).d
      | cons _ _ => cases a3
    | cons y l =>
      have a2' := a2
      rw [List.all_cons, Bool.and_eq_true] at a2
      exact je_met (C := S.ctx hf cl G k) h0 h3 hfl (noSt_of a2.1) (starEach_any a2.2) (methCall_of (fun env => plainO_base h4 _ env) (starEach_any a2') h5 (by simpa using h6)) (fun ρ w ds w' e => (evs_len e).trans a3) (E1 _ _ h7).d a1
  · simp only [Bool.and_eq_true, decide_eq_true_eq] at h
    obtain ⟨⟨⟨h0, rfl⟩, h1⟩, h2⟩ := h
    obtain ⟨a1, a2⟩ := ih.bs S hf hg _ _ h2
    rw [List.all_cons, Bool.and_eq_true] at a2
    exact je_bi (C := S.ctx hf cl G k) h0 (glo_of h1).1 (noSt_of a2.1) (starEach_any a2.2) a1
  · simp only [Bool.and_eq_true, decide_eq_true_eq] at h
    obtain ⟨⟨⟨⟨⟨⟨rfl, rfl⟩, h1⟩, h2⟩, h3⟩, h4⟩, h5⟩ := h
    exact je_isi (C := S.ctx hf cl G k) (glo_of h2).1 (glo_of h3).1 (fun c e => by subst e; cases h1) (noSt_of h4) (B1 _ _ h5)
  · simp only [Bool.and_eq_true, decide_eq_true_eq] at h
    obtain ⟨⟨⟨⟨⟨rfl, h1⟩, h2⟩, h3⟩, h4⟩, h5⟩ := h
    exact je_sm (C := S.ctx hf cl G k) (fun env => plainO_base h1 _ env) (noSt_of h2) h3 (E1 _ _ h4).d (B1 _ _ h5)
  · simp only [Bool.and_eq_true, decide_eq_true_eq] at h
    obtain ⟨⟨⟨⟨⟨rfl, h1⟩, h2⟩, h3⟩, h4⟩, h5⟩ := h
    exact je_popR0 (C := S.ctx hf cl G k) (fun env => plainO_base h1 _ env) h3 (noSt_of h2) (E1 _ _ h4).d (E1 _ _ h5).d
  · simp only [Bool.and_eq_true, decide_eq_true_eq] at h
    obtain ⟨⟨⟨⟨⟨⟨⟨⟨h0, rfl⟩, h1⟩, h2⟩, h2'⟩, h3⟩, h4⟩, h5⟩, h6⟩ := h
    exact je_dget (C := S.ctx hf cl G k) h0 (fun env => plainO_base h1 _ env) h3 (noSt_of h2) (noSt_of h2') (B1 _ _ h4) (E1 _ _ h5).d (E1 _ _ h6).d
  · simp only [Bool.and_eq_true] at h
    obtain ⟨⟨⟨⟨⟨h0, hn⟩, h1⟩, h2⟩, h5⟩, h6⟩ := h
    obtain ⟨a, b, c, d⟩ := nm_of hn
    refine je_lcd (C := S.ctx hf cl G k) h0 a b c d h1 (fun i => ?_) h2 (ih.c (S.blk _) hf hg _ _ h5) (ih.e (S.blk _) hf hg _ _ h6).d
    have e : ∀ tg : Tg, (((tg.slots.zip (tg.slots.map fun j => (S.N[j]?).getD ⟨#[]⟩)).map fun p => (p.2, p.1)).map (·.2)) = tg.slots := fun tg => by
      rw [List.map_map]
      have : ((fun p : Str × Nat => p.2) ∘ fun p : Nat × Str => (p.2, p.1)) = Prod.fst := rfl
      rw [this, List.map_fst_zip]
      rw [List.length_map]; exact Nat.le_refl _
    rw [e]
  · exact je_al (C := S.ctx hf cl G k) (E1 _ _ h)
  · cases h
theorem dis_b {n : Nat} (ih : Dis cl G k n) (S : Sta) (hf : flOk S.fll = true) (hg : ∀ i, i < S.gdl.length → ∃ k d, lookD (G.gd i) k = some d) (e : E) (x : Expr) (h : chkB (n + 1) S e x = true) : JB (S.ctx hf cl G k) x (fun ρ => bas e ρ (ev G e ρ)) := by
  cases e with
  | var i =>
    unfold chkB at h
    dsimp only at h
    split at h
    · obtain ⟨a, b, c, d⟩ := nm_of h
      exact jb_var (C := S.ctx hf cl G k) a b c d
    · cases h
  | _ => exact (ih.e S hf hg _ _ h).d.b
theorem dis_es {n : Nat} (ih : Dis cl G k n) (S : Sta) (hf : flOk S.fll = true) (hg : ∀ i, i < S.gdl.length → ∃ k d, lookD (G.gd i) k = some d) (e : Es) (x : List Expr) (h : chkEs (n + 1) S e x = true) : JA (S.ctx hf cl G k) x (evs G e) ∧ x.all noStB = true ∧ e.len = x.length := by
  unfold chkEs at h
  split at h
  · exact ⟨ja_nil, rfl, rfl⟩
  · simp only [Bool.and_eq_true] at h
    obtain ⟨a, b, c⟩ := ih.es S hf hg _ _ h.2
    exact ⟨ja_cons (noSt_of h.1.1) (ih.e S hf hg _ _ h.1.2).d a, by rw [List.all_cons, h.1.1, b]; rfl, by rw [List.length_cons, ← c]; rfl⟩
  · cases h
theorem dis_bs {n : Nat} (ih : Dis cl G k n) (S : Sta) (hf : flOk S.fll = true) (hg : ∀ i, i < S.gdl.length → ∃ k d, lookD (G.gd i) k = some d) (e : Es) (x : List Expr) (h : chkBs (n + 1) S e x = true) : JAb (S.ctx hf cl G k) x (evb G e) ∧ x.all noStB = true := by
  unfold chkBs at h
  split at h
  · exact ⟨jab_nil, rfl⟩
  · simp only [Bool.and_eq_true] at h
    obtain ⟨a, b⟩ := ih.bs S hf hg _ _ h.2
    exact ⟨jab_cons (noSt_of h.1.1) (ih.b S hf hg _ _ h.1.2) a, by rw [List.all_cons, h.1.1, b]; rfl⟩
  · cases h
theorem dis_o {n : Nat} (ih : Dis cl G k n) (S : Sta) (hf : flOk S.fll = true) (hg : ∀ i, i < S.gdl.length → ∃ k d, lookD (G.gd i) k = some d) (e : Oe) (x : Option Expr) (h : chkO (n + 1) S e x = true) : JO (S.ctx hf cl G k) x (evo G e) := by
  unfold chkO at h
  split at h
  · exact jo_no
  · exact jo_so (ih.e S hf hg _ _ h).d
  · cases h
theorem tst_cmp (A Bm : M D) (c : Cm) : ((val (A.bd fun x => Bm.bd fun y w => bl (dCmp c (deref w x) (deref w y)) w)).bd fun x w => (match truth (deref w x) with
      | some b => R.ok b w
      | none => .bad)) = A.bd fun x => Bm.bd fun y w => match dCmp c (deref w x) (deref w y) with
      | some b => .ok b w
      | none => .bad := by
  funext w
  unfold val M.bd bl M.opt
  cases e1 : A w with
  | ok a w1 =>
    dsimp only
    cases e2 : Bm w1 with
    | ok b w2 =>
      dsimp only
      cases dCmp c (deref w2 a) (deref w2 b) with
      | none => rfl
      | some b => rfl
    | exc _ _ _ => rfl
    | bad => rfl
  | exc _ _ _ => rfl
  | bad => rfl
theorem dis_t {n : Nat} (hk : ∃ j, k = j + 1) (ih : Dis cl G k n) (S : Sta) (hf : flOk S.fll = true) (hg : ∀ i, i < S.gdl.length → ∃ k d, lookD (G.gd i) k = some d) (e : T) (x : Expr) (h : chkT (n + 1) S e x = true) : JT (S.ctx hf cl G k) x (evT G e) ∧
    ∀ op l p, x = .BoolOp op l p → ∀ X, On (S.ctx hf cl G k) X → ∀ Wx, Takes X Wx → PW X x (tT X.K (S.ctx hf cl G k).T (S.ctx hf cl G k).xi (evT G e) Wx) := by
  have T1 := ih.t S hf hg
  unfold chkT at h
  split at h
  · simp only [Bool.and_eq_true] at h
    have q := jt_and (C := S.ctx hf cl G k) (T1 _ _ h.1).1 ((T1 _ _ h.2).2 _ _ _ rfl) (List.cons_ne_nil _ _)
    exact ⟨fun X on Wx tk => (q X on Wx tk).pt, fun op l p e X on Wx tk => q X on Wx tk⟩
  · simp only [Bool.and_eq_true] at h
    have q := jt_or (C := S.ctx hf cl G k) (T1 _ _ h.1).1 ((T1 _ _ h.2).2 _ _ _ rfl) (List.cons_ne_nil _ _)
    exact ⟨fun X on Wx tk => (q X on Wx tk).pt, fun op l p e X on Wx tk => q X on Wx tk⟩
  · rename_i op y p
    have q : ∀ X, On (S.ctx hf cl G k) X → ∀ Wx, Takes X Wx → PW X (.BoolOp op [y] p) (tT X.K (S.ctx hf cl G k).T (S.ctx hf cl G k).xi (evT G e) Wx) := fun X on Wx tk => by
      cases op with
      | And => exact pw_and1 ((T1 _ _ h).1 X on Wx tk)
      | Or => exact pw_or1 ((T1 _ _ h).1 X on Wx tk)
    exact ⟨fun X on Wx tk => (q X on Wx tk).pt, fun op l p e X on Wx tk => q X on Wx tk⟩
  · exact ⟨jt_not (C := S.ctx hf cl G k) (T1 _ _ h).1, fun op l p e => by cases e⟩
  · simp only [Bool.and_eq_true, decide_eq_true_eq] at h
    obtain ⟨⟨⟨⟨h0, rfl⟩, hm⟩, h1⟩, h2⟩ := h
    refine ⟨?_, fun op l p e => by cases e⟩
    rename_i c a b x y pos
    have q := jt_cmp (C := S.ctx hf cl G k) (c := c) (pos := pos) h0 (noSet_mark hm _) hk (ih.b S hf hg _ _ h1) (ih.b S hf hg _ _ h2)
    have e1 : evT G (.e (.cmp c a b)) = fun ρ => (bas a ρ (ev G a ρ)).bd fun x => (bas b ρ (ev G b ρ)).bd fun y w => match dCmp c (deref w x) (deref w y) with
      | some b => .ok b w
      | none => .bad := by
      funext ρ
      exact tst_cmp _ _ _
    rw [e1]
    exact q
  · simp only [Bool.and_eq_true] at h
    refine ⟨jt_tru (C := S.ctx hf cl G k) (ih.b S hf hg _ _ h.2) (plainT_true h.1), fun op l p e => ?_⟩
    rw [e] at h
    cases h.1
  · cases h
theorem dis_c {n : Nat} (ih : Dis cl G k n) (S : Sta) (hf : flOk S.fll = true) (hg : ∀ i, i < S.gdl.length → ∃ k d, lookD (G.gd i) k = some d) (e : Ot) (x : List Expr) (h : chkC (n + 1) S e x = true) : JC (S.ctx hf cl G k) x (evc G e) := by
  unfold chkC at h
  split at h
  · exact jc_nil
  · exact jc_one (ih.t S hf hg _ _ h).1
  · cases h
theorem nost_pl {e : Expr} (h : noStB e = true) (pos : Pos) (env : PySem.Env) : (backTo pos (starEach [e] env)).any (·.1) = false := nostl_cons (noSt_of h) nostl_nil env pos
theorem dis_i {n : Nat} (ih : Dis cl G k n) (S : Sta) (hf : flOk S.fll = true) (hg : ∀ i, i < S.gdl.length → ∃ k d, lookD (G.gd i) k = some d) (e : It) (tg x : Expr) (h : chkI (n + 1) S e tg x = true) : JI (S.ctx hf cl G k) tg x (evi G e) := by
  have E1 := ih.e S hf hg
  unfold chkI at h
  split at h
  · simp only [Bool.and_eq_true, decide_eq_true_eq] at h
    obtain ⟨⟨⟨rfl, h1⟩, h2⟩, h3⟩ := h
    exact ji_rng1 (C := S.ctx hf cl G k) (glo_of h1).1 (noSt_of h2) (E1 _ _ h3).d
  · simp only [Bool.and_eq_true, decide_eq_true_eq] at h
    obtain ⟨⟨⟨⟨⟨rfl, h1⟩, h2⟩, h3⟩, h4⟩, h5⟩ := h
    exact ji_rng2 (C := S.ctx hf cl G k) (glo_of h1).1 (noSt_of h2) (noSt_of h3) (E1 _ _ h4).d (E1 _ _ h5).d
  · simp only [Bool.and_eq_true, decide_eq_true_eq] at h
    obtain ⟨⟨⟨⟨rfl, h1⟩, h2⟩, h3⟩, h4⟩ := h
    cases tg <;> first | (cases h3; done) | skip
    exact ji_enm (C := S.ctx hf cl G k) (glo_of h1).1 (noSt_of h2) (E1 _ _ h4).d
  · simp only [Bool.and_eq_true, decide_eq_true_eq] at h
    obtain ⟨⟨⟨⟨⟨⟨rfl, h1⟩, h2⟩, h3⟩, h4⟩, h5⟩, h6⟩ := h
    cases tg <;> first | (cases h4; done) | skip
    exact ji_zp (C := S.ctx hf cl G k) (glo_of h1).1 (noSt_of h2) (noSt_of h3) (fun env => nost_pl h3 _ env) (E1 _ _ h5).d (E1 _ _ h6).d
  · exact ji_on (C := S.ctx hf cl G k) (E1 _ _ h).d
  · cases h
theorem dis (hk : ∃ j, k = j + 1) : ∀ n, Dis cl G k n
  | 0 => ⟨fun S hf hg e x h => (by unfold chkE at h; cases h), fun S hf hg e x h => (by unfold chkB at h; cases h), fun S hf hg e x h => (by unfold chkEs at h; cases h), fun S hf hg e x h => (by unfold chkBs at h; cases h), fun S hf hg e x h => (by unfold chkO at h; cases h), fun S hf hg e x h => (by unfold chkT at h; cases h), fun S hf hg e x h => (by unfold chkC at h; cases h), fun S hf hg e tg x h => (by unfold chkI at h; cases h)⟩
  | n + 1 => ⟨fun S hf hg => dis_e hk (dis hk n) S hf hg, fun S hf hg => dis_b (dis hk n) S hf hg, fun S hf hg => dis_es (dis hk n) S hf hg, fun S hf hg => dis_bs (dis hk n) S hf hg, fun S hf hg => dis_o (dis hk n) S hf hg, fun S hf hg => dis_t hk (dis hk n) S hf hg, fun S hf hg => dis_c (dis hk n) S hf hg, fun S hf hg => dis_i (dis hk n) S hf hg⟩
end
end My

set_option Elab.async false
set_option linter.all false
set_option maxRecDepth 100000
set_option maxHeartbeats 4000000
/-! Mini20: the check of statements. -/
namespace My
open PySem L2

section
variable {C : Ctx}
theorem ts_asg {X : Cx} {st : Stmt} {t : TE} {i : Nat} {m : Env → M Rv} {Wx : WX} (h : PS X st (tAsg t (gName i))) (ht : ∀ σ H Q, tE X.K C.T C.xi m Wx σ H Q → t σ H Q) :
    PS X st (tS X.K C.T C.xi (fun ρ => (val (m ρ)).st ρ fun d w => .nx (ρ.set i (.v d)) w) Wx) :=
  imS h fun D σ H q => by
    obtain ⟨B, F, θ, w, ρ, hx, fr, po⟩ := q
    refine ht _ _ _ ⟨B, F, θ, w, ρ, hx, fr, Po.vd ((PoS.st po fr).imp fun d F1 θ1 w1 H1 s1 hl1 p1 v rv => ?_)⟩
    exact p1 F1 θ1 H1 _ Grow.refl ((fr.step s1 hl1).setV i rv)
theorem ts_asgO {X : Cx} {st : Stmt} {t : TE} {i : Nat} {m : Env → M Rv} {Wx : WX} (h : PS X st (tAsg t (gName i))) (ht : ∀ σ H Q, tE X.K C.T C.xi m Wx σ H Q → t σ H Q) :
    PS X st (tS X.K C.T C.xi (fun ρ => (m ρ).st ρ fun r w => (match r with
    | .o o => if o.isI then .bad else .nx (ρ.set i (.o o)) w
    | .v _ => .bad)) Wx) :=
  imS h fun D σ H q => by
    obtain ⟨B, F, θ, w, ρ, hx, fr, po⟩ := q
    refine ht _ _ _ ⟨B, F, θ, w, ρ, hx, fr, (PoS.st po fr).imp fun r F1 θ1 w1 H1 s1 hl1 p1 => ?_⟩
    cases r with
    | v d => exact p1.elim
    | o o =>
      intro p pF pt pN q
      cases hI : o.isI with
      | true => simp only [hI] at p1; exact p1.elim
      | false =>
        simp only [hI] at p1
        exact p1 F1 θ1 H1 _ Grow.refl (fr.newO s1 hl1 hI pF pt pN q)
/-- name = [..] with the name a local of this line -/
theorem ps_lcName {X : Cx} {Wx : WX} {i : Nat} {y : Str} {tg : Tg} {tge elt iter : Expr} {cnds : List Expr} {scope : Scope} {own : List (Str × Nat)} {py pos spos : Pos} {mi : Env → M (List D)} {mc : Env → M Bool} {me : Env → M D} (on : OnS C X) (tk : Takes X Wx) (hcm : C.cm = true)
    (hy : C.N[i]? = some y) (hyl : C.sc.names.lookup y = some .local) (hl : (py.line == pos.line) = true) (hfn : C.sc.kind = .function) (ha : (scope.names.any fun (n, k) => n == y && (k == .local || k == .cell)) = false)
    (ok : blkC C.N C.sc scope own = true) (hi : JI C tge iter mi) (hg : tgIs C.N (isLoc (relS scope C.sc)) tg tge = true)
    (ht : JC (C.blk scope) cnds mc) (he : JD (C.blk scope) elt me) (hs : ∀ env x, foldedSetIterable iter env x = pure x) :
    PS X (.Assign [.Name y py] (.ListComp elt [⟨tge, iter, cnds, 0⟩] scope pos) spos) (tAsg (tLc (tI X.K C.T C.xi mi Wx) (gTg X.K tg) (tT X.K C.T C.xi mc fun _ _ _ _ => False) (tD X.K C.T C.xi me fun _ _ _ _ => False) (own.map (·.2))) (gName i)) := by
  have o1 := on.on
  have hb : BlkOk X.N X.env.scope scope own := by rw [o1.N, o1.sc]; exact blkOk_by ok
  have sc := o1.sc
  refine ps_setLc (o1.calm hcm) (by rw [o1.N]; exact o1.nd) (by rw [o1.N]; exact hy) (by rw [sc]; exact hyl) (sw_true (by rw [sc]; exact hfn) (by rw [sc]; exact hyl) hl ha) (hi X o1 Wx tk) hb (fun s H c cl fp => ?_) (fun s H c cl fp => ht _ (o1.blk s H scope cl c fp) _ takes0) (fun s H c cl fp => he _ (o1.blk s H scope cl c fp) _ takes0) fun x => hs _ x
  have o2 := o1.blk s H scope cl c fp
  refine pg_tgIs (o2.calm hcm) (by rw [o2.N]; exact o2.nd) (g := isLoc (relS scope C.sc)) ?_ ?_
  · have := @stOk_loc (X.blk s H scope (compEnvC scope cl c X.env) fp)
    rw [o2.sc] at this
    exact this
  · rw [o2.N]; exact hg
end
def notLc : Expr → Bool
  | .ListComp _ _ _ _ => false
  | .SetComp _ _ _ _ => false
  | .DictComp _ _ _ _ _ => false
  | _ => true
theorem notLc_sw {e : Expr} (h : notLc e = true) (t : Option Expr) (l : Nat) (env : PySem.Env) : swapsWith e t l env = pure false := by
  cases e <;> first | rfl | cases h
def notTp : Expr → Bool
  | .Tuple _ _ _ => false
  | _ => true
theorem notTp_sw {e : Expr} (h : notTp e = true) (ts : List Expr) (env : PySem.Env) : swappedStores ts e env = pure none := by
  cases e <;> first | (cases h; done) | skip
  all_goals
    unfold swappedStores
    split
    · rename_i heq; revert heq; split <;> intro heq <;> first | (rename_i h2 ; cases h2; done) | cases heq | skip
    · rfl
end My

set_option Elab.async false
set_option linter.all false
set_option maxRecDepth 100000
set_option maxHeartbeats 4000000
/-! Mini21: the check of statements is enough. -/
namespace My
open PySem L2

def Sta.nmS (S : Sta) (i : Nat) (x : Str) : Bool := S.N[i]? == some x && isLC S.sc x
def nodbg (x : Str) : Bool := !(x == ("__debug__" : Str)) && !(x == ("__classdict__" : Str))
/-- the parts of a comprehension's own names -/
def ownOf (S : Sta) (tg : Tg) : List (Str × Nat) := (tg.slots.zip (tg.slots.map fun j => (S.N[j]?).getD ⟨#[]⟩)).map fun p => (p.2, p.1)
theorem ownOf_slots (S : Sta) (tg : Tg) : (ownOf S tg).map (·.2) = tg.slots := by
  unfold ownOf
  rw [List.map_map]
  have : ((fun p : Str × Nat => p.2) ∘ fun p : Nat × Str => (p.2, p.1)) = Prod.fst := rfl
  rw [this, List.map_fst_zip]
  rw [List.length_map]; exact Nat.le_refl _
def lcParts (n : Nat) (S : Sta) (tg : Tg) (it : It) (cnd : Ot) (elt : E) (t i : Expr) (cs : List Expr) (scope : Scope) (el : Expr) : Bool :=
  S.cm && blkC S.N S.sc scope (ownOf S tg) && tgIs S.N (isLoc (relS scope S.sc)) tg t && noSetB i && chkI n S it t i && chkC n (S.blk scope) cnd cs && chkE n (S.blk scope) elt el
def isFn (k : ScopeKind) : Bool := match k with
  | .function => true
  | _ => false
/-- a value that goes to a name -/
def chkV (n : Nat) (S : Sta) (x : Str) (p : Pos) (e : E) (v : Expr) : Bool := match e, v with
  | .lc tg it cnd elt, .ListComp el [⟨t, i, cs, 0⟩] scope lp => S.sc.names.lookup x == some .local && (p.line == lp.line) && isFn S.sc.kind && !(scope.names.any fun (n, k) => n == x && (k == .local || k == .cell)) && lcParts n S tg it cnd elt t i cs scope el
  | .al (.lc tg it cnd elt), .ListComp el [⟨t, i, cs, 0⟩] scope lp => S.sc.names.lookup x == some .local && (p.line == lp.line) && isFn S.sc.kind && !(scope.names.any fun (n, k) => n == x && (k == .local || k == .cell)) && lcParts n S tg it cnd elt t i cs scope el
  | e, v => notLc v && chkE n S e v
def notSl : Expr → Bool
  | .Slice _ _ _ _ => false
  | _ => true
theorem assign_sub {y : Expr} (h : notSl y = true) (o : Expr) (ps : Pos) (env : PySem.Env) (v : Value) : assign (.Subscript o y ps) env v = (do
      let ov ← holding [v] (eval o env)
      let iv ← holding [v, ov] (eval y env)
      standAt ps
      holding [v, ov, iv] (setItem ov iv v)
      release [v, ov, iv] []) := by
  cases y <;> first | rfl | cases h
theorem sub_sw (o y : Expr) (p : Pos) (e : Expr) (env : PySem.Env) : swappedStores [.Subscript o y p] e env = pure none := by
  cases e <;> rfl
mutual
def chkS : Nat → Sta → S → Stmt → Bool
  | 0, _, _, _ => false
  | n + 1, S, s, st => match s, st with
    | .bad, _ => true
    | .asg i e, .Assign [.Name x p] v _ => S.nmS i x && chkV n S x p e v
    | .asgO i e, .Assign [.Name x p] v _ => S.nmS i x && chkV n S x p e v
    | .asgT l e, .Assign [.Tuple es k p] v _ => S.cm && tgIs S.N (isLC S.sc) (.tp l) (.Tuple es k p) && notLc v && notTp v && chkE n S e v
    | .setI i k e, .Assign [.Subscript (.Name x _) y _] v _ => S.cm && S.nmS i x && nodbg x && notLc v && notSl y && chkE n S k y && chkE n S e v
    | .setL i k e, .Assign [.Subscript (.Name x _) y _] v _ => S.nmS i x && nodbg x && notLc v && notSl y && chkE n S k y && chkE n S e v
    | .setR a k e, .Assign [.Subscript o y _] v _ => S.cm && notLc v && notSl y && chkE n S a o && chkE n S k y && chkE n S e v
    | .setF c a f e, .Assign [.Attribute o x _] v _ => flOf S.fll f == x && S.okA.contains (c, f) && notLc v && chkE n S a o && chkE n S e v
    | .setS c f e, .Assign [.Attribute (.Name y _) x _] v _ => flOf S.fll f == x && S.okA.contains (c, f) && S.nmS 0 y && nodbg y && notLc v && chkE n S e v
    | .app i e, .Expr (.Call (.Attribute (.Name x _) m ap) [v] [] cp) _ => decide (m = "append") && S.nmS i x && nodbg x && (ap.endLine == cp.line) && noStB v && chkE n S e v
    | .appR a e, .Expr (.Call (.Attribute o m ap) [v] [] cp) _ => decide (m = "append") && plainO o && (ap.endLine == cp.line) && noStB v && chkE n S a o && chkE n S e v
    | .aug i o e, .AugAssign (.Name x _) op v _ => (match o with | .add => true | .sub => true | _ => false) && decide (op = pyAug o) && S.nmS i x && chkE n S e v
    | .augF c a f e, .AugAssign (.Attribute o x _) .Add v _ => flOf S.fll f == x && S.okA.contains (c, f) && chkE n S a o && chkE n S e v
    | .pss, .Expr (.Constant (.str _) _ _) _ => true
    | .pss, .Pass _ => true
    | .exp e, .Expr v _ => notLc v && chkE n S e v
    | .ife t a b, .If x y z _ => chkT n S t x && chkSs n S a y && chkSs n S b z
    | .forr tg it b, .For t i y [] _ => S.cm && tgIs S.N (isLC S.sc) tg t && noSetB i && chkI n S it t i && chkSs n S b y
    | .whl t b, .While x y [] _ => S.cm && chkT n S t x && chkSs n S b y
    | .ret (.var i), .Return (some (.Name x _)) _ => S.nm i x
    | .ret e, .Return (some v) _ => (match e with | .var _ => false | _ => true) && chkE n S e v
    | .retN, .Return none _ => true
    | .rse c .nil, .Raise (some (.Call (.Name x _) [] [] _)) none _ => S.cm && S.zl.contains c && nmAt S.cnl c == x && gloB S.sc x
    | .tri b h, .Try y (h0 :: hs) [] [] _ => chkSs n S b y && chkH n S h (h0 :: hs)
    | .brk, .Break _ => true
    | .cont, .Continue _ => true
    | _, _ => false
def chkSs : Nat → Sta → Ss → List Stmt → Bool
  | 0, _, _, _ => false
  | n + 1, S, ss, st => match ss, st with
    | .nil, [] => true
    | .cons (.frz i) ss, st => chkSs n S ss st
    | .cons s ss, x :: xs => chkS n S s x && chkSs n S ss xs
    | _, _ => false
def chkH : Nat → Sta → Hs → List ExceptHandler → Bool
  | 0, _, _, _ => false
  | n + 1, S, h, hs => match h, hs with
    | .nil, [] => true
    | .cons c none b h, .ExceptHandler (some (.Name x _)) none (y :: ys) _ :: hs => S.xcl.contains c && nmAt S.cnl c == x && gloB S.sc x && chkSs n S.low b (y :: ys) && chkH n S h hs
    | _, _ => false
end

section
variable {cl : Nat → Addr} {G : Gx} {k : Nat}
structure DisS (cl : Nat → Addr) (G : Gx) (k : Nat) (n : Nat) : Prop where
  s : ∀ (S : Sta) (hf : flOk S.fll = true), (∀ i, i < S.gdl.length → ∃ k d, lookD (G.gd i) k = some d) → ∀ (s : My.S) (x : Stmt), chkS n S s x = true → JS (S.ctx hf cl G k) x (evS G s)
  ss : ∀ (S : Sta) (hf : flOk S.fll = true), (∀ i, i < S.gdl.length → ∃ k d, lookD (G.gd i) k = some d) → ∀ (s : Ss) (x : List Stmt), chkSs n S s x = true → JSs (S.ctx hf cl G k) x (evSs G s)
  h : ∀ (S : Sta) (hf : flOk S.fll = true), (∀ i, i < S.gdl.length → ∃ k d, lookD (G.gd i) k = some d) → ∀ (h : Hs) (x : List ExceptHandler), chkH n S h x = true → ∃ l, HsOk (S.ctx hf cl G k) x l ∧ ∀ c fs ρ, evH G h c fs ρ = hsGo G l c fs ρ
theorem nmS_of {S : Sta} {i : Nat} {x : Str} (h : S.nmS i x = true) : S.N[i]? = some x ∧ isLC S.sc x = true := by
  unfold Sta.nmS at h
  simpa only [Bool.and_eq_true, beq_iff_eq] using h
theorem nodbg_of {x : Str} (h : nodbg x = true) : (x == ("__debug__" : Str)) = false ∧ (x == ("__classdict__" : Str)) = false := by
  unfold nodbg at h
  simpa only [Bool.and_eq_true, Bool.not_eq_true'] using h
theorem chkV_ok {n : Nat} (hk : ∃ j, k = j + 1) (S : Sta) (hf : flOk S.fll = true) (hg : ∀ i, i < S.gdl.length → ∃ k d, lookD (G.gd i) k = some d) {x : Str} {i : Nat} {p spos : Pos} {e : E} {v : Expr} (hi : S.N[i]? = some x) (hx : isLC S.sc x = true) (h : chkV n S x p e v = true) :
    ∀ X, OnS (S.ctx hf cl G k) X → ∀ Wx, Takes X Wx → ∃ t, PS X (.Assign [.Name x p] v spos) (tAsg t (gName i)) ∧ ∀ σ H Q, tE X.K (S.ctx hf cl G k).T (S.ctx hf cl G k).xi (ev G e) Wx σ H Q → t σ H Q := by
  intro X on Wx tk
  have D1 := dis (cl := cl) (G := G) (k := k) hk n
  unfold chkV at h
  split at h
  · unfold lcParts at h
    simp only [Bool.and_eq_true, beq_iff_eq, Bool.not_eq_true'] at h
    obtain ⟨⟨⟨⟨a1, a2⟩, a3⟩, a4⟩, ⟨⟨⟨⟨⟨⟨b0, b1⟩, b2⟩, b3⟩, b4⟩, b5⟩, b6⟩⟩ := h
    rename_i tg it cnd elt el t i cs scope lp
    refine ⟨_, ps_lcName (C := S.ctx hf cl G k) on tk b0 hi a1 (by simpa using a2) ?_ a4 b1 (D1.i S hf hg _ _ _ b4) b2 (D1.c (S.blk scope) hf hg _ _ b5) (D1.e (S.blk scope) hf hg _ _ b6).d (fun env x => noSet_fold b3 env x), fun σ H Q q => ?_⟩
    · show S.sc.kind = .function
      unfold isFn at a3
      split at a3
      · assumption
      · cases a3
    · exact lc_tr (C := S.ctx hf cl G k) (fun i => by rw [ownOf_slots]) σ H Q q
  · unfold lcParts at h
    simp only [Bool.and_eq_true, beq_iff_eq, Bool.not_eq_true'] at h
    obtain ⟨⟨⟨⟨a1, a2⟩, a3⟩, a4⟩, ⟨⟨⟨⟨⟨⟨b0, b1⟩, b2⟩, b3⟩, b4⟩, b5⟩, b6⟩⟩ := h
    rename_i tg it cnd elt el t i cs scope lp
    refine ⟨_, ps_lcName (C := S.ctx hf cl G k) on tk b0 hi a1 (by simpa using a2) ?_ a4 b1 (D1.i S hf hg _ _ _ b4) b2 (D1.c (S.blk scope) hf hg _ _ b5) (D1.e (S.blk scope) hf hg _ _ b6).d (fun env x => noSet_fold b3 env x), fun σ H Q q => ?_⟩
    · show S.sc.kind = .function
      unfold isFn at a3
      split at a3
      · assumption
      · cases a3
    · exact lc_tr (C := S.ctx hf cl G k) (fun i => by rw [ownOf_slots]) σ H Q (al_tr q)
  · simp only [Bool.and_eq_true] at h
    exact ⟨_, ps_set (i := i) (by rw [on.on.N]; exact on.on.nd) (by rw [on.on.N]; exact hi) (loc_of on.on hx) (D1.e S hf hg _ _ h.2 X on.on Wx tk) (notLc_sw h.1 _ _ _) (.inl (on.fnA x)), fun σ H Q q => q⟩
theorem dis_s {n : Nat} (hk : ∃ j, k = j + 1) (ih : DisS cl G k n) (S : Sta) (hf : flOk S.fll = true) (hg : ∀ i, i < S.gdl.length → ∃ k d, lookD (G.gd i) k = some d) (s : My.S) (x : Stmt) (h : chkS (n + 1) S s x = true) : JS (S.ctx hf cl G k) x (evS G s) := by
  have D1 := dis (cl := cl) (G := G) (k := k) hk n
  have E1 := D1.e S hf hg
  have S1 := ih.ss S hf hg
  unfold chkS at h
  split at h
  · exact js_bad0 (C := S.ctx hf cl G k)
  · simp only [Bool.and_eq_true] at h
    obtain ⟨a, b⟩ := nmS_of h.1
    exact fun X on Wx tk => by
      obtain ⟨t, h1, h2⟩ := chkV_ok hk S hf hg a b h.2 X on Wx tk
      exact ts_asg (C := S.ctx hf cl G k) h1 h2
  · simp only [Bool.and_eq_true] at h
    obtain ⟨a, b⟩ := nmS_of h.1
    exact fun X on Wx tk => by
      obtain ⟨t, h1, h2⟩ := chkV_ok hk S hf hg a b h.2 X on Wx tk
      exact ts_asgO (C := S.ctx hf cl G k) h1 h2
  · simp only [Bool.and_eq_true] at h
    obtain ⟨⟨⟨⟨h0, h1⟩, h2⟩, h3⟩, h4⟩ := h
    exact js_asgT (C := S.ctx hf cl G k) h0 h1 (E1 _ _ h4) (fun t env => notLc_sw h2 _ _ env) (fun env => notTp_sw h3 _ env) (fun env => rfl)
  · simp only [Bool.and_eq_true] at h
    obtain ⟨⟨⟨⟨⟨⟨h0, h1⟩, h2⟩, h3⟩, h5⟩, h6⟩, h7⟩ := h
    obtain ⟨a, b⟩ := nmS_of h1
    obtain ⟨c, d⟩ := nodbg_of h2
    exact js_setI (C := S.ctx hf cl G k) h0 a b c d (E1 _ _ h7).d (E1 _ _ h6).d (fun t env => notLc_sw h3 _ _ env) (fun env v => assign_sub h5 _ _ env v) (fun env => sub_sw _ _ _ _ env)
  · simp only [Bool.and_eq_true] at h
    obtain ⟨⟨⟨⟨⟨h1, h2⟩, h3⟩, h5⟩, h6⟩, h7⟩ := h
    obtain ⟨a, b⟩ := nmS_of h1
    obtain ⟨c, d⟩ := nodbg_of h2
    exact js_setL (C := S.ctx hf cl G k) a b c d (E1 _ _ h7).d (E1 _ _ h6).d (fun t env => notLc_sw h3 _ _ env) (fun env v => assign_sub h5 _ _ env v) (fun env => sub_sw _ _ _ _ env)
  · simp only [Bool.and_eq_true] at h
    obtain ⟨⟨⟨⟨⟨h0, h1⟩, h2⟩, h4⟩, h5⟩, h6⟩ := h
    exact js_setR (C := S.ctx hf cl G k) h0 (E1 _ _ h6).d (E1 _ _ h4).d (E1 _ _ h5).d (fun t env => notLc_sw h1 _ _ env) (fun env v => assign_sub h2 _ _ env v) (fun env => sub_sw _ _ _ _ env)
  · simp only [Bool.and_eq_true, beq_iff_eq] at h
    obtain ⟨⟨⟨⟨rfl, h1⟩, h2⟩, h3⟩, h4⟩ := h
    exact js_setF (C := S.ctx hf cl G k) h1 (E1 _ _ h4).d (E1 _ _ h3).d (fun t env => notLc_sw h2 _ _ env)
  · simp only [Bool.and_eq_true, beq_iff_eq] at h
    obtain ⟨⟨⟨⟨⟨rfl, h1⟩, h2⟩, h3⟩, h4⟩, h5⟩ := h
    obtain ⟨a, b⟩ := nmS_of h2
    obtain ⟨c, d⟩ := nodbg_of h3
    exact js_setS (C := S.ctx hf cl G k) h1 a b c d (E1 _ _ h5).d (fun t env => notLc_sw h4 _ _ env)
  · simp only [Bool.and_eq_true, decide_eq_true_eq] at h
    obtain ⟨⟨⟨⟨⟨rfl, h1⟩, h2⟩, h3⟩, h4⟩, h5⟩ := h
    obtain ⟨a, b⟩ := nmS_of h1
    obtain ⟨c, d⟩ := nodbg_of h2
    exact js_app (C := S.ctx hf cl G k) a b c d h3 (noSt_of h4) (E1 _ _ h5).d
  · simp only [Bool.and_eq_true, decide_eq_true_eq] at h
    obtain ⟨⟨⟨⟨⟨rfl, h1⟩, h2⟩, h3⟩, h4⟩, h5⟩ := h
    exact js_appR (C := S.ctx hf cl G k) (fun env => plainO_base h1 _ env) h2 (noSt_of h3) (E1 _ _ h4).d (E1 _ _ h5).d
  · simp only [Bool.and_eq_true, decide_eq_true_eq] at h
    obtain ⟨⟨⟨h0, rfl⟩, h1⟩, h2⟩ := h
    obtain ⟨a, b⟩ := nmS_of h1
    refine js_aug (C := S.ctx hf cl G k) ?_ a b (E1 _ _ h2).d
    split at h0
    · exact .inl rfl
    · exact .inr rfl
    · cases h0
  · simp only [Bool.and_eq_true, beq_iff_eq] at h
    obtain ⟨⟨⟨rfl, h1⟩, h2⟩, h3⟩ := h
    exact js_augF (C := S.ctx hf cl G k) h1 (E1 _ _ h2).d (E1 _ _ h3).d
  · exact js_doc
  · exact js_pass
  · simp only [Bool.and_eq_true] at h
    exact js_exp (C := S.ctx hf cl G k) (E1 _ _ h.2) (fun env => notLc_sw h.1 _ _ env)
  · simp only [Bool.and_eq_true] at h
    exact js_if (C := S.ctx hf cl G k) (D1.t S hf hg _ _ h.1.1).1 (S1 _ _ h.1.2) (S1 _ _ h.2)
  · simp only [Bool.and_eq_true] at h
    obtain ⟨⟨⟨⟨h0, h1⟩, h2⟩, h3⟩, h4⟩ := h
    exact js_for (C := S.ctx hf cl G k) h0 h1 (D1.i S hf hg _ _ _ h3) (S1 _ _ h4) (fun env x => noSet_fold h2 env x)
  · simp only [Bool.and_eq_true] at h
    exact js_while (C := S.ctx hf cl G k) h.1.1 (D1.t S hf hg _ _ h.1.2).1 (S1 _ _ h.2)
  · obtain ⟨a, b, c, d⟩ := nm_of h
    exact js_retV (C := S.ctx hf cl G k) a b c d
  · simp only [Bool.and_eq_true] at h
    rename_i e v _ _
    have q := js_ret (C := S.ctx hf cl G k) (pos := by assumption) (E1 _ _ h.2)
    cases e <;> first | (cases h.1; done) | exact q
  · exact js_retN
  · simp only [Bool.and_eq_true, beq_iff_eq] at h
    obtain ⟨⟨⟨h0, h1⟩, rfl⟩, h2⟩ := h
    exact js_rse0 (C := S.ctx hf cl G k) h0 h1 (glo_of h2).1 (glo_of h2).2
  · simp only [Bool.and_eq_true] at h
    obtain ⟨l, h1, h2⟩ := ih.h S hf hg _ _ h.2
    have q := js_try (C := S.ctx hf cl G k) (pos := by assumption) (S1 _ _ h.1) h1
    rename_i b hh _ _ _ _
    have e1 : evS G (.tri b hh) = fun ρ w => match evSs G b ρ w with
      | .ex c fs ρ' w' => hsGo G l c fs ρ' w'
      | r => r := by
      funext ρ w
      show (match evSs G b ρ w with
        | .ex c fs ρ' w' => evH G hh c fs ρ' w'
        | r => r) = _
      cases evSs G b ρ w <;> first | rfl | (dsimp only; rw [h2])
    rw [e1]
    exact q
  · exact js_brk
  · exact js_cont
  · cases h
theorem dis_ss {n : Nat} (ih : DisS cl G k n) (S : Sta) (hf : flOk S.fll = true) (hg : ∀ i, i < S.gdl.length → ∃ k d, lookD (G.gd i) k = some d) (s : Ss) (x : List Stmt) (h : chkSs (n + 1) S s x = true) : JSs (S.ctx hf cl G k) x (evSs G s) := by
  unfold chkSs at h
  split at h
  · exact jss_nil
  · exact jss_frz (C := S.ctx hf cl G k) (ih.ss S hf hg _ _ h)
  · simp only [Bool.and_eq_true] at h
    exact jss_cons (C := S.ctx hf cl G k) (ih.s S hf hg _ _ h.1) (ih.ss S hf hg _ _ h.2)
  · cases h
theorem dis_h {n : Nat} (ih : DisS cl G k n) (S : Sta) (hf : flOk S.fll = true) (hg : ∀ i, i < S.gdl.length → ∃ k d, lookD (G.gd i) k = some d) (s : Hs) (x : List ExceptHandler) (h : chkH (n + 1) S s x = true) :
    ∃ l, HsOk (S.ctx hf cl G k) x l ∧ ∀ c fs ρ, evH G s c fs ρ = hsGo G l c fs ρ := by
  unfold chkH at h
  split at h
  · exact ⟨[], .nil, fun _ _ _ => rfl⟩
  · simp only [Bool.and_eq_true, beq_iff_eq] at h
    obtain ⟨⟨⟨⟨h0, rfl⟩, h1⟩, h2⟩, h3⟩ := h
    obtain ⟨l, a, b⟩ := ih.h S hf hg _ _ h3
    rename_i c bb hh _ _ _ _ _
    refine ⟨(c, evSs G bb) :: l, .cons h0 (glo_of h1).1 (glo_of h1).2 (ih.ss S.low hf hg _ _ h2) a, fun c' fs ρ => ?_⟩
    show (if G.sub c' c then fun w => (evSs G bb ρ w).noX else evH G hh c' fs ρ) = if G.sub c' c then fun w => (evSs G bb ρ w).noX else hsGo G l c' fs ρ
    rw [b]
  · cases h
theorem disS (hk : ∃ j, k = j + 1) : ∀ n, DisS cl G k n
  | 0 => ⟨fun S hf hg e x h => (by unfold chkS at h; cases h), fun S hf hg e x h => (by unfold chkSs at h; cases h), fun S hf hg e x h => (by unfold chkH at h; cases h)⟩
  | n + 1 => ⟨fun S hf hg => dis_s hk (disS hk n) S hf hg, fun S hf hg => dis_ss (disS hk n) S hf hg, fun S hf hg => dis_h (disS hk n) S hf hg⟩
end
end My

set_option Elab.async false
set_option linter.all false
set_option maxRecDepth 100000
set_option maxHeartbeats 4000000
/-! Mini22: defs keep what the evaluator says. -/
namespace My
open PySem L2

section
variable {K : PySem.W.Frag} {T : Tb} {F H : Hp} {θ : List Addr} {w : Wd} {vs : List V} {ds : List D}
theorem start_some {N : List Str} {vs : List V} {i : Nat} {v : Option V} (h : (L2.start N vs)[i]? = some v) : (∃ x, vs[i]? = some x ∧ v = some x) ∨ (vs.length ≤ i ∧ v = none) := by
  unfold L2.start at h
  by_cases hi : i < vs.length
  · rw [List.getElem?_append_left (by simpa using hi), List.getElem?_map, List.getElem?_eq_getElem hi] at h
    exact .inl ⟨_, List.getElem?_eq_getElem hi, (Option.some.inj h).symm⟩
  · rw [List.getElem?_append_right (by simpa using hi)] at h
    have := List.mem_of_getElem? h
    exact .inr ⟨by omega, (List.eq_of_mem_replicate this)⟩
theorem env_some {ds : List D} {n i : Nat} {s : Slot} (h : (ds.map Slot.v ++ List.replicate n Slot.u)[i]? = some s) : (∃ d, ds[i]? = some d ∧ s = .v d) ∨ s = .u := by
  by_cases hi : i < ds.length
  · rw [List.getElem?_append_left (by simpa using hi), List.getElem?_map, List.getElem?_eq_getElem hi] at h
    exact .inl ⟨_, List.getElem?_eq_getElem hi, (Option.some.inj h).symm⟩
  · rw [List.getElem?_append_right (by simpa using hi)] at h
    exact .inr (List.eq_of_mem_replicate (List.mem_of_getElem? h))
/-- a def's frame at its start -/
theorem fr_start {N : List Str} {ns : Nat} (hl : Hl K T F θ w H) (r : Reps K T F θ vs ds) (hn : N.length = ns) (hv : vs.length ≤ ns) :
    Fr K T ⟨F, θ, H, [], none⟩ F θ w H (L2.start N vs) (ds.map Slot.v ++ List.replicate (ns - ds.length) .u) where
  hl := hl
  keep := fun a o h _ _ => h
  ext := fun _ _ h => h
  pre := ⟨[], by simp, by simp⟩
  fre := fun _ _ h => .inl h
  live := fun _ o h => ⟨o, h⟩
  len := by
    have := r.length
    unfold L2.start
    simp only [List.length_append, List.length_map, List.length_replicate]
    omega
  sl := fun i s v h1 h2 => by
    rcases env_some h1 with ⟨d, hd, rfl⟩ | rfl
    · obtain ⟨x, hx, rx⟩ := r.get hd
      rcases start_some h2 with ⟨y, hy, rfl⟩ | ⟨hle, _⟩
      · rw [hx] at hy; cases hy
        exact ⟨x, rfl, rx⟩
      · rw [List.getElem?_eq_none hle] at hx; cases hx
    · trivial
  di := fun i j o o' p _ h1 _ _ _ => by
    rcases env_some h1 with ⟨d, _, e⟩ | e <;> cases e
/-- a frame that owns nothing at its start is a step -/
theorem Fr.toStep {B : Bs} {F' H' : Hp} {θ' : List Addr} {w' : Wd} {σ : St} {ρ : Env} (f : Fr K T B F' θ' w' H' σ ρ) (hP : B.P = []) : Step B.F B.θ B.H F' θ' H' where
  keep := fun a o h n => f.keep a o h n (by rw [hP]; simp)
  ext := f.ext
  pre := f.pre
  fre := fun a o h => by
    rcases f.fre a o h with q | q | q
    · exact .inl q
    · exact .inr q
    · rw [hP] at q; cases q
  live := f.live
/-- the body's ends, from the def's wish -/
theorem po_body {r : RS} {Q : VK} {E : XK} (po : Po K T F θ H [] (match r with
      | .nx _ w' => .ok (.v .non) w'
      | .rt r w' => .ok r w'
      | .ex c fs _ w' => .exc c fs w'
      | _ => .bad) (KE K T Q H) (fun c d _ H' => E c d H')) :
    PoS K T ⟨F, θ, H, [], none⟩ F θ { nx := fun _ H' => Q .non H', rt := Q } (fun c d _ H' => E c d H') r := by
  cases r with
  | nx ρ w' => exact fun F' θ' H' σ g fr => po F' θ' H' (fr.toStep rfl) fr.hl .non .non
  | rt v w' =>
    cases v with
    | v d => exact fun F' θ' H' σ ρ v g fr rv => po F' θ' H' (fr.toStep rfl) fr.hl v rv
    | o o => exact fun F' θ' H' σ ρ p g fr pF pt pN q => po F' θ' H' (fr.toStep rfl) fr.hl p pF pt pN q
  | ex c fs ρ w' => exact fun F' θ' H' σ cls od g fr x => po F' θ' H' cls od (fr.toStep rfl) fr.hl x
  | bk ρ w' => exact po.elim
  | ct ρ w' => exact po.elim
  | bad => exact po.elim
/-- an __init__'s frame at its start -/
theorem fr_startI {N : List Str} {ns c : Nat} {x dx : Addr} {H : Hp} (hl : Hl K T F θ w H) (r : Reps K T F θ vs ds) (hn : N.length = ns + 1) (hv : vs.length ≤ ns) (hx : H x = some (.ins (T.cl c) dx [])) (hd : H dx = some (.own x)) (xF : F x = none) (xt : x ∉ θ) :
    Fr K T ⟨F, θ, H, [x], none⟩ F θ w H (L2.start N (.ref x :: vs)) (.o (.ins c []) :: (ds.map Slot.v ++ List.replicate (ns - ds.length) .u)) where
  hl := hl
  keep := fun a o h _ _ => h
  ext := fun _ _ h => h
  pre := ⟨[], by simp, by simp⟩
  fre := fun _ _ h => .inl h
  live := fun _ o h => ⟨o, h⟩
  len := by
    have := r.length
    unfold L2.start
    simp only [List.length_append, List.length_map, List.length_replicate, List.length_cons]
    omega
  sl := fun i s v h1 h2 => by
    cases i with
    | zero =>
      cases h1
      rcases start_some h2 with ⟨y, hy, rfl⟩ | ⟨hle, _⟩
      · cases hy
        exact ⟨x, rfl, xF, xt, .inr ⟨⟨List.mem_cons_self, _, dx, [], [], hx, hx⟩, rfl⟩, _, dx, [], rfl, hx, hd, .nil⟩
      · simp at hle
    | succ i =>
      rcases env_some (show (ds.map Slot.v ++ List.replicate (ns - ds.length) Slot.u)[i]? = some s from h1) with ⟨d, hd, rfl⟩ | rfl
      · obtain ⟨y, hy, ry⟩ := r.get hd
        rcases start_some h2 with ⟨z, hz, rfl⟩ | ⟨hle, _⟩
        · rw [List.getElem?_cons_succ, hy] at hz; cases hz
          exact ⟨y, rfl, ry⟩
        · rw [List.length_cons] at hle
          rw [List.getElem?_eq_none (by omega)] at hy; cases hy
      · trivial
  di := fun i j o o' p n h1 h2 _ _ => by
    have g : ∀ {i : Nat} {o : Own}, (Slot.o (.ins c []) :: (ds.map Slot.v ++ List.replicate (ns - ds.length) .u))[i]? = some (.o o) → i = 0 := fun {i o} h => by
      cases i with
      | zero => rfl
      | succ i => rcases env_some (show (ds.map Slot.v ++ List.replicate (ns - ds.length) Slot.u)[i]? = some (.o o) from h) with ⟨d, _, e⟩ | e <;> cases e
    exact n ((g h1).trans (g h2).symm)
/-- .. is a step from ahead of the making -/
theorem Fr.toStepI {H0 F' H' : Hp} {θ' : List Addr} {w' : Wd} {x dx : Addr} {u v : HO} {σ : St} {ρ : Env} (f : Fr K T ⟨F, θ, upd (upd H0 dx u) x v, [x], none⟩ F' θ' w' H' σ ρ) (nx : H0 x = none) (nd : H0 dx = none) : Step F θ H0 F' θ' H' := by
  have up : ∀ a o, H0 a = some o → a ≠ x ∧ upd (upd H0 dx u) x v a = some o := fun a o e => ⟨ne_of_none e nx, by rw [upd_ne (ne_of_none e nx), upd_ne (ne_of_none e nd)]; exact e⟩
  have dn : ∀ a, upd (upd H0 dx u) x v a = none → H0 a = none := fun a e => by
    cases q : H0 a with
    | none => rfl
    | some o => rw [(up a o q).2] at e; cases e
  exact {
    keep := fun a o h n => f.keep a o (up a o h).2 n (by simpa using (up a o h).1)
    ext := f.ext
    pre := by
      obtain ⟨t, e, h⟩ := f.pre
      exact ⟨t, e, fun a m => dn a (h a m)⟩
    fre := fun a o h => by
      rcases f.fre a o h with q | q | q
      · exact .inl q
      · exact .inr (dn a q)
      · rw [List.mem_singleton.mp q]; exact .inr nx
    live := fun a o h => f.live a o (up a o h).2 }
theorem po_bodyI {r : RS} {Q : VK} {E : XK} {H0 : Hp} {c : Nat} {x dx : Addr} (nx : H0 x = none) (nd : H0 dx = none) (ne : dx ≠ x) (hdF : F dx = none) (hdt : dx ∉ θ) (po : Po K T F θ H0 [] (match r with
      | .nx ρ w' => (match (ρ[(0 : Nat)]? : Option Slot) with
        | some (Slot.o (.ins c' fs)) => if c' = c then R.ok (Rv.o (.ins c fs)) w' else .bad
        | _ => .bad)
      | .ex c fs _ w' => .exc c fs w'
      | _ => .bad) (fun r F' θ' _ H' => match r with
        | Rv.o o => F' x = none → F' dx = none → x ∉ θ' → (∃ gs, H' x = some (.ins (T.cl c) dx gs)) → OwnAt K T F' θ' H' x o → Q .non H'
        | .v _ => False) (fun c d _ H' => E c d H')) :
    PoS K T ⟨F, θ, upd (upd H0 dx (.own x)) x (.ins (T.cl c) dx []), [x], none⟩ F θ { nx := fun _ H' => Q .non H', rt := Q } (fun c d _ H' => E c d H') r := by
  cases r with
  | nx ρ w' =>
    intro F' θ' H' σ g fr
    dsimp only at po
    cases e : (ρ[(0 : Nat)]? : Option Slot) with
    | none => rw [e] at po; exact po.elim
    | some s =>
      rw [e] at po
      cases s with
      | o o =>
        cases o with
        | ins c' fs =>
          dsimp only at po
          by_cases hc : c' = c
          case neg => rw [if_neg hc] at po; exact po.elim
          rw [if_pos hc] at po
          subst hc
          have hi : 0 < σ.length := by rw [fr.len]; exact (List.getElem?_eq_some_iff.mp e).1
          obtain ⟨p, hv, pF, pt, pB, q⟩ := fr.sl 0 _ _ e (List.getElem?_eq_getElem hi)
          obtain ⟨hp, hia⟩ : p = x ∧ InsAt ⟨F, θ, upd (upd H0 dx (.own x)) x (.ins (T.cl c') dx []), [x], none⟩ H' p := by
            rcases pB with ⟨z, _⟩ | ⟨z, _⟩
            · cases z
            · exact ⟨List.mem_singleton.mp z.1, z.2⟩
          subst hp
          have hd0 : upd (upd H0 dx (.own p)) p (.ins (T.cl c') dx []) dx = some (.own p) := by rw [upd_ne ne]; exact upd_same
          have hd1 : H' dx = some (.own p) := fr.keep dx _ hd0 hdt (by simpa using ne)
          obtain ⟨Ca, dx2, gs, hC, h1, h2, r2⟩ := id q
          have st := fr.toStepI nx nd
          refine po F' θ' H' st fr.hl pF ?_ pt ?_ q
          · cases z : F' dx with
            | none => rfl
            | some o =>
              rcases fr.fre dx o z with y | y | y
              · have y : F dx = some o := y
                rw [hdF] at y; cases y
              · have y : upd (upd H0 dx (.own p)) p (.ins (T.cl c') dx []) dx = none := y
                rw [hd0] at y; cases y
              · exact absurd (List.mem_singleton.mp y) ne
          · obtain ⟨C3, dx3, gs3, gs0, i1, i2⟩ := hia
            have i2 : upd (upd H0 dx (.own p)) p (.ins (T.cl c') dx []) p = some (.ins C3 dx3 gs0) := i2
            rw [upd_same] at i2
            cases i2
            exact ⟨gs3, i1⟩
        | _ => exact po.elim
      | _ => exact po.elim
  | ex c fs ρ w' => exact fun F' θ' H' σ cls od g fr x => po F' θ' H' cls od (fr.toStepI nx nd) fr.hl x
  | rt v w' => exact po.elim
  | bk ρ w' => exact po.elim
  | ct ρ w' => exact po.elim
  | bad => exact po.elim
end
end My

set_option Elab.async false
set_option linter.all false
set_option maxRecDepth 100000
set_option maxHeartbeats 4000000
/-! Mini23: every def of a program keeps what the evaluator says. -/
namespace My
open PySem L2

inductive Kd where
  | fn | mt (c m : Nat) | mk (c : Nat)
  deriving DecidableEq
structure DefI where
  kd : Kd
  d : He.DefD
  N : List Str
  ps : List Str
structure Md where
  P : Pg
  S : Sta
  ds : List (Nat × DefI)
def Md.at (M : Md) (i : Nat) : Option DefI := M.ds.lookup i
def Md.sta (M : Md) (D : DefI) : Sta := { M.S with N := D.N, sc := D.d.scope, cm := true }
def scB (N ps : List Str) (sc : Scope) : Bool := isFn sc.kind && !sc.isCoroutine && !sc.isGenerator && decide N.Nodup && decide (N.take ps.length = ps) && ps.all (isLC sc) && sc.names.all (fun y => decide (y.2 ≠ .free))
theorem scB_ok {N ps : List Str} {sc : Scope} (h : scB N ps sc = true) : FnScope N ps sc := by
  unfold scB at h
  simp only [Bool.and_eq_true, Bool.not_eq_true', decide_eq_true_eq, List.all_eq_true] at h
  obtain ⟨⟨⟨⟨⟨⟨h1, h2⟩, h3⟩, h4⟩, h5⟩, h6⟩, h7⟩ := h
  refine ⟨?_, h2, h3, h4, h5, fun x hx => ?_, h7⟩
  · unfold isFn at h1
    split at h1
    · assumption
    · cases h1
  · have := h6 x hx
    unfold isLC at this
    simpa only [Bool.or_eq_true, beq_iff_eq] using this
def defB (M : Md) (D : DefI) (df : Df) : Bool := scB D.N D.ps D.d.scope && df.dfl.isEmpty && true && D.d.kwd.isEmpty && chkSs 300 (M.sta D) df.body D.d.body && (match D.kd, df.init with
  | .mk c, some c' => c == c' && D.ps.length == df.np + 1 && D.N.length == df.ns + 1
  | .mk _, none => false
  | _, some _ => false
  | _, none => D.ps.length == df.np && D.N.length == df.ns)
theorem lookup_mem {l : List (Nat × DefI)} {i : Nat} {D : DefI} (h : l.lookup i = some D) : (i, D) ∈ l := by
  induction l with
  | nil => cases h
  | cons p r ih =>
    obtain ⟨j, E⟩ := p
    rw [List.lookup_cons] at h
    split at h
    · rename_i e
      have : i = j := by simpa using e
      subst this
      cases h
      exact List.mem_cons_self
    · exact List.mem_cons_of_mem _ (ih h)
def defsB (M : Md) (l : List (Nat × DefI)) (s : List Df) : Bool := l.all fun p => match s[p.1]? with
  | some df => defB M p.2 df
  | none => false
theorem defsB_at {M : Md} {l : List (Nat × DefI)} {s : List Df} {i : Nat} {D : DefI} (hb : defsB M l s = true) (h : l.lookup i = some D) : ∃ df, s[i]? = some df ∧ defB M D df = true := by
  unfold defsB at hb
  have q := List.all_eq_true.mp hb _ (lookup_mem h)
  dsimp only at q
  cases e : s[i]? with
  | none => rw [e] at q; cases q
  | some df => rw [e] at q; exact ⟨df, rfl, q⟩
def Md.ok (M : Md) : Bool := defsB M M.ds M.P.fns &&
  M.S.okF.all (fun p => match M.at p.1 with
    | some D => decide (D.kd = .fn) && decide (D.d.name = nmAt M.S.fnl p.1) && decide (p.2 = D.ps.length)
    | none => false) &&
  M.S.okT.all (fun p => match M.at p.1 with
    | some D => decide (D.kd = .mt p.2.1 p.2.2.1) && decide (p.2.2.2 + 1 = D.ps.length)
    | none => false) &&
  M.S.okM.all (fun p => match M.at p.1 with
    | some D => decide (D.kd = .mk p.2.1) && decide (p.2.2 + 1 = D.ps.length)
    | none => false)
/-- what a call with all arguments binds -/
def BndOk (D : DefI) : Prop := (D.d.dfl = [] ∧ ∀ (kV doc pm : Value) (an : Option Addr) (cdv ct : Value) (us : List Value), us.length = D.ps.length → bindArgs (PySem.W.fnOf D.d.name D.d.qual D.d.params D.d.body D.d.scope .none kV doc pm an cdv ct) ⟨us, []⟩ = pure (D.ps.zip us)) ∨
  (D.d.dfl ≠ [] ∧ ∀ (T : Addr) (kV doc pm : Value) (an : Option Addr) (cdv ct : Value) (us its : List Value), us.length = D.ps.length → its.length = D.d.dfl.length →
    ∃ k, bindArgs (PySem.W.fnOf D.d.name D.d.qual D.d.params D.d.body D.d.scope (.ref T) kV doc pm an cdv ct) ⟨us, []⟩ = seqItems? (.ref T) >>= k ∧ k (some its.toArray) = pure (D.ps.zip (us ++ its.drop D.d.dfl.length)))

structure WF (M : Md) (w : World) (K : PySem.W.Frag) (mg : Str → Option Value) (cl : Nat → Addr) : Prop where
  free : ∀ x ∈ bnames, mg x = none
  glb : ∀ x d, M.S.okG.contains x = true → M.P.gls[x]? = some d → ∃ v u, mg (nmAt M.S.gnl x) = some u ∧ RelV v u ∧ ∀ T F θ, Rep K T F θ v d
  gd : ∀ x k d, M.S.okD.contains x = true → lookD (M.P.gds.getD x []) k = some d → ∃ s p v, k = .str s ∧ mg (nmAt M.S.gdl x) = some (.ref p) ∧ KDct K w p (S8 s) v ∧ ∀ T F θ, Rep K T F θ v d
  gdn : ∀ i, i < M.S.gdl.length → ∃ k d, lookD (M.P.gds.getD i []) k = some d
  fd : ∀ (i : Nat) (D : DefI), M.at i = some D → ∃ fd, FunD K D.d.name D.d.qual D.d.params D.d.body D.d.scope (D.d.dvs K) [] (He.fAd K D.d.at_) fd
  bnd : ∀ (i : Nat) (D : DefI), M.at i = some D → BndOk D
  fn : ∀ (i : Nat) (D : DefI), M.at i = some D → D.kd = .fn → mg D.d.name = some (.ref (He.fAd K D.d.at_))
  mt : ∀ (i : Nat) (D : DefI) (c m : Nat), M.at i = some D → D.kd = .mt c m → Cls K (cl c) ∧ Meth K (cl c) (nmAt M.S.mnl m) (He.fAd K D.d.at_)
  mkr : ∀ (i : Nat) (D : DefI) (c : Nat), M.at i = some D → D.kd = .mk c → Mk K (cl c) (He.fAd K D.d.at_) ∧ mg (nmAt M.S.cnl c) = some (.ref (cl c))
  at_ : ∀ c f, M.S.okA.contains (c, f) = true → Cls K (cl c) ∧ NoAttr K (cl c) (flOf M.S.fll f)
  isc : ∀ c, M.S.okI.contains c = true → C8.InsC K (cl c) ∧ PySem.W.selfFirst K (cl c) = true ∧ mg (nmAt M.S.cnl c) = some (.ref (cl c))
  rz : ∀ c, M.S.zl.contains c = true → M.S.xcl.contains c = true ∧ M.P.efs.getD c [] = [] ∧ ∀ X : Cx, X.K = K → X.mg = mg → RzAt X (nmAt M.S.cnl c) (cl c)
  xn : ∀ c, M.S.xcl.contains c = true → mg (nmAt M.S.cnl c) = some (.ref (cl c))
  sb : ∀ c c', M.S.xcl.contains c = true → M.S.xcl.contains c' = true → PySem.W.exmOne K (.ref (cl c)) (.ref (cl c')) = some (c == c' || M.P.subs.contains (c, c'))

section
variable {M : Md} {P : Program} {w : World} {K : PySem.W.Frag} {mg : Str → Option Value} {base : Heap} {cl : Nat → Addr}
abbrev Md.tb (M : Md) (hf : flOk M.S.fll = true) (cl : Nat → Addr) : Tb := ⟨cl, flOf M.S.fll, fun c => M.S.xcl.contains c, flOf_inj hf⟩
/-- what holds at level k -/
structure Lv (M : Md) (hf : flOk M.S.fll = true) (P : Program) (w : World) (K : PySem.W.Frag) (mg : Str → Option Value) (base : Heap) (cl : Nat → Addr) (k : Nat) : Prop where
  fn : ∀ (i : Nat) (D : DefI) (fd : FuncData), M.at i = some D → (∀ c, D.kd ≠ .mk c) → FunD K D.d.name D.d.qual D.d.params D.d.body D.d.scope (D.d.dvs K) [] (He.fAd K D.d.at_) fd →
    FnOk P w K mg base (CX P w) k (He.fAd K D.d.at_) fd D.ps (SpN K (M.tb hf cl) (den M.P k i) D.ps.length [])
  mkr : ∀ (i : Nat) (D : DefI) (c : Nat) (fd : FuncData) (j : Nat), M.at i = some D → D.kd = .mk c → k = j + 1 → FunD K D.d.name D.d.qual D.d.params D.d.body D.d.scope (D.d.dvs K) [] (He.fAd K D.d.at_) fd →
    FnOk P w K mg base (CX P w) j (He.fAd K D.d.at_) fd D.ps (SpI K (M.tb hf cl) c (den M.P k i) (D.ps.length - 1) [])
theorem bnd_of {D : DefI} {fd : FuncData} (F : FunD K D.d.name D.d.qual D.d.params D.d.body D.d.scope (D.d.dvs K) [] (He.fAd K D.d.at_) fd) (b : BndOk D) : Binds K fd D.ps [] := by
  have hl : (D.d.dvs K).length = D.d.dfl.length := by unfold He.DefD.dvs; rw [List.length_map]
  rcases b with ⟨e, b⟩ | ⟨e, b⟩
  · have e2 : D.d.dvs K = [] := by unfold He.DefD.dvs; rw [e]; rfl
    rw [e2] at F
    exact F.bindsN b
  · have e2 : D.d.dvs K ≠ [] := fun z => e (List.length_eq_zero_iff.mp (by rw [← hl, z]; rfl))
    obtain ⟨ds, hd, hb⟩ := F.binds1 (ps := D.ps) D.ps.length (D.d.dvs K).length e2 (by omega) fun T kV doc pm an cdv ct us its h1 h2 => by
      rw [hl] at h2 ⊢
      exact b T kV doc pm an cdv ct us its h1 h2
    rw [List.drop_length] at hd
    cases hd
    exact hb
theorem on_of {hf : flOk M.S.fll = true} {k : Nat} {D : DefI} (hk : ∃ j, k = j + 1) (W : WF M w K mg cl) (ok : M.ok = true) (L : Lv M hf P w K mg base cl k) (X : Cx) (h1 : X.prog = P) (h2 : X.w = w) (h3 : X.K = K) (h4 : X.mg = mg) (h5 : X.base = base)
    (hN : X.N = D.N) (hnd : D.N.Nodup) (hsc : X.env.scope = D.d.scope) (hc : X.calm = true) (hr : Room k X.A) :
    On ((M.sta D).ctx hf cl (M.P.gx (den M.P k)) k) X ∧ OnX ((M.sta D).ctx hf cl (M.P.gx (den M.P k)) k) X := by
  subst h1 h2 h3 h4 h5
  unfold Md.ok at ok
  simp only [Bool.and_eq_true, List.all_eq_true] at ok
  obtain ⟨⟨⟨_, oF⟩, oT⟩, oM⟩ := ok
  refine ⟨⟨hN, hnd, hsc, fun _ => hc, fun _ => hr, W.free, fun x d ho e => ?_, fun x y d ho e => ?_, fun f n h => ?_, fun f c m n h => ?_, fun f c n h => ?_, fun c f h => W.at_ c f h, fun c h => W.isc c h⟩, ⟨fun c h => ?_, fun c h => W.xn c h, fun c c' h h' => W.sb c c' h h'⟩⟩
  · obtain ⟨v, u, a, b, c⟩ := W.glb x d ho e
    exact ⟨v, u, a, b, c _⟩
  · obtain ⟨s, p, v, a, b, c, e⟩ := W.gd x y d ho e
    exact ⟨s, p, v, a, b, c, e _⟩
  · have q := oF (f, n) (by have h : M.S.okF.contains (f, n) = true := h; simpa using h)
    cases e : M.at f with
    | none => simp only [e] at q; cases q
    | some D' =>
      simp only [e, Bool.and_eq_true, decide_eq_true_eq] at q
      obtain ⟨⟨q1, q2⟩, q3⟩ := q
      obtain ⟨fd, F⟩ := W.fd f D' e
      have q3 : n = D'.ps.length := q3
      refine ⟨_, fd, D'.ps, [], [], q3 ▸ L.fn f D' fd e (fun c z => by rw [q1] at z; cases z) F, ?_, F.kp, bnd_of F (W.bnd f D' e), .nil⟩
      show X.mg (nmAt M.S.fnl f) = _
      rw [← q2]
      exact W.fn f D' e q1
  · have q := oT (f, c, m, n) (by have h : M.S.okT.contains (f, c, m, n) = true := h; simpa using h)
    cases e : M.at f with
    | none => simp only [e] at q; cases q
    | some D' =>
      simp only [e, Bool.and_eq_true, decide_eq_true_eq] at q
      obtain ⟨q1, q3⟩ := q
      obtain ⟨fd, F⟩ := W.fd f D' e
      obtain ⟨a, b⟩ := W.mt f D' c m e q1
      have q3 : n + 1 = D'.ps.length := q3
      exact ⟨_, fd, D'.ps, [], [], q3 ▸ L.fn f D' fd e (fun c z => by rw [q1] at z; cases z) F, a, b, bnd_of F (W.bnd f D' e), .nil⟩
  · have q := oM (f, c, n) (by have h : M.S.okM.contains (f, c, n) = true := h; simpa using h)
    cases e : M.at f with
    | none => simp only [e] at q; cases q
    | some D' =>
      simp only [e, Bool.and_eq_true, decide_eq_true_eq] at q
      obtain ⟨q1, q3⟩ := q
      obtain ⟨fd, F⟩ := W.fd f D' e
      obtain ⟨a, b⟩ := W.mkr f D' c e q1
      have q3 : n + 1 = D'.ps.length := q3
      obtain ⟨j, hj⟩ := hk
      have e4 : D'.ps.length - 1 = n := by omega
      exact ⟨j, _, fd, D'.ps, [], [], hj, e4 ▸ L.mkr f D' c fd j e q1 hj F, a, b, bnd_of F (W.bnd f D' e), .nil⟩
  · obtain ⟨a, b, c'⟩ := W.rz c h
    exact ⟨a, b, c' X rfl rfl⟩
/-- a def's body's context -/
theorem onS_of {hf : flOk M.S.fll = true} {k : Nat} {D : DefI} (hk : ∃ j, k = j + 1) (W : WF M w K mg cl) (ok : M.ok = true) (L : Lv M hf P w K mg base cl k) (hnd : D.N.Nodup) (cdv : Value) (A : Around) (outer : List PySem.Env) (s : Shared) (H : Hp) (E : XK) (f : Addr)
    (hr : Room k (A.deeper (PyProof.Rows.envOfC D.d.qual D.d.scope s.heap.objs.size f cdv))) :
    OnS ((M.sta D).ctx hf cl (M.P.gx (den M.P k)) k) (cxOf (CX P w) P w K mg base D.N D.d.qual D.d.scope f cdv A outer s H E) := by
  have q := on_of hk W ok L (cxOf (CX P w) P w K mg base D.N D.d.qual D.d.scope f cdv A outer s H E) rfl rfl rfl rfl rfl rfl hnd rfl rfl hr
  exact ⟨q.1, q.2, fun _ => rfl, fun _ => passes_of rfl, rfl, rfl⟩
theorem den_fn {P : Pg} {k i : Nat} {df : Df} {ds : List My.D} {w : Wd} (h : P.fns[i]? = some df) (hi : df.init = none) : den P (k + 2) i ds w = runD (P.gx (den P (k + 1))) df ds w := by
  unfold den
  rw [h]
  dsimp only
  rw [hi]
theorem den_mk {P : Pg} {k i c : Nat} {df : Df} {ds : List My.D} {w : Wd} (h : P.fns[i]? = some df) (hi : df.init = some c) : den P (k + 3) i ds w = runD (P.gx (den P (k + 1))) df ds w := by
  unfold den
  rw [h]
  dsimp only
  rw [hi]
theorem den_mk2 {P : Pg} {i c : Nat} {df : Df} {ds : List My.D} {w : Wd} (h : P.fns[i]? = some df) (hi : df.init = some c) : den P 2 i ds w = .bad := by
  unfold den
  rw [h]
  dsimp only
  rw [hi]
theorem run_fnD {G : Gx} {df : Df} {ds : List My.D} {w : Wd} (hd : df.dfl = []) (hi : df.init = none) (hl : ds.length = df.np) : runD G df ds w = (match evSs G df.body (ds.map Slot.v ++ List.replicate (df.ns - ds.length) .u) w with
      | .nx _ w' => .ok (.v .non) w'
      | .rt r w' => .ok r w'
      | .ex c fs _ w' => .exc c fs w'
      | _ => .bad) := by
  unfold runD
  dsimp only
  rw [hd, List.drop_nil, List.append_nil, if_pos hl, hi, hl]
  all_goals (try dsimp only)
  all_goals (generalize evSs G df.body _ w = r; cases r <;> rfl)
theorem run_mkD {G : Gx} {df : Df} {ds : List My.D} {w : Wd} {c : Nat} (hd : df.dfl = []) (hi : df.init = some c) (hl : ds.length = df.np) : runD G df ds w = (match evSs G df.body (.o (.ins c []) :: (ds.map Slot.v ++ List.replicate (df.ns - ds.length) .u)) w with
      | .nx ρ w' => (match (ρ[(0 : Nat)]? : Option Slot) with
        | some (Slot.o (.ins c' fs)) => if c' = c then R.ok (Rv.o (.ins c fs)) w' else .bad
        | _ => .bad)
      | .ex c fs _ w' => .exc c fs w'
      | _ => .bad) := by
  unfold runD
  dsimp only
  rw [hd, List.drop_nil, List.append_nil, if_pos hl, hi, hl]
  all_goals (try dsimp only)
  all_goals (try rw [List.cons_append])
  all_goals (generalize evSs G df.body _ w = r; cases r <;> rfl)
theorem lv0 {hf : flOk M.S.fll = true} {k : Nat} (hb : ∀ i ds w, den M.P k i ds w = .bad) : Lv M hf P w K mg base cl k where
  fn := fun i D fd hD hk F => ⟨fun vs H Q E ⟨as, _, _, F', θ, w', ds, _, _, po⟩ => by rw [hb] at po; exact po.elim, fun A outer s H args us vs Q E _ _ _ _ ⟨as, _, _, F', θ, w', ds, _, _, po⟩ => by rw [hb] at po; exact po.elim⟩
  mkr := fun i D c fd j hD hk hj F => ⟨fun vs H Q E ⟨x, dx, as, H0, _, _, _, _, _, _, F', θ, w', ds, _, _, po⟩ => by rw [hb] at po; exact po.elim, fun A outer s H args us vs Q E _ _ _ _ ⟨x, dx, as, H0, _, _, _, _, _, _, F', θ, w', ds, _, _, po⟩ => by rw [hb] at po; exact po.elim⟩
theorem lvFn {hf : flOk M.S.fll = true} {k : Nat} (W : WF M w K mg cl) (ok : M.ok = true) (L : Lv M hf P w K mg base cl (k + 1)) {i : Nat} {D : DefI} {fd : FuncData} (hD : M.at i = some D) (hk : ∀ c, D.kd ≠ .mk c)
    (F : FunD K D.d.name D.d.qual D.d.params D.d.body D.d.scope (D.d.dvs K) [] (He.fAd K D.d.at_) fd) : FnOk P w K mg base (CX P w) (k + 2) (He.fAd K D.d.at_) fd D.ps (SpN K (M.tb hf cl) (den M.P (k + 2) i) D.ps.length []) := by
  have ok' := ok
  unfold Md.ok at ok'
  simp only [Bool.and_eq_true] at ok'
  obtain ⟨df, hdf, hb⟩ := defsB_at ok'.1.1.1 hD
  unfold defB at hb
  simp only [Bool.and_eq_true, List.isEmpty_iff] at hb
  obtain ⟨⟨⟨⟨⟨hs, hd1⟩, hd2⟩, hd3⟩, hc⟩, hm⟩ := hb
  have sc := scB_ok hs
  have hini : df.init = none ∧ D.ps.length = df.np ∧ D.N.length = df.ns := by
    cases e : D.kd with
    | mk c => exact absurd e (hk c)
    | fn =>
      cases e2 : df.init with
      | none => simpa [e, e2] using hm
      | some c => simp [e, e2] at hm
    | mt c m =>
      cases e2 : df.init with
      | none => simpa [e, e2] using hm
      | some c => simp [e, e2] at hm
  obtain ⟨hi, hnp, hns⟩ := hini
  refine F.ok (k := k + 1) (N := D.N) sc (fun vs H Q E ⟨as, e, hl, _⟩ => by rw [e, List.append_nil]; exact hl) (fun cdv A outer s H vs Q E hr hsp => ?_)
  obtain ⟨as, e, hl, F0, θ, w0, ds, hl0, rs, po⟩ := hsp
  rw [List.append_nil] at e
  subst e
  have on := onS_of (D := D) ⟨k, rfl⟩ W ok L sc.nd cdv A outer s H E (He.fAd K D.d.at_) hr
  have body := (disS (cl := cl) (G := M.P.gx (den M.P (k + 1))) (k := k + 1) ⟨k, rfl⟩ 300).ss (M.sta D) hf W.gdn _ _ hc _ on (fun c d _ H' => E c d H') (takes_of rfl rfl rfl rfl)
  refine ⟨_, body, ?_⟩
  have hden := den_fn (k := k) (ds := ds) (w := w0) hdf hi
  rw [hden] at po
  have hlen : ds.length = df.np := by rw [← rs.length, hl, hnp]
  have hrun := run_fnD (G := M.P.gx (den M.P (k + 1))) (w := w0) hd1 hi hlen
  rw [hrun] at po
  exact ⟨⟨F0, θ, H, [], none⟩, F0, θ, w0, _, rfl, fr_start hl0 rs hns (by have := sc.pre; have h := congrArg List.length this; rw [List.length_take] at h; omega), po_body po⟩
theorem lvMk {hf : flOk M.S.fll = true} {k : Nat} (W : WF M w K mg cl) (ok : M.ok = true) (L : Lv M hf P w K mg base cl (k + 1)) {i : Nat} {D : DefI} {c : Nat} {fd : FuncData} (hD : M.at i = some D) (hk : D.kd = .mk c)
    (F : FunD K D.d.name D.d.qual D.d.params D.d.body D.d.scope (D.d.dvs K) [] (He.fAd K D.d.at_) fd) : FnOk P w K mg base (CX P w) (k + 2) (He.fAd K D.d.at_) fd D.ps (SpI K (M.tb hf cl) c (den M.P (k + 3) i) (D.ps.length - 1) []) := by
  have ok' := ok
  unfold Md.ok at ok'
  simp only [Bool.and_eq_true] at ok'
  obtain ⟨df, hdf, hb⟩ := defsB_at ok'.1.1.1 hD
  unfold defB at hb
  simp only [Bool.and_eq_true, List.isEmpty_iff] at hb
  obtain ⟨⟨⟨⟨⟨hs, hd1⟩, hd2⟩, hd3⟩, hc⟩, hm⟩ := hb
  have sc := scB_ok hs
  have hini : df.init = some c ∧ D.ps.length = df.np + 1 ∧ D.N.length = df.ns + 1 := by
    cases e2 : df.init with
    | none => simp [hk, e2] at hm
    | some c' =>
      simp only [hk, e2, Bool.and_eq_true, beq_iff_eq] at hm
      exact ⟨by rw [hm.1.1], hm.1.2, hm.2⟩
  obtain ⟨hi, hnp, hns⟩ := hini
  refine F.ok (k := k + 1) (N := D.N) sc (fun vs H Q E ⟨x, dx, as, H0, e, hl, _⟩ => by rw [e, List.append_nil, List.length_cons, hl]; omega) (fun cdv A outer s H vs Q E hr hsp => ?_)
  obtain ⟨x, dx, as, H0, e, hl, nx, nd, ne, eH, F0, θ, w0, ds, hl0, rs, po⟩ := hsp
  rw [List.append_nil] at e
  subst e
  subst eH
  have on := onS_of (D := D) ⟨k, rfl⟩ W ok L sc.nd cdv A outer s (upd (upd H0 dx (.own x)) x (.ins (cl c) dx [])) E (He.fAd K D.d.at_) hr
  have body := (disS (cl := cl) (G := M.P.gx (den M.P (k + 1))) (k := k + 1) ⟨k, rfl⟩ 300).ss (M.sta D) hf W.gdn _ _ hc _ on (fun c d _ H' => E c d H') (takes_of rfl rfl rfl rfl)
  refine ⟨_, body, ?_⟩
  rw [den_mk (k := k) (ds := ds) (w := w0) hdf hi] at po
  have hlen : ds.length = df.np := by rw [← rs.length, hl]; omega
  rw [run_mkD (G := M.P.gx (den M.P (k + 1))) (w := w0) hd1 hi hlen] at po
  have nx' : upd H0 dx (.own x) x = none := by rw [upd_ne ne.symm]; exact nx
  have hv : as.length ≤ df.ns := by
    have h := congrArg List.length sc.pre
    rw [List.length_take] at h
    omega
  exact ⟨⟨F0, θ, upd (upd H0 dx (.own x)) x (.ins (cl c) dx []), [x], none⟩, F0, θ, w0, _, rfl, fr_startI (T := M.tb hf cl) ((hl0.lay nd).lay nx') rs hns hv upd_same (by rw [upd_ne ne]; exact upd_same) (hl0.fnone nx) (hl0.tnone nx), po_bodyI (T := M.tb hf cl) nx nd ne (hl0.fnone nd) (hl0.tnone nd) po⟩
theorem lv {hf : flOk M.S.fll = true} (W : WF M w K mg cl) (ok : M.ok = true) : ∀ k, Lv M hf P w K mg base cl k
  | 0 => lv0 fun _ _ _ => rfl
  | 1 => lv0 fun _ _ _ => rfl
  | k + 2 => {
    fn := fun i D fd hD hk F => lvFn W ok (lv W ok (k + 1)) hD hk F
    mkr := fun i D c fd j hD hk hj F => by
      obtain rfl : j = k + 1 := by omega
      cases k with
      | zero =>
        have ok' := ok
        unfold Md.ok at ok'
        simp only [Bool.and_eq_true] at ok'
        obtain ⟨df, hdf, hb⟩ := defsB_at ok'.1.1.1 hD
        unfold defB at hb
        simp only [Bool.and_eq_true, List.isEmpty_iff] at hb
        have hm := hb.2
        have hi : ∃ c', df.init = some c' := by
          cases e2 : df.init with
          | none => simp [hk, e2] at hm
          | some c' => exact ⟨c', rfl⟩
        obtain ⟨c', hi⟩ := hi
        have e0 : ∀ ds w, den M.P 2 i ds w = .bad := fun ds w => den_mk2 hdf hi
        exact ⟨fun vs H Q E ⟨x, dx, as, H0, _, _, _, _, _, _, F', θ, w', ds, _, _, po⟩ => by rw [e0] at po; exact po.elim, fun A outer s H args us vs Q E _ _ _ _ ⟨x, dx, as, H0, _, _, _, _, _, _, F', θ, w', ds, _, _, po⟩ => by rw [e0] at po; exact po.elim⟩
      | succ k => exact lvMk W ok (lv W ok (k + 1)) hD hk F }
end
end My

set_option Elab.async false
set_option linter.all false
set_option maxRecDepth 100000
set_option maxHeartbeats 4000000
/-! Mini24: what the head must tell of a program, and that it is enough. -/
namespace My
open PySem L2

abbrev Md.cn (M : Md) (c : Nat) : Str := nmAt M.S.cnl c
def dvOf : D → He.Dv
  | .int i => .int i
  | .str s => .str (S8 s)
  | _ => .non
def keyTx : D → Str
  | .str s => S8 s
  | _ => ⟨#[]⟩
def glFa (x : Str) : D → He.Fa
  | .str s => .str x (S8 s)
  | .int z => .int x z
  | .tup _ => .glo x
  | _ => .free x
def Md.fa (M : Md) : List He.Fa :=
  (bnames.map He.Fa.free ++ M.S.okI.flatMap fun c => [He.Fa.cls (M.cn c), He.Fa.glo (M.cn c)]) ++ (M.S.okG.map fun i => glFa (nmAt M.S.gnl i) (M.P.gls.getD i .non)) ++
  M.ds.flatMap (fun D => match D.2.kd with
    | .fn => [He.Fa.glo D.2.d.name]
    | .mt c m => [He.Fa.cls (M.cn c), He.Fa.meth (M.cn c) (nmAt M.S.mnl m)]
    | .mk c => [He.Fa.glo (M.cn c), He.Fa.mkr (M.cn c)]) ++
  M.S.okA.flatMap (fun p => [He.Fa.cls (M.cn p.1), He.Fa.noat (M.cn p.1) (flOf M.S.fll p.2)]) ++
  M.S.zl.map (fun c => He.Fa.exc (M.cn c)) ++ M.S.xcl.map (fun c => He.Fa.glo (M.cn c)) ++
  M.S.xcl.flatMap (fun c => M.S.xcl.map fun c' => He.Fa.exm (M.cn c) (M.cn c') (c == c' || M.P.subs.contains (c, c'))) ++
  M.S.okD.map fun i => He.Fa.glo (nmAt M.S.gdl i)
/-- what isinstance asks of a class -/
def insB (K : PySem.W.Frag) (C : Addr) : Bool := decide (PySem.W.findIn K (.ref C) "__class__" = some (some (.builtin "object.__class__"))) && decide (PySem.W.specialIn K (.builtin "object.__class__") "__get__" = some (some (.builtin "getset_descriptor.__get__"))) &&
  decide (PySem.W.takesIn K (.builtin "object.__class__") = some true) && decide (PySem.W.mroIn K C (.type "object") = some true) && PySem.W.selfFirst K C
theorem insB_ok {K : PySem.W.Frag} {C : Addr} (hc : Cls K C) (h : insB K C = true) : C8.InsC K C ∧ PySem.W.selfFirst K C = true := by
  unfold insB at h
  simp only [Bool.and_eq_true, decide_eq_true_eq] at h
  obtain ⟨⟨⟨⟨h1, h2⟩, h3⟩, h4⟩, h5⟩ := h
  exact ⟨⟨hc, h1, h2, h3, h4, if_pos (beq_self_eq_true _)⟩, h5⟩
def okTx (s : List Nat) : Bool := s.all (· < 0x110000) && decide (s.length ≤ 1000)
/-- this value of the module is this deep value: texts, numbers, tuples of such -/
def repB (K : PySem.W.Frag) : Nat → D → Value → Bool
  | _, .int i, .int j _ => i == j
  | _, .str s, .str x _ => s == x.cps.toList && okTx s
  | n + 1, .tup ds, .ref a => (match K.lookup a with
    | some o => decide (o.cls = .type "tuple") && (match o.data with
      | .seq its _ => decide (its.size ≤ sizeLine) && (decide (ds.length = its.toList.length) && (ds.zip its.toList).all fun p => repB K n p.1 p.2)
      | _ => false)
    | none => false)
  | _, _, _ => false
def tupG (K : PySem.W.Frag) (a : Addr) : D → Bool
  | .tup ds => repB K 3 (.tup ds) (.ref a)
  | _ => true
theorem okTx_of {s : List Nat} (h : okTx s = true) : okS s := by
  unfold okTx at h
  simp only [Bool.and_eq_true, List.all_eq_true, decide_eq_true_eq] at h
  exact ⟨h.1, Nat.le_trans h.2 (by decide)⟩
theorem repB_all {K : PySem.W.Frag} {n : Nat} (ih : ∀ (d : D) (u : Value), repB K n d u = true → ∃ v, RelV v u ∧ ∀ T F θ, Rep K T F θ v d) : ∀ (ds : List D) (us : List Value), ds.length = us.length → (ds.zip us).all (fun p => repB K n p.1 p.2) = true →
    ∃ vs, Vals vs us ∧ ∀ T F θ, Reps K T F θ vs ds
  | [], [], _, _ => ⟨[], .nil, fun _ _ _ => .nil⟩
  | d :: ds, u :: us, hl, h => by
    rw [List.zip_cons_cons, List.all_cons, Bool.and_eq_true] at h
    obtain ⟨v, a, b⟩ := ih d u h.1
    obtain ⟨vs, a2, b2⟩ := repB_all ih ds us (by simpa using hl) h.2
    exact ⟨v :: vs, .cons a a2, fun T F θ => .cons (b T F θ) (b2 T F θ)⟩
  | [], _ :: _, hl, _ => by cases hl
  | _ :: _, [], hl, _ => by cases hl
theorem repB_ok {K : PySem.W.Frag} : ∀ (n : Nat) (d : D) (u : Value), repB K n d u = true → ∃ v, RelV v u ∧ ∀ T F θ, Rep K T F θ v d := fun n => by
  induction n with
  | zero =>
    intro d u h
    unfold repB at h
    split at h
    · rw [beq_iff_eq] at h; subst h
      exact ⟨.int _, ⟨_, rfl⟩, fun T F θ => .int _⟩
    · rename_i s x t
      simp only [Bool.and_eq_true, beq_iff_eq] at h
      have e : S8 s = x := (congrArg S8 h.1).trans (S8_list x)
      subst e
      exact ⟨.str (S8 s), ⟨t, rfl⟩, fun T F θ => .str s (okTx_of h.2)⟩
    · rename_i m ds a e; cases e
    · cases h
  | succ n ih =>
    intro d u h
    unfold repB at h
    split at h
    · rw [beq_iff_eq] at h; subst h
      exact ⟨.int _, ⟨_, rfl⟩, fun T F θ => .int _⟩
    · rename_i s x t
      simp only [Bool.and_eq_true, beq_iff_eq] at h
      have e : S8 s = x := (congrArg S8 h.1).trans (S8_list x)
      subst e
      exact ⟨.str (S8 s), ⟨t, rfl⟩, fun T F θ => .str s (okTx_of h.2)⟩
    · rename_i m ds a e
      cases e
      split at h
      · rename_i o ho
        simp only [Bool.and_eq_true, decide_eq_true_eq] at h
        obtain ⟨hc, h⟩ := h
        split at h
        · rename_i its k hd
          simp only [Bool.and_eq_true, decide_eq_true_eq] at h
          obtain ⟨hs, hl, h⟩ := h
          obtain ⟨vs, a1, b1⟩ := repB_all ih ds its.toList hl h
          exact ⟨.ref a, rfl, fun T F θ => .tup (.inr ⟨o, its, k, ho, hc, hd, hs, a1⟩) (b1 T F θ)⟩
        · cases h
      · cases h
    · cases h
def Md.ts (M : Md) : List He.Tab := M.S.okD.map fun i => (fun K => He.ga K (nmAt M.S.gdl i), (M.P.gds.getD i []).map fun p => keyTx p.1)
def Md.ex (M : Md) (K : PySem.W.Frag) : Bool := (M.S.okG.all fun i => tupG K (He.ga K (nmAt M.S.gnl i)) (M.P.gls.getD i .non)) && (M.S.okI.all fun c => insB K (He.ga K (M.cn c))) && M.S.okD.all fun i => He.valsB K (He.ga K (nmAt M.S.gdl i)) ((M.P.gds.getD i []).map fun p => (keyTx p.1, dvOf p.2))
def okD : D → Bool
  | .int _ => true
  | .str s => okTx s
  | _ => false
def isTx : D → Bool
  | .str s => okTx s
  | _ => false
def okDT : D → Bool
  | .tup _ => true
  | d => okD d
def Md.okfa (M : Md) : Bool := M.S.okG.all (fun i => okDT (M.P.gls.getD i .non)) && decide (M.P.gds.length = M.S.gdl.length) && M.P.gds.all (fun l => l.all (fun p => isTx p.1 && okD p.2) && !l.isEmpty) &&
  M.ds.all (fun (_, D) => true && D.d.kwd.isEmpty && (match D.kd with
    | .fn => decide (D.d.at_ = (D.d.name, none))
    | .mt c m => decide (D.d.at_ = (M.cn c, some (nmAt M.S.mnl m)))
    | .mk c => decide (D.d.at_ = (M.cn c, some ("__init__" : Str))))) &&
  M.S.zl.all (fun c => M.S.xcl.contains c && decide ((M.P.efs.getD c []).length = 0))
theorem rep_okD {d : D} (h : okD d = true) (K : PySem.W.Frag) : ∀ T F θ, Rep K T F θ ((dvOf d).v K) d := fun T F θ => by
  unfold okD at h
  split at h
  · exact .int _
  · exact .str _ (okTx_of h)
  · cases h
theorem lookD_mem : ∀ {l : List (D × D)} {k d : D}, lookD l k = some d → ∃ k', (k', d) ∈ l ∧ k'.eqv k = true
  | [], _, _, h => by cases h
  | (a, b) :: r, k, d, h => by
    unfold lookD at h
    split at h
    · cases h
      exact ⟨a, List.mem_cons_self, by assumption⟩
    · obtain ⟨k', m, e⟩ := lookD_mem h
      exact ⟨k', List.mem_cons_of_mem _ m, e⟩
theorem eqv_str {s : List Nat} {k : D} (h : (D.str s).eqv k = true) : k = .str s := by
  cases k <;> first | (simp [D.eqv] at h; done) | skip
  simp only [D.eqv, beq_iff_eq] at h
  rw [h]
section
variable {M : Md} {w : World} {K : PySem.W.Frag} {mg : Str → Option Value} {h : Heap}
theorem wf_of (okf : M.okfa = true) (hb : ∀ (i : Nat) (D : DefI), M.at i = some D → BndOk D) (X : K.In h) (G : h.Ns mainGlobals mg) (c0 : He.SaysX M.fa (M.ds.map (·.2.d)) M.ts [] M.ex w h K) : WF M w K mg (fun c => He.ga K (M.cn c)) := by
  have fact : ∀ f, f ∈ M.fa → f.ok K = true := fun f hf => He.SaysD.facts c0.t.d hf
  unfold Md.okfa at okf
  simp only [Bool.and_eq_true, List.all_eq_true, decide_eq_true_eq] at okf
  obtain ⟨⟨⟨⟨o1, o2⟩, o3⟩, o4⟩, o5⟩ := okf
  have memD : ∀ {i : Nat} {D : DefI}, M.at i = some D → (i, D) ∈ M.ds := fun e => lookup_mem e
  have gdT : ∀ x k d, lookD (M.P.gds.getD x []) k = some d → x < M.S.gdl.length := fun x k d e => by
    by_cases hx : x < M.S.gdl.length
    · exact hx
    · have : M.P.gds.getD x [] = [] := by rw [List.getD_eq_getElem?_getD, List.getElem?_eq_none (by omega)]; rfl
      rw [this] at e; cases e
  refine ⟨fun x hx => ?_, fun x d ho e => ?_, fun x k d ho e => ?_, fun i hi => ?_, fun i D e => ?_, hb, fun i D e hk => ?_, fun i D c m e hk => ?_, fun i D c e hk => ?_, fun c f e => ?_, fun c e => ?_, fun c e => ?_, fun c e => ?_, fun c c' e e' => ?_⟩
  · exact He.free_ok X G (fact (.free x) (by unfold Md.fa; simp only [List.mem_append, List.mem_map]; exact .inl (.inl (.inl (.inl (.inl (.inl (.inl (.inl ⟨x, hx, rfl⟩)))))))))
  · have ho : x ∈ M.S.okG := by simpa using ho
    have hg : M.P.gls.getD x .non = d := by rw [List.getD_eq_getElem?_getD, e]; rfl
    have f1 := fact (glFa (nmAt M.S.gnl x) d) (by unfold Md.fa; simp only [List.mem_append, List.mem_map]; exact .inl (.inl (.inl (.inl (.inl (.inl (.inr ⟨x, ho, by rw [hg]⟩)))))))
    have od := o1 x ho
    rw [hg] at od
    cases d with
    | int z =>
      obtain ⟨t, ht⟩ := He.int_ok X G f1
      exact ⟨.int z, _, ht, ⟨t, rfl⟩, fun T F θ => .int _⟩
    | str s =>
      obtain ⟨t, ht⟩ := He.str_ok X G f1
      exact ⟨.str (S8 s), _, ht, ⟨t, rfl⟩, fun T F θ => .str s (okTx_of od)⟩
    | tup ds =>
      have more := c0.more
      unfold Md.ex at more
      simp only [Bool.and_eq_true, List.all_eq_true] at more
      have q := more.1.1 x ho
      rw [hg] at q
      obtain ⟨v, a, b⟩ := repB_ok 3 _ _ (show repB K 3 (.tup ds) (.ref _) = true from q)
      exact ⟨v, _, He.glo_ok X G f1, a, b⟩
    | _ => cases od
  · have hx := gdT x k d e
    have ho : x ∈ M.S.okD := by simpa using ho
    obtain ⟨k', hm, hk⟩ := lookD_mem e
    have hin : M.P.gds.getD x [] ∈ M.P.gds := by
      rw [List.getD_eq_getElem?_getD, List.getElem?_eq_getElem (by omega)]
      exact List.getElem_mem _
    have o6 := (o3 _ hin).1 _ hm
    obtain ⟨j, hj⟩ := List.getElem?_of_mem ho
    obtain ⟨es, n, kd⟩ := He.SaysT.tab c0.t j (t := (fun K => He.ga K (nmAt M.S.gdl x), (M.P.gds.getD x []).map fun p => keyTx p.1)) (by unfold Md.ts; rw [List.getElem?_map, hj]; rfl)
    have vb : He.valsB K (He.ga K (nmAt M.S.gdl x)) ((M.P.gds.getD x []).map fun p => (keyTx p.1, dvOf p.2)) = true := by
      have := c0.more
      unfold Md.ex at this
      exact List.all_eq_true.mp (Bool.and_eq_true_iff.mp this).2 x ho
    obtain ⟨u, hu, ru⟩ := He.valsB_ok vb (q := (keyTx k', dvOf d)) (List.mem_map.mpr ⟨(k', d), hm, rfl⟩)
    cases k' with
    | str s =>
      obtain rfl := eqv_str hk
      exact ⟨s, _, _, rfl, He.glo_ok X G (fact (.glo (nmAt M.S.gdl x)) (by unfold Md.fa; simp only [List.mem_append, List.mem_map]; exact .inr ⟨_, ho, rfl⟩)), ⟨es, n, u, kd.1, kd.2, hu, ru⟩, rep_okD o6.2 K⟩
    | _ => cases o6.1
  · have hin : M.P.gds.getD i [] ∈ M.P.gds := by
      rw [List.getD_eq_getElem?_getD, List.getElem?_eq_getElem (by omega)]
      exact List.getElem_mem _
    have o6 := o3 _ hin
    cases e : M.P.gds.getD i [] with
    | nil => rw [e] at o6; exact absurd o6.2 (by simp)
    | cons p r =>
      rw [e] at o6
      have o7 := o6.1 p List.mem_cons_self
      obtain ⟨a, b⟩ := p
      cases a with
      | str s => exact ⟨.str s, b, by unfold lookD; rw [if_pos (by simp [D.eqv])]⟩
      | _ => cases o7.1
  · have q := o4 (i, D) (memD e)
    simp only [Bool.and_eq_true, List.isEmpty_iff] at q
    obtain ⟨fd, F⟩ := He.SaysD.defs c0.t.d (d := D.d) (List.mem_map.mpr ⟨(i, D), memD e, rfl⟩)
    have e2 : D.d.kws K = [] := by unfold He.DefD.kws; rw [q.1.2]; rfl
    rw [e2] at F
    exact ⟨fd, F⟩
  · have q := (o4 (i, D) (memD e))
    simp only [hk, Bool.and_eq_true, decide_eq_true_eq] at q
    rw [q.2]
    exact He.glo_ok X G (fact (.glo D.d.name) (by unfold Md.fa; simp only [List.mem_append, List.mem_flatMap]; exact .inl (.inl (.inl (.inl (.inl (.inr ⟨(i, D), memD e, by rw [hk]; simp⟩)))))))
  · have q := (o4 (i, D) (memD e))
    simp only [hk, Bool.and_eq_true, decide_eq_true_eq] at q
    rw [q.2]
    have mem : ∀ f, f ∈ [He.Fa.cls (M.cn c), He.Fa.meth (M.cn c) (nmAt M.S.mnl m)] → f ∈ M.fa := fun f hf => by unfold Md.fa; simp only [List.mem_append, List.mem_flatMap]; exact .inl (.inl (.inl (.inl (.inl (.inr ⟨(i, D), memD e, by rw [hk]; exact hf⟩)))))
    exact ⟨He.cls_ok (fact _ (mem _ (by simp))), He.meth_ok (fact _ (mem _ (by simp)))⟩
  · have q := (o4 (i, D) (memD e))
    simp only [hk, Bool.and_eq_true, decide_eq_true_eq] at q
    rw [q.2]
    have mem : ∀ f, f ∈ [He.Fa.glo (M.cn c), He.Fa.mkr (M.cn c)] → f ∈ M.fa := fun f hf => by unfold Md.fa; simp only [List.mem_append, List.mem_flatMap]; exact .inl (.inl (.inl (.inl (.inl (.inr ⟨(i, D), memD e, by rw [hk]; exact hf⟩)))))
    exact ⟨He.mkr_ok (fact _ (mem _ (by simp))), He.glo_ok X G (fact _ (mem _ (by simp)))⟩
  · have e : (c, f) ∈ M.S.okA := by simpa using e
    have mem : ∀ g, g ∈ [He.Fa.cls (M.cn c), He.Fa.noat (M.cn c) (flOf M.S.fll f)] → g ∈ M.fa := fun g hf => by unfold Md.fa; simp only [List.mem_append, List.mem_flatMap]; exact .inl (.inl (.inl (.inl (.inr ⟨(c, f), e, hf⟩))))
    exact ⟨He.cls_ok (fact _ (mem _ (by simp))), He.noat_ok (fact _ (mem _ (by simp)))⟩
  · have e : c ∈ M.S.okI := by simpa using e
    have mem : ∀ f, f ∈ [He.Fa.cls (M.cn c), He.Fa.glo (M.cn c)] → f ∈ M.fa := fun f hf => by unfold Md.fa; simp only [List.mem_append, List.mem_flatMap]; exact .inl (.inl (.inl (.inl (.inl (.inl (.inl (.inr ⟨c, e, hf⟩)))))))
    have more := c0.more
    unfold Md.ex at more
    simp only [Bool.and_eq_true, List.all_eq_true] at more
    obtain ⟨a, b⟩ := insB_ok (He.cls_ok (fact _ (mem _ (by simp)))) (more.1.2 c e)
    exact ⟨a, b, He.glo_ok X G (fact _ (mem _ (by simp)))⟩
  · have e : c ∈ M.S.zl := by simpa using e
    have q := o5 c e
    have hx : c ∈ M.S.xcl := by simpa using q.1
    obtain ⟨f1, f2, f3, f4⟩ := He.exc_ok (fact (.exc (M.cn c)) (by unfold Md.fa; simp only [List.mem_append, List.mem_map]; exact .inl (.inl (.inl (.inr ⟨c, e, rfl⟩)))))
    have g1 := He.glo_ok X G (fact (.glo (M.cn c)) (by unfold Md.fa; simp only [List.mem_append, List.mem_map]; exact .inl (.inl (.inr ⟨c, hx, rfl⟩))))
    refine ⟨q.1, List.length_eq_zero_iff.mp q.2, fun Y hK hm => ?_⟩
    subst hK hm
    exact ⟨"ValueError", "ValueError.__new__", "ValueError.__init__", He.veBase, PySem.F.excBase_ValueError, f1, g1, f2, raises_own f3 f4⟩
  · have e : c ∈ M.S.xcl := by simpa using e
    exact He.glo_ok X G (fact (.glo (M.cn c)) (by unfold Md.fa; simp only [List.mem_append, List.mem_map]; exact .inl (.inl (.inr ⟨c, e, rfl⟩))))
  · have e : c ∈ M.S.xcl := by simpa using e
    have e' : c' ∈ M.S.xcl := by simpa using e'
    exact He.exm_ok (fact (.exm (M.cn c) (M.cn c') (c == c' || M.P.subs.contains (c, c'))) (by unfold Md.fa; simp only [List.mem_append, List.mem_flatMap, List.mem_map]; exact .inl (.inr ⟨c, e, c', e', rfl⟩)))
end
end My

set_option Elab.async false
set_option linter.all false
set_option maxRecDepth 100000
set_option maxHeartbeats 4000000
/-! Mini25: the law's call. -/
namespace My
open PySem PySem.Spec PyProof.Rows L2

theorem reps_ints {K : PySem.W.Frag} {T : Tb} {F : Hp} {θ : List Addr} : ∀ ns : List Int, Reps K T F θ (ns.map V.int) (ns.map D.int)
  | [] => .nil
  | n :: ns => .cons (.int n) (reps_ints ns)
/-- the script, then True -/
theorem sp_law {K : PySem.W.Frag} {T : Tb} {m : List D → M Rv} {H : Hp} {a : Addr} {ns : List Int} (hS : SqL K H a (ns.map V.int)) (h : ∃ w', m [.kl (ns.map D.int)] [] = .ok (.v (.bl true)) w') :
    SpN K T m 1 [] [.ref a] H (fun v _ => v = .bl true) fun _ _ _ => False := by
  obtain ⟨w', e⟩ := h
  refine ⟨[.ref a], rfl, rfl, H, [], [], [.kl (ns.map D.int)], ⟨fun b o q => .inl q, fun b m => by simp at m, List.nodup_nil, rfl, fun n o q => by simp at q⟩, .cons (.kl hS (reps_ints ns)) .nil, ?_⟩
  rw [e]
  intro F' θ' H' s hl v rv
  cases rv
  rfl
theorem cx_false {P : Program} {w : World} {H : Hp} {s : Shared} {e : Value} {s' : Shared} (h : CX P w [] H s (fun _ _ _ => False) e s') : False := by
  obtain ⟨_, _, _, _, _, _, _, _, _, _, _, _, z⟩ := h
  exact z
/-- the walk of a law, by the evaluator -/
theorem walk_my {l : PySem.W.OpenLaw} {n k i : Nat} {q : Program} {loose : List Str} {XP : (Str → Option Value) → Heap → Prop} {d : DefRec} {x : Str} {M : Md} {D : DefI} (hf : flOk M.S.fll = true) (ok : M.ok = true) (okf : M.okfa = true) (bd : ∀ (i : Nat) (D : DefI), M.at i = some D → BndOk D)
    (hn : l.most = some n) (hn2 : n ≤ sizeLine) (hdf : d.params.defaults = []) (room : Room k callerA) (hD : M.at i = some D) (hkd : D.kd = .fn) (hps : D.ps = [x]) (hnm : D.d.name = d.name)
    (hdl : D.d.dfl = []) (law : ∀ ns : List Int, ns.length ≤ n → ∃ w', den M.P k i [.kl (ns.map My.D.int)] [] = .ok (.v (.bl true)) w') :
    PySem.W.WalkO q loose XP (fun w h => ∃ K : PySem.W.Frag, K.In h ∧ He.SaysX M.fa (M.ds.map (·.2.d)) M.ts [] M.ex w h K) l.row.toRowW d [] (fun f vs => PySem.call f vs) := by
  refine Att.attach_call hn hdf fun w s₀ s₁ mg mb fa o pm cd doc a vs ns top says ho hd hcd hmg hobj hints hlen hg => ?_
  obtain ⟨K, KX, c⟩ := says
  have W := wf_of okf bd KX top.T.g c
  obtain ⟨fd, FD⟩ := W.fd i D hD
  have ea : fa = He.fAd K D.d.at_ := by
    have e1 := W.fn i D hD hkd
    rw [hnm, hmg] at e1
    cases e1
    rfl
  subst ea
  have bA : ∀ (s : Shared) (u : Value), BindsTo s fd ⟨[u], []⟩ [(x, u)] := fun s u => by
    have e0 : D.d.dvs K = [] := by unfold He.DefD.dvs; rw [hdl]; rfl
    have FD0 := FD
    rw [e0] at FD0
    have b0 := ((bd i D hD).resolve_right fun z => z.1 hdl).2
    have := FunD.bindsA (ps := D.ps) FD0 b0 s [u] (by rw [hps]; rfl)
    rw [hps] at this
    exact this
  refine law_call (CX := L2.CX l.prog w) KX top.T.g top.T.b top.T.builtins top.T.nolimit hg hobj hints (Nat.le_trans hlen hn2) room (fun base _ _ => ?_) bA (fun H _ hS => sp_law (T := M.tb hf fun c => He.ga K (M.cn c)) hS (law ns hlen)) fun H e s' => cx_false
  have fok := (lv (hf := hf) (P := l.prog) (base := base) W ok k).fn i D fd hD (fun c z => by rw [hkd] at z; cases z) FD
  rw [hps] at fok
  exact fok
end My

set_option Elab.async false
set_option linter.all false
set_option maxRecDepth 100000
/-! PG: the bodies of all defs (printed by gen2.py). -/
namespace My
def ABC : List Nat := [97, 98, 99, 100, 101, 102]
def K03 : List Nat := [48, 49, 50, 51]
def e_law_k14_1 : E := (.idx (.cst (.str ABC)) (.call 3 (.cons (.var 1) (.cons (.cst (.int 6)) .nil))))
def l_law_k14_1 : Ss := (.cons (.asg 9 (.cst (.str [101, 109, 112, 116, 121]))) (.cons (.ife (.e (.cmp .lt (.var 5) (.bi .len (.cons (.var 3) .nil)))) (.cons (.asg 9 (.idx (.var 3) (.var 5))) .nil) .nil) (.cons (.ife (.or (.e (.cmp .ne (.met 6 12 1 (.var 4) .nil) (.slc (.var 3) (.so (.var 5)) .no))) (.e (.cmp .ne (.call 5 (.cons (.var 4) .nil)) (.var 9)))) (.cons (.ret (.cst (.bl false))) .nil) .nil) .nil)))
def e_law_k14_2 : E := (.tup (.cons (.var 11) (.cons (.cst (.str [])) .nil)))
def e_law_k14_3 : E := (.call 11 (.cons (.var 7) (.cons (.var 8) (.cons (.var 10) .nil))))
def e_law_k14_4 : E := (.call 11 (.cons (.var 3) (.cons (.var 8) (.cons (.var 10) .nil))))
def b_law_k14 : Ss := (.cons (.asg 1 (.al (.call 1 (.cons (.var 0) .nil)))) (.cons (.asg 2 (.call 2 (.cons (.var 1) .nil))) (.cons (.asg 3 (.sm .join (.cst (.str [])) (.lc (.nm 5) (.rng1 (.call 3 (.cons (.var 1) (.cons (.cst (.int 13)) .nil)))) .no e_law_k14_1))) (.cons (.asg 4 (.al (.mk 4 12 (.cons (.var 3) .nil)))) (.cons (.forr (.nm 5) (.rng1 (.call 3 (.cons (.var 1) (.cons (.cst (.int 15)) .nil)))) l_law_k14_1) (.cons (.asg 6 (.call 7 (.cons (.lst (.cons (.var 2) (.cons (.cst .non) (.cons (.cst (.str ABC)) (.cons (.cst (.str ABC)) (.cons (.cst (.str [])) .nil)))))) (.cons (.var 3) .nil)))) (.cons (.ife (.not (.e (.call 8 (.cons (.call 9 (.cons (.var 3) (.cons (.var 2) .nil))) (.cons (.var 6) .nil))))) (.cons (.ret (.cst (.bl false))) .nil) .nil) (.cons (.ife (.not (.e (.call 8 (.cons (.call 10 (.cons (.var 3) (.cons (.var 2) .nil))) (.cons (.lc (.tp [11, 12]) (.on (.var 6)) .no e_law_k14_2) .nil))))) (.cons (.ret (.cst (.bl false))) .nil) .nil) (.cons (.asg 7 (.idx (.lst (.cons (.cst (.str [103])) (.cons (.cst .non) (.cons (.cst (.int 5)) (.cons (.lst (.cons (.cst (.str [97])) .nil)) (.cons (.cst (.str [97, 32])) .nil)))))) (.call 3 (.cons (.var 1) (.cons (.cst (.int 5)) .nil))))) (.cons (.asg 8 (.idx (.lst (.cons (.cst (.str [48, 48, 48, 48, 48])) (.cons (.cst .non) (.cons (.cst (.str [48, 48, 48, 48, 48, 52])) (.cons (.cst (.int 5)) .nil))))) (.call 3 (.cons (.var 1) (.cons (.cst (.int 4)) .nil))))) (.cons (.ife (.e (.cmp .ne (.lc (.nm 10) (.on (.lst (.cons (.cst (.int 0)) (.cons (.cst (.int 1)) (.cons (.cst (.int 2)) .nil))))) .no e_law_k14_3) (.lst (.cons (.cst (.str [105, 116, 101, 109, 115])) (.cons (.cst (.str [105, 116, 101, 109, 115])) (.cons (.cst (.str [105, 116, 101, 109, 115])) .nil)))))) (.cons (.ret (.cst (.bl false))) .nil) .nil) (.cons (.ret (.cmp .eq (.lc (.nm 10) (.on (.lst (.cons (.cst (.int 0)) (.cons (.cst (.int 1)) .nil)))) .no e_law_k14_4) (.lst (.cons (.cst (.str [116, 97, 98, 108, 101])) (.cons (.cst (.str [116, 97, 98, 108, 101])) .nil))))) .nil))))))))))))
def b__law_begin : Ss := (.cons (.ret (.lst (.cons (.bi .list (.cons (.var 0) .nil)) (.cons (.cst (.int 0)) (.cons (.cst (.int 0)) (.cons (.cst (.int 7)) .nil)))))) .nil)
def e__law_table_1 : E := (.idx (.cst (.str K03)) (.call 3 (.cons (.var 0) (.cons (.var 1) .nil))))
def b__law_table : Ss := (.cons (.asg 1 (.idx (.lst (.cons (.cst (.int 2)) (.cons (.cst (.int 2)) (.cons (.cst (.int 3)) (.cons (.cst (.int 4)) (.cons (.cst (.int 1)) .nil)))))) (.call 3 (.cons (.var 0) (.cons (.cst (.int 5)) .nil))))) (.cons (.ret (.sm .join (.cst (.str [])) (.lc (.nm 2) (.rng1 (.cst (.int 6))) .no e__law_table_1))) .nil))
def b__law_draw : Ss := (.cons (.ife (.e (.cmp .eq (.idx (.var 0) (.cst (.int 2))) (.cst (.int 0)))) (.cons (.ife (.e (.cmp .lt (.idx (.var 0) (.cst (.int 1))) (.bi .len (.cons (.idx (.var 0) (.cst (.int 0))) .nil)))) (.cons (.asg 3 (.idx (.idx (.var 0) (.cst (.int 0))) (.idx (.var 0) (.cst (.int 1))))) (.cons (.setR (.var 0) (.cst (.int 1)) (.op .add (.idx (.var 0) (.cst (.int 1))) (.cst (.int 1)))) (.cons (.ife (.e (.cmp .ge (.var 3) (.op .pow (.cst (.int 10)) (.cst (.int 18))))) (.cons (.setR (.var 0) (.cst (.int 2)) (.var 3)) .nil) (.cons (.setR (.var 0) (.cst (.int 3)) (.op .mod (.bi .int (.cons (.op .add (.op .add (.op .mul (.idx (.var 0) (.cst (.int 3))) (.cst (.int 48271))) (.op .mul (.var 3) (.cst (.int 69621)))) (.cst (.int 11))) .nil)) (.cst (.int 2147483647)))) .nil)) .nil))) (.cons (.setR (.var 0) (.cst (.int 3)) (.op .mod (.bi .int (.cons (.op .add (.op .mul (.idx (.var 0) (.cst (.int 3))) (.cst (.int 48271))) (.cst (.int 7))) .nil)) (.cst (.int 2147483647)))) .nil)) .nil) .nil) (.cons (.ife (.e (.cmp .gt (.idx (.var 0) (.cst (.int 2))) (.cst (.int 0)))) (.cons (.asg 2 (.op .mod (.bi .int (.cons (.idx (.var 0) (.cst (.int 2))) .nil)) (.var 1))) (.cons (.setR (.var 0) (.cst (.int 2)) (.op .fdiv (.idx (.var 0) (.cst (.int 2))) (.var 1))) (.cons (.ret (.var 2)) .nil))) .nil) (.cons (.ret (.op .mod (.op .mod (.bi .int (.cons (.op .mul (.idx (.var 0) (.cst (.int 3))) (.cst (.int 16807))) .nil)) (.cst (.int 2147483629))) (.var 1))) .nil)))
def b_Stream__init__ : Ss := (.cons (.exp (.call 12 (.cons (.var 1) .nil))) (.cons (.setS 12 0 (.var 1)) .nil))
def b__law_taken_k14 : Ss := (.cons (.asg 1 (.cst .non)) (.cons (.tri (.cons (.asg 1 (.met 13 12 0 (.var 0) .nil)) .nil) (.cons 5 none (.cons (.asg 1 (.cst (.str [101, 109, 112, 116, 121]))) .nil) .nil)) (.cons (.ret (.var 1)) .nil)))
def b_Stream_left : Ss := (.cons (.ret (.fld 12 0 (.var 0))) .nil)
def l__law_groups_1 : Ss := (.cons (.ife (.e (.cmp .isin (.var 3) (.idx (.var 0) (.cst (.int 2))))) (.cons (.asg 4 (.idx (.idx (.var 0) (.cst (.int 3))) (.sm .index (.cst (.str ABC)) (.var 3)))) (.cons (.asg 5 (.idx (.idx (.var 0) (.cst (.int 0))) (.sm .index (.cst (.str ABC)) (.var 4)))) (.cons (.ife (.e (.cmp .nin (.var 5) (.idx (.var 0) (.cst (.int 4))))) (.cons (.ife (.and (.e (.cmp .gt (.bi .len (.cons (.var 2) .nil)) (.cst (.int 0)))) (.e (.cmp .eq (.idx (.idx (.var 2) (.neg (.cst (.int 1)))) (.cst (.int 0))) (.var 5)))) (.cons (.setI 2 (.neg (.cst (.int 1))) (.tup (.cons (.var 5) (.cons (.op .add (.idx (.idx (.var 2) (.neg (.cst (.int 1)))) (.cst (.int 1))) (.var 4)) .nil)))) .nil) (.cons (.app 2 (.tup (.cons (.var 5) (.cons (.var 4) .nil)))) .nil)) .nil) .nil) .nil))) .nil) .nil)
def b__law_groups : Ss := (.cons (.asgO 2 (.lst .nil)) (.cons (.forr (.nm 3) (.on (.var 1)) l__law_groups_1) (.cons (.ret (.var 2)) .nil)))
def l__law_like_1 : Ss := (.cons (.ife (.not (.e (.call 8 (.cons (.idx (.var 0) (.var 2)) (.cons (.idx (.var 1) (.var 2)) .nil))))) (.cons (.ret (.cst (.bl false))) .nil) .nil) .nil)
def b__law_like : Ss := (.cons (.ife (.e (.cmp .isn (.var 1) (.cst .non))) (.cons (.ret (.cmp .isn (.var 0) (.cst .non))) .nil) .nil) (.cons (.ife (.e (.isi .bool (.var 1))) (.cons (.ret (.and (.isi .bool (.var 0)) (.cmp .eq (.var 0) (.var 1)))) .nil) .nil) (.cons (.ife (.e (.isi .int (.var 1))) (.cons (.ret (.and (.isi .int (.var 0)) (.and (.not (.isi .bool (.var 0))) (.cmp .eq (.var 0) (.var 1))))) .nil) .nil) (.cons (.ife (.e (.isi .str (.var 1))) (.cons (.ret (.and (.isi .str (.var 0)) (.cmp .eq (.var 0) (.var 1)))) .nil) .nil) (.cons (.ife (.e (.isi .tup (.var 1))) (.cons (.ife (.or (.not (.e (.isi .tup (.var 0)))) (.e (.cmp .ne (.bi .len (.cons (.var 0) .nil)) (.bi .len (.cons (.var 1) .nil))))) (.cons (.ret (.cst (.bl false))) .nil) .nil) .nil) (.cons (.ife (.or (.not (.e (.isi .lst (.var 0)))) (.e (.cmp .ne (.bi .len (.cons (.var 0) .nil)) (.bi .len (.cons (.var 1) .nil))))) (.cons (.ret (.cst (.bl false))) .nil) .nil) .nil)) (.cons (.forr (.nm 2) (.rng1 (.bi .len (.cons (.var 1) .nil))) l__law_like_1) (.cons (.ret (.cst (.bl true))) .nil)))))))
def t_walk_1 : T := (.e (.cst (.bl true)))
def w_walk_1 : Ss := (.cons (.tri (.cons (.asg 4 (.met 16 14 5 (.var 2) .nil)) .nil) (.cons 5 none (.cons .brk .nil) .nil)) (.cons (.app 3 (.tup (.cons (.fld 13 2 (.var 4)) (.cons (.met 17 13 2 (.var 4) .nil) .nil)))) .nil))
def b_walk : Ss := (.cons (.exp (.call 12 (.cons (.var 0) .nil))) (.cons (.exp (.call 14 (.cons (.var 1) .nil))) (.cons (.asg 2 (.al (.mk 15 14 (.cons (.al (.mk 4 12 (.cons (.var 0) .nil))) (.cons (.var 1) .nil))))) (.cons (.asgO 3 (.lst .nil)) (.cons (.whl t_walk_1 w_walk_1) (.cons (.ret (.var 3)) .nil))))))
def e_walk_late_1 : E := (.tup (.cons (.fld 13 2 (.var 2)) (.cons (.met 17 13 2 (.var 2) .nil) .nil)))
def b_walk_late : Ss := (.cons (.exp (.call 12 (.cons (.var 0) .nil))) (.cons (.exp (.call 14 (.cons (.var 1) .nil))) (.cons (.ret (.lc (.nm 2) (.on (.call 18 (.cons (.var 0) (.cons (.var 1) .nil)))) .no e_walk_late_1)) .nil)))
def b__law_told_k14 : Ss := (.cons (.asg 3 (.cst .non)) (.cons (.tri (.cons (.ife (.e (.cmp .eq (.var 2) (.cst (.int 0)))) (.cons (.asg 3 (.call 9 (.cons (.var 0) (.cons (.var 1) .nil)))) .nil) (.cons (.ife (.e (.cmp .eq (.var 2) (.cst (.int 1)))) (.cons (.asg 3 (.call 10 (.cons (.var 0) (.cons (.var 1) .nil)))) .nil) (.cons (.exp (.al (.mk 4 12 (.cons (.var 0) .nil)))) .nil)) .nil)) .nil) (.cons 4 none (.cons (.asg 3 (.cst (.str [105, 116, 101, 109, 115]))) .nil) (.cons 2 none (.cons (.asg 3 (.cst (.str [116, 97, 98, 108, 101]))) .nil) .nil))) (.cons (.ret (.var 3)) .nil)))
def b_check_items : Ss := (.cons (.ife (.not (.e (.call 19 (.cons (.var 0) (.cons (.glb 0) .nil))))) (.cons (.rse 4 .nil) .nil) .nil) .nil)
def b_Stream_take : Ss := (.cons (.ife (.e (.cmp .eq (.fld 12 0 (.var 0)) (.cst (.str [])))) (.cons (.rse 5 .nil) .nil) .nil) (.cons (.asg 1 (.idx (.fld 12 0 (.var 0)) (.cst (.int 0)))) (.cons (.setF 12 (.var 0) 0 (.slc (.fld 12 0 (.var 0)) (.so (.cst (.int 1))) .no)) (.cons (.ret (.var 1)) .nil))))
def b_check_table : Ss := (.cons (.ife (.not (.e (.call 20 (.cons (.var 0) .nil)))) (.cons (.rse 2 .nil) .nil) .nil) .nil)
def b_Walker__init__ : Ss := (.cons (.setS 14 4 (.var 1)) (.cons (.setS 14 5 (.var 2)) (.cons (.setS 14 3 (.cst (.int 0))) (.cons (.setS 14 2 (.cst .non)) (.cons (.setS 14 6 (.cst (.bl true))) (.cons (.setS 14 7 (.cst .non)) .nil))))))
def t_Walker_ask_1 : T := (.not (.e (.fld 14 6 (.var 0))))
def w_Walker_ask_1 : Ss := (.cons (.exp (.met 21 14 4 (.var 0) (.cons (.fld 14 2 (.var 0)) .nil))) .nil)
def b_Walker_ask : Ss := (.cons (.whl t_Walker_ask_1 w_Walker_ask_1) (.cons (.asg 1 (.met 22 14 3 (.var 0) .nil)) (.cons (.ife (.e (.cmp .isn (.var 1) (.cst .non))) (.cons (.rse 5 .nil) .nil) .nil) (.cons (.setF 14 (.var 0) 7 (.var 1)) (.cons (.setF 14 (.var 0) 2 (.call 23 (.cons (.fld 14 5 (.var 0)) (.cons (.var 1) .nil)))) (.cons (.setF 14 (.var 0) 6 (.cst (.bl false))) (.cons (.augF 14 (.var 0) 3 (.cst (.int 1))) (.cons (.ret (.mk 24 13 (.cons (.var 0) (.cons (.fld 14 2 (.var 0)) (.cons (.fld 14 3 (.var 0)) .nil))))) .nil))))))))
def t_Handle_rest_1 : T := (.e (.cmp .notn (.var 2) (.cst .non)))
def w_Handle_rest_1 : Ss := (.cons (.asg 1 (.op .add (.var 1) (.var 2))) (.cons (.asg 2 (.met 21 14 4 (.fld 13 1 (.var 0)) (.cons (.fld 13 2 (.var 0)) .nil))) .nil))
def b_Handle_rest : Ss := (.cons (.asg 1 (.cst (.str []))) (.cons (.ife (.e (.cmp .ne (.fld 13 3 (.var 0)) (.fld 14 3 (.fld 13 1 (.var 0))))) (.cons (.ret (.var 1)) .nil) .nil) (.cons (.asg 2 (.met 21 14 4 (.fld 13 1 (.var 0)) (.cons (.fld 13 2 (.var 0)) .nil))) (.cons (.whl t_Handle_rest_1 w_Handle_rest_1) (.cons (.ret (.var 1)) .nil)))))
def t_handles_of_1 : T := (.e (.cst (.bl true)))
def w_handles_of_1 : Ss := (.cons (.tri (.cons (.app 3 (.met 16 14 5 (.var 2) .nil)) .nil) (.cons 5 none (.cons .brk .nil) .nil)) .nil)
def b_handles_of : Ss := (.cons (.asg 2 (.al (.mk 15 14 (.cons (.al (.mk 4 12 (.cons (.var 0) .nil))) (.cons (.var 1) .nil))))) (.cons (.asgO 3 (.lst .nil)) (.cons (.whl t_handles_of_1 w_handles_of_1) (.cons (.ret (.var 3)) .nil))))
def e_is_of_1 : E := (.cmp .isin (.var 2) (.var 1))
def b_is_of : Ss := (.cons (.ret (.and (.isi .str (.var 0)) (.bi .all (.cons (.lc (.nm 2) (.on (.var 0)) .no e_is_of_1) .nil)))) .nil)
def b_is_table : Ss := (.cons (.ret (.and (.call 19 (.cons (.var 0) (.cons (.glb 1) .nil))) (.cmp .eq (.bi .len (.cons (.var 0) .nil)) (.bi .len (.cons (.glb 0) .nil))))) .nil)
def b_Walker_next_of : Ss := (.cons (.ife (.e (.fld 14 6 (.var 0))) (.cons (.ret (.cst .non)) .nil) .nil) (.cons (.asg 2 (.met 22 14 3 (.var 0) .nil)) (.cons (.ife (.or (.e (.cmp .isn (.var 2) (.cst .non))) (.e (.cmp .ne (.call 23 (.cons (.fld 14 5 (.var 0)) (.cons (.var 2) .nil))) (.var 1)))) (.cons (.setF 14 (.var 0) 6 (.cst (.bl true))) (.cons (.setF 14 (.var 0) 7 (.var 2)) (.cons (.ret (.cst .non)) .nil))) .nil) (.cons (.ret (.var 2)) .nil))))
def b_Walker_taken : Ss := (.cons (.asg 1 (.fld 14 7 (.var 0))) (.cons (.setF 14 (.var 0) 7 (.cst .non)) (.cons (.ife (.and (.e (.cmp .isn (.var 1) (.cst .non))) (.e (.cmp .ne (.met 6 12 1 (.fld 14 4 (.var 0)) .nil) (.cst (.str []))))) (.cons (.asg 1 (.met 13 12 0 (.fld 14 4 (.var 0)) .nil)) .nil) .nil) (.cons (.ret (.var 1)) .nil))))
def b_key_of : Ss := (.cons (.ret (.idx (.var 0) (.gix 0 (.var 1)))) .nil)
def b_Handle__init__ : Ss := (.cons (.setS 13 1 (.var 1)) (.cons (.setS 13 2 (.var 2)) (.cons (.setS 13 3 (.var 3)) .nil)))
def e_law_k01_1 : E := (.cmp .isin (.var 7) (.cst (.str K03)))
def e_law_k01_2 : E := (.idx (.cst (.str ABC)) (.call 3 (.cons (.var 1) (.cons (.cst (.int 6)) .nil))))
def e_law_k01_3 : E := (.cmp .eq (.call 23 (.cons (.var 2) (.cons (.var 7) .nil))) (.idx (.var 2) (.sm .index (.cst (.str ABC)) (.var 7))))
def e_law_k01_4 : E := (.tup (.cons (.idx (.var 2) (.sm .index (.cst (.str ABC)) (.idx (.var 4) (.var 6)))) (.cons (.var 6) .nil)))
def e_law_k01_5 : E := (.idx (.var 4) (.var 6))
def s_law_k01_0 : S := (.asg 1 (.al (.call 1 (.cons (.var 0) .nil))))
def s_law_k01_1 : S := (.asg 2 (.call 2 (.cons (.var 1) .nil)))
def s_law_k01_2 : S := (.ife (.e (.cmp .eq (.call 3 (.cons (.var 1) (.cons (.cst (.int 4)) .nil))) (.cst (.int 0)))) (.cons (.asg 2 (.idx (.lst (.cons (.cst (.str [48, 48, 48, 48, 48])) (.cons (.cst (.str [48, 48, 48, 48, 48, 48, 48])) (.cons (.cst (.str [48, 48, 48, 48, 48, 52])) (.cons (.cst (.str [48, 48, 48, 48, 48, 97])) (.cons (.cst .non) (.cons (.cst (.int 5)) (.cons (.tup (.cons (.cst (.str [48])) .nil)) (.cons (.cst (.str [])) (.cons (.cst (.str [51, 51, 51, 51, 51, 51])) .nil)))))))))) (.call 3 (.cons (.var 1) (.cons (.cst (.int 9)) .nil))))) .nil) .nil)
def s_law_k01_3 : S := (.asg 3 (.and (.isi .str (.var 2)) (.and (.cmp .eq (.bi .len (.cons (.var 2) .nil)) (.cst (.int 6))) (.bi .all (.cons (.lc (.nm 7) (.on (.var 2)) .no e_law_k01_1) .nil)))))
def s_law_k01_4 : S := (.ife (.not (.e (.call 8 (.cons (.call 20 (.cons (.var 2) .nil)) (.cons (.var 3) .nil))))) (.cons (.ret (.cst (.bl false))) .nil) .nil)
def s_law_k01_5 : S := (.asg 4 (.sm .join (.cst (.str [])) (.lc (.nm 6) (.rng1 (.call 3 (.cons (.var 1) (.cons (.cst (.int 11)) .nil)))) .no e_law_k01_2)))
def s_law_k01_6 : S := (.ife (.e (.cmp .eq (.call 3 (.cons (.var 1) (.cons (.cst (.int 5)) .nil))) (.cst (.int 0)))) (.cons (.asg 4 (.idx (.lst (.cons (.cst (.str [103])) (.cons (.cst (.str [65])) (.cons (.cst (.str [97, 98, 32])) (.cons (.cst .non) (.cons (.cst (.int 5)) (.cons (.lst (.cons (.cst (.str [97])) .nil)) .nil))))))) (.call 3 (.cons (.var 1) (.cons (.cst (.int 6)) .nil))))) (.cons (.ret (.cmp .eq (.call 26 (.cons (.var 4) (.cons (.var 2) .nil))) (.tup (.cons (.cst (.str [105, 116, 101, 109, 115])) .nil)))) .nil)) .nil)
def s_law_k01_7 : S := (.ife (.not (.e (.var 3))) (.cons (.ret (.cmp .eq (.call 26 (.cons (.var 4) (.cons (.var 2) .nil))) (.tup (.cons (.cst (.str [116, 97, 98, 108, 101])) .nil)))) .nil) .nil)
def s_law_k01_8 : S := (.ife (.not (.e (.bi .all (.cons (.lc (.nm 7) (.on (.cst (.str ABC))) .no e_law_k01_3) .nil)))) (.cons (.ret (.cst (.bl false))) .nil) .nil)
def s_law_k01_9 : S := (.asg 5 (.lc (.nm 6) (.rng1 (.bi .len (.cons (.var 4) .nil))) .no e_law_k01_4))
def s_law_k01_10 : S := (.ret (.call 8 (.cons (.call 26 (.cons (.var 4) (.cons (.var 2) .nil))) (.cons (.sm .join (.cst (.str [])) (.lc (.tp [8, 6]) (.on (.bi .sorted (.cons (.var 5) .nil))) .no e_law_k01_5)) .nil))))
def r_law_k01_10 : Ss := (.cons s_law_k01_10 .nil)
def r_law_k01_9 : Ss := (.cons s_law_k01_9 r_law_k01_10)
def r_law_k01_8 : Ss := (.cons s_law_k01_8 r_law_k01_9)
def r_law_k01_7 : Ss := (.cons s_law_k01_7 r_law_k01_8)
def r_law_k01_6 : Ss := (.cons s_law_k01_6 r_law_k01_7)
def r_law_k01_5 : Ss := (.cons s_law_k01_5 r_law_k01_6)
def r_law_k01_4 : Ss := (.cons s_law_k01_4 r_law_k01_5)
def r_law_k01_3 : Ss := (.cons s_law_k01_3 r_law_k01_4)
def r_law_k01_2 : Ss := (.cons s_law_k01_2 r_law_k01_3)
def r_law_k01_1 : Ss := (.cons s_law_k01_1 r_law_k01_2)
def r_law_k01_0 : Ss := (.cons s_law_k01_0 r_law_k01_1)
def b_law_k01 : Ss := r_law_k01_0
def b__law_told_k01 : Ss := (.cons (.asg 2 (.cst .non)) (.cons (.tri (.cons (.asg 2 (.call 27 (.cons (.var 0) (.cons (.var 1) .nil)))) .nil) (.cons 4 none (.cons (.asg 2 (.tup (.cons (.cst (.str [105, 116, 101, 109, 115])) .nil))) .nil) (.cons 2 none (.cons (.asg 2 (.tup (.cons (.cst (.str [116, 97, 98, 108, 101])) .nil))) .nil) .nil))) (.cons (.ret (.var 2)) .nil)))
def c_sort_items_1 : Ot := (.so (.e (.cmp .eq (.call 23 (.cons (.var 1) (.cons (.var 4) .nil))) (.var 3))))
def e_sort_items_1 : E := (.var 4)
def l_sort_items_1 : Ss := (.cons (.asg 2 (.op .add (.var 2) (.sm .join (.cst (.str [])) (.lc (.nm 4) (.on (.var 0)) c_sort_items_1 e_sort_items_1)))) .nil)
def b_sort_items : Ss := (.cons (.exp (.call 12 (.cons (.var 0) .nil))) (.cons (.exp (.call 14 (.cons (.var 1) .nil))) (.cons (.asg 2 (.cst (.str []))) (.cons (.forr (.nm 3) (.on (.glb 1)) l_sort_items_1) (.cons (.ret (.var 2)) .nil)))))
def e_law_k15_1 : E := (.idx (.cst (.str ABC)) (.call 3 (.cons (.var 1) (.cons (.cst (.int 6)) .nil))))
def e_law_k15_2 : E := (.var 11)
def l_law_k15_1 : Ss := (.cons (.asg 10 (.call 3 (.cons (.var 1) (.cons (.cst (.int 8)) .nil)))) (.cons (.ife (.e (.cmp .le (.var 10) (.cst (.int 2)))) (.cons (.asg 12 (.call 30 (.cons (.var 5) .nil))) (.cons (.asg 13 (.call 31 (.cons (.var 7) (.cons (.var 6) .nil)))) (.cons (.ife (.e (.cmp .ne (.cmp .isn (.var 12) (.cst .non)) (.cmp .isn (.var 13) (.cst .non)))) (.cons (.ret (.cst (.bl false))) .nil) .nil) (.cons (.ife (.e (.cmp .notn (.var 13) (.cst .non))) (.cons (.ife (.e (.cmp .ne (.fld 13 2 (.var 12)) (.idx (.var 13) (.cst (.int 1))))) (.cons (.ret (.cst (.bl false))) .nil) .nil) (.cons (.app 8 (.lst (.cons (.var 12) (.cons (.idx (.var 13) (.cst (.int 0))) .nil)))) .nil)) .nil) .nil)))) (.cons (.ife (.e (.cmp .eq (.var 10) (.cst (.int 3)))) (.cons (.ife (.e (.cmp .ne (.met 6 12 1 (.var 4) .nil) (.sm .join (.cst (.str [])) (.var 6)))) (.cons (.ret (.cst (.bl false))) .nil) .nil) (.cons (.ife (.and (.e (.cmp .gt (.bi .len (.cons (.var 6) .nil)) (.cst (.int 0)))) (.e (.cmp .ne (.met 13 12 0 (.var 4) .nil) (.popR0 (.var 6) (.cst (.int 0)))))) (.cons (.ret (.cst (.bl false))) .nil) .nil) .nil)) (.cons (.ife (.e (.cmp .gt (.bi .len (.cons (.var 8) .nil)) (.cst (.int 0)))) (.cons (.asg 14 (.idx (.var 8) (.op .sub (.op .sub (.bi .len (.cons (.var 8) .nil)) (.cst (.int 1))) (.op .mod (.call 3 (.cons (.var 1) (.cons (.cst (.int 2)) .nil))) (.bi .len (.cons (.var 8) .nil)))))) (.cons (.ife (.e (.cmp .le (.var 10) (.cst (.int 6)))) (.cons (.ife (.e (.cmp .ne (.call 32 (.cons (.idx (.var 14) (.cst (.int 0))) .nil)) (.call 33 (.cons (.var 7) (.cons (.var 6) (.cons (.idx (.var 14) (.cst (.int 1))) .nil)))))) (.cons (.ret (.cst (.bl false))) .nil) .nil) .nil) (.cons (.ife (.e (.cmp .ne (.met 17 13 2 (.idx (.var 14) (.cst (.int 0))) .nil) (.call 34 (.cons (.var 7) (.cons (.var 6) (.cons (.idx (.var 14) (.cst (.int 1))) .nil)))))) (.cons (.ret (.cst (.bl false))) .nil) .nil) .nil)) .nil)) .nil) .nil)) .nil)) (.cons (.ife (.e (.cmp .ne (.met 6 12 1 (.var 4) .nil) (.sm .join (.cst (.str [])) (.var 6)))) (.cons (.ret (.cst (.bl false))) .nil) .nil) .nil)))
def s_law_k15_0 : S := (.asg 1 (.al (.call 1 (.cons (.var 0) .nil))))
def s_law_k15_1 : S := (.asg 2 (.call 2 (.cons (.var 1) .nil)))
def s_law_k15_2 : S := (.asg 3 (.sm .join (.cst (.str [])) (.lc (.nm 9) (.rng1 (.call 3 (.cons (.var 1) (.cons (.cst (.int 15)) .nil)))) .no e_law_k15_1)))
def s_law_k15_3 : S := (.asg 4 (.al (.mk 4 12 (.cons (.var 3) .nil))))
def s_law_k15_4 : S := (.asg 5 (.al (.mk 15 14 (.cons (.var 4) (.cons (.var 2) .nil)))))
def s_law_k15_5 : S := (.asg 6 (.al (.lc (.nm 11) (.on (.var 3)) .no e_law_k15_2)))
def s_law_k15_6 : S := (.asg 7 (.al (.call 29 (.cons (.var 2) .nil))))
def s_law_k15_7 : S := (.asgO 8 (.lst .nil))
def s_law_k15_8 : S := (.forr (.nm 9) (.rng1 (.call 3 (.cons (.var 1) (.cons (.cst (.int 21)) .nil)))) l_law_k15_1)
def s_law_k15_9 : S := (.ret (.cst (.bl true)))
def r_law_k15_9 : Ss := (.cons s_law_k15_9 .nil)
def r_law_k15_8 : Ss := (.cons s_law_k15_8 r_law_k15_9)
def r_law_k15_7 : Ss := (.cons s_law_k15_7 r_law_k15_8)
def r_law_k15_6 : Ss := (.cons s_law_k15_6 r_law_k15_7)
def r_law_k15_5 : Ss := (.cons s_law_k15_5 r_law_k15_6)
def r_law_k15_4 : Ss := (.cons s_law_k15_4 r_law_k15_5)
def r_law_k15_3 : Ss := (.cons s_law_k15_3 r_law_k15_4)
def r_law_k15_2 : Ss := (.cons s_law_k15_2 r_law_k15_3)
def r_law_k15_1 : Ss := (.cons s_law_k15_1 r_law_k15_2)
def r_law_k15_0 : Ss := (.cons s_law_k15_0 r_law_k15_1)
def b_law_k15 : Ss := r_law_k15_0
def b__law_new_k15 : Ss := (.cons (.asgO 1 .dct0) (.cons (.setI 1 (.cst (.str [116, 97, 98, 108, 101])) (.var 0)) (.cons (.setI 1 (.cst (.str [104, 101, 108, 100])) (.cst (.str []))) (.cons (.setI 1 (.cst (.str [110, 117, 109, 98, 101, 114])) (.cst (.int 0))) (.cons (.setI 1 (.cst (.str [111, 118, 101, 114])) (.cst (.bl true))) (.cons (.setI 1 (.cst (.str [107, 101, 121])) (.cst (.str []))) (.cons (.ret (.var 1)) .nil)))))))
def b__law_asked : Ss := (.cons (.asg 1 (.cst .non)) (.cons (.tri (.cons (.asg 1 (.met 16 14 5 (.var 0) .nil)) .nil) (.cons 5 none (.cons (.asg 1 (.cst .non)) .nil) .nil)) (.cons (.ret (.var 1)) .nil)))
def t__law_ask_1 : T := (.not (.e (.idx (.var 0) (.cst (.str [111, 118, 101, 114])))))
def w__law_ask_1 : Ss := (.cons (.exp (.call 35 (.cons (.var 0) (.cons (.var 1) .nil)))) .nil)
def b__law_ask : Ss := (.cons (.whl t__law_ask_1 w__law_ask_1) (.cons (.asg 2 (.call 36 (.cons (.var 0) (.cons (.var 1) .nil)))) (.cons (.ife (.e (.cmp .eq (.var 2) (.cst (.str [])))) (.cons (.ret (.cst .non)) .nil) .nil) (.cons (.setR (.var 0) (.cst (.str [104, 101, 108, 100])) (.var 2)) (.cons (.setR (.var 0) (.cst (.str [107, 101, 121])) (.idx (.idx (.var 0) (.cst (.str [116, 97, 98, 108, 101]))) (.sm .index (.cst (.str ABC)) (.var 2)))) (.cons (.setR (.var 0) (.cst (.str [111, 118, 101, 114])) (.cst (.bl false))) (.cons (.setR (.var 0) (.cst (.str [110, 117, 109, 98, 101, 114])) (.op .add (.idx (.var 0) (.cst (.str [110, 117, 109, 98, 101, 114]))) (.cst (.int 1)))) (.cons (.ret (.lst (.cons (.idx (.var 0) (.cst (.str [110, 117, 109, 98, 101, 114]))) (.cons (.idx (.var 0) (.cst (.str [107, 101, 121]))) .nil)))) .nil))))))))
def b__law_item : Ss := (.cons (.asg 1 (.cst (.str []))) (.cons (.tri (.cons (.asg 1 (.met 37 13 0 (.var 0) .nil)) .nil) (.cons 6 none (.cons (.asg 1 (.cst (.str []))) .nil) .nil)) (.cons (.ret (.var 1)) .nil)))
def b__law_taken_k15 : Ss := (.cons (.ife (.e (.cmp .ne (.var 2) (.idx (.var 0) (.cst (.str [110, 117, 109, 98, 101, 114]))))) (.cons (.ret (.cst (.str []))) .nil) .nil) (.cons (.ret (.call 35 (.cons (.var 0) (.cons (.var 1) .nil)))) .nil))
def t__law_rest_1 : T := (.e (.cmp .ne (.var 4) (.cst (.str []))))
def w__law_rest_1 : Ss := (.cons (.asg 3 (.op .add (.var 3) (.var 4))) (.cons (.asg 4 (.call 33 (.cons (.var 0) (.cons (.var 1) (.cons (.var 2) .nil))))) .nil))
def b__law_rest : Ss := (.cons (.asg 3 (.cst (.str []))) (.cons (.asg 4 (.call 33 (.cons (.var 0) (.cons (.var 1) (.cons (.var 2) .nil))))) (.cons (.whl t__law_rest_1 w__law_rest_1) (.cons (.ret (.var 3)) .nil))))
def b__law_further : Ss := (.cons (.ife (.e (.idx (.var 0) (.cst (.str [111, 118, 101, 114])))) (.cons (.ret (.cst (.str []))) .nil) .nil) (.cons (.asg 2 (.call 36 (.cons (.var 0) (.cons (.var 1) .nil)))) (.cons (.ife (.or (.e (.cmp .eq (.var 2) (.cst (.str [])))) (.e (.cmp .ne (.idx (.idx (.var 0) (.cst (.str [116, 97, 98, 108, 101]))) (.sm .index (.cst (.str ABC)) (.var 2))) (.idx (.var 0) (.cst (.str [107, 101, 121])))))) (.cons (.setR (.var 0) (.cst (.str [111, 118, 101, 114])) (.cst (.bl true))) (.cons (.setR (.var 0) (.cst (.str [104, 101, 108, 100])) (.var 2)) (.cons (.ret (.cst (.str []))) .nil))) .nil) (.cons (.ret (.var 2)) .nil))))
def b__law_pull : Ss := (.cons (.asg 2 (.idx (.var 0) (.cst (.str [104, 101, 108, 100])))) (.cons (.setR (.var 0) (.cst (.str [104, 101, 108, 100])) (.cst (.str []))) (.cons (.ife (.and (.e (.cmp .eq (.var 2) (.cst (.str [])))) (.e (.cmp .gt (.bi .len (.cons (.var 1) .nil)) (.cst (.int 0))))) (.cons (.asg 2 (.popR0 (.var 1) (.cst (.int 0)))) .nil) .nil) (.cons (.ret (.var 2)) .nil))))
def b_Handle_take : Ss := (.cons (.ife (.e (.cmp .ne (.fld 13 3 (.var 0)) (.fld 14 3 (.fld 13 1 (.var 0))))) (.cons (.rse 6 .nil) .nil) .nil) (.cons (.asg 1 (.met 21 14 4 (.fld 13 1 (.var 0)) (.cons (.fld 13 2 (.var 0)) .nil))) (.cons (.ife (.e (.cmp .isn (.var 1) (.cst .non))) (.cons (.rse 6 .nil) .nil) .nil) (.cons (.ret (.var 1)) .nil))))
def e_law_k16_1 : E := (.idx (.cst (.str ABC)) (.call 3 (.cons (.var 1) (.cons (.cst (.int 6)) .nil))))
def e_law_k16_2 : E := (.var 11)
def e_law_k16_3 : E := (.al (.mk 15 14 (.cons (.var 4) (.cons (.var 12) .nil))))
def e_law_k16_4 : E := (.al (.call 29 (.cons (.var 12) .nil)))
def l_law_k16_1 : Ss := (.cons (.asg 10 (.call 3 (.cons (.var 1) (.cons (.cst (.int 2)) .nil)))) (.cons (.ife (.or (.e (.cmp .eq (.call 3 (.cons (.var 1) (.cons (.cst (.int 3)) .nil))) (.cst (.int 0)))) (.e (.cmp .eq (.bi .len (.cons (.idx (.var 8) (.var 10)) .nil)) (.cst (.int 0))))) (.cons (.asg 13 (.call 30 (.cons (.idx (.var 6) (.var 10)) .nil))) (.cons (.asg 14 (.call 31 (.cons (.idx (.var 7) (.var 10)) (.cons (.var 5) .nil)))) (.cons (.ife (.e (.cmp .ne (.cmp .isn (.var 13) (.cst .non)) (.cmp .isn (.var 14) (.cst .non)))) (.cons (.ret (.cst (.bl false))) .nil) .nil) (.cons (.ife (.e (.cmp .notn (.var 14) (.cst .non))) (.cons (.ife (.e (.cmp .ne (.fld 13 2 (.var 13)) (.idx (.var 14) (.cst (.int 1))))) (.cons (.ret (.cst (.bl false))) .nil) .nil) (.cons (.appR (.idx (.var 8) (.var 10)) (.lst (.cons (.var 13) (.cons (.idx (.var 14) (.cst (.int 0))) .nil)))) .nil)) .nil) .nil)))) (.cons (.asg 15 (.idx (.idx (.var 8) (.var 10)) (.neg (.cst (.int 1))))) (.cons (.ife (.e (.cmp .ne (.call 32 (.cons (.idx (.var 15) (.cst (.int 0))) .nil)) (.call 33 (.cons (.idx (.var 7) (.var 10)) (.cons (.var 5) (.cons (.idx (.var 15) (.cst (.int 1))) .nil)))))) (.cons (.ret (.cst (.bl false))) .nil) .nil) .nil))) (.cons (.ife (.e (.cmp .ne (.met 6 12 1 (.var 4) .nil) (.sm .join (.cst (.str [])) (.var 5)))) (.cons (.ret (.cst (.bl false))) .nil) .nil) .nil)))
def s_law_k16_0 : S := (.asg 1 (.al (.call 1 (.cons (.var 0) .nil))))
def s_law_k16_1 : S := (.asg 2 (.lst (.cons (.call 2 (.cons (.var 1) .nil)) (.cons (.call 2 (.cons (.var 1) .nil)) .nil))))
def s_law_k16_2 : S := (.asg 3 (.sm .join (.cst (.str [])) (.lc (.nm 9) (.rng1 (.call 3 (.cons (.var 1) (.cons (.cst (.int 21)) .nil)))) .no e_law_k16_1)))
def s_law_k16_3 : S := (.asg 4 (.al (.mk 4 12 (.cons (.var 3) .nil))))
def s_law_k16_4 : S := (.asg 5 (.al (.lc (.nm 11) (.on (.var 3)) .no e_law_k16_2)))
def s_law_k16_5 : S := (.asg 6 (.lc (.nm 12) (.on (.var 2)) .no e_law_k16_3))
def s_law_k16_6 : S := (.asg 7 (.lc (.nm 12) (.on (.var 2)) .no e_law_k16_4))
def s_law_k16_7 : S := (.asg 8 (.lst (.cons (.al (.lst .nil)) (.cons (.al (.lst .nil)) .nil))))
def s_law_k16_8 : S := (.forr (.nm 9) (.rng1 (.call 3 (.cons (.var 1) (.cons (.cst (.int 31)) .nil)))) l_law_k16_1)
def s_law_k16_9 : S := (.ret (.cst (.bl true)))
def r_law_k16_9 : Ss := (.cons s_law_k16_9 .nil)
def r_law_k16_8 : Ss := (.cons s_law_k16_8 r_law_k16_9)
def r_law_k16_7 : Ss := (.cons s_law_k16_7 r_law_k16_8)
def r_law_k16_6 : Ss := (.cons s_law_k16_6 r_law_k16_7)
def r_law_k16_5 : Ss := (.cons s_law_k16_5 r_law_k16_6)
def r_law_k16_4 : Ss := (.cons s_law_k16_4 r_law_k16_5)
def r_law_k16_3 : Ss := (.cons s_law_k16_3 r_law_k16_4)
def r_law_k16_2 : Ss := (.cons s_law_k16_2 r_law_k16_3)
def r_law_k16_1 : Ss := (.cons s_law_k16_1 r_law_k16_2)
def r_law_k16_0 : Ss := (.cons s_law_k16_0 r_law_k16_1)
def b_law_k16 : Ss := r_law_k16_0
def e_law_k20_1 : E := (.idx (.cst (.str ABC)) (.call 3 (.cons (.var 1) (.cons (.cst (.int 6)) .nil))))
def c_law_k20_1 : Ot := (.so (.e (.cmp .isin (.var 9) (.idx (.var 2) (.cst (.int 2))))))
def e_law_k20_2 : E := (.idx (.idx (.var 2) (.cst (.int 3))) (.sm .index (.cst (.str ABC)) (.var 9)))
def e_law_k20_3 : E := (.var 11)
def e_law_k20_4 : E := (.cmp .ne (.idx (.idx (.var 7) (.var 8)) (.cst (.int 0))) (.idx (.idx (.var 7) (.op .add (.var 8) (.cst (.int 1)))) (.cst (.int 0))))
def s_law_k20_0 : S := (.asg 1 (.al (.call 1 (.cons (.var 0) .nil))))
def s_law_k20_1 : S := (.asg 2 (.call 40 (.cons (.var 1) .nil)))
def s_law_k20_2 : S := (.asg 3 (.sm .join (.cst (.str [])) (.lc (.nm 8) (.rng1 (.cst (.int 60))) .no e_law_k20_1)))
def s_law_k20_3 : S := (.asg 4 (.sm .join (.cst (.str [])) (.lc (.nm 9) (.on (.var 3)) c_law_k20_1 e_law_k20_2)))
def s_law_k20_4 : S := (.asg 5 (.al (.mk 4 12 (.cons (.var 4) .nil))))
def s_law_k20_5 : S := (.asg 6 (.call 41 (.cons (.var 1) (.cons (.al (.mk 15 14 (.cons (.var 5) (.cons (.idx (.var 2) (.cst (.int 0))) .nil)))) (.cons (.idx (.var 2) (.cst (.int 4))) .nil)))))
def s_law_k20_6 : S := (.ife (.or (.e (.cmp .ne (.var 6) (.call 42 (.cons (.call 43 (.cons (.var 2) .nil)) (.cons (.var 3) .nil))))) (.e (.cmp .ne (.var 6) (.call 7 (.cons (.var 2) (.cons (.var 3) .nil)))))) (.cons (.ret (.cst (.bl false))) .nil) .nil)
def s_law_k20_7 : S := (.ife (.or (.e (.cmp .ne (.met 6 12 1 (.var 5) .nil) (.cst (.str [])))) (.e (.cmp .ne (.call 41 (.cons (.var 1) (.cons (.al (.mk 15 14 (.cons (.var 5) (.cons (.idx (.var 2) (.cst (.int 0))) .nil)))) (.cons (.cst (.str [])) .nil)))) (.lst .nil)))) (.cons (.ret (.cst (.bl false))) .nil) .nil)
def s_law_k20_8 : S := (.asg 7 (.call 9 (.cons (.var 4) (.cons (.idx (.var 2) (.cst (.int 0))) .nil))))
def s_law_k20_9 : S := (.ife (.e (.cmp .ne (.sm .join (.cst (.str [])) (.lc (.tp [10, 11]) (.on (.var 7)) .no e_law_k20_3)) (.var 4))) (.cons (.ret (.cst (.bl false))) .nil) .nil)
def s_law_k20_10 : S := (.ret (.bi .all (.cons (.lc (.nm 8) (.rng1 (.op .sub (.bi .len (.cons (.var 7) .nil)) (.cst (.int 1)))) .no e_law_k20_4) .nil)))
def r_law_k20_10 : Ss := (.cons s_law_k20_10 .nil)
def r_law_k20_9 : Ss := (.cons s_law_k20_9 r_law_k20_10)
def r_law_k20_8 : Ss := (.cons s_law_k20_8 r_law_k20_9)
def r_law_k20_7 : Ss := (.cons s_law_k20_7 r_law_k20_8)
def r_law_k20_6 : Ss := (.cons s_law_k20_6 r_law_k20_7)
def r_law_k20_5 : Ss := (.cons s_law_k20_5 r_law_k20_6)
def r_law_k20_4 : Ss := (.cons s_law_k20_4 r_law_k20_5)
def r_law_k20_3 : Ss := (.cons s_law_k20_3 r_law_k20_4)
def r_law_k20_2 : Ss := (.cons s_law_k20_2 r_law_k20_3)
def r_law_k20_1 : Ss := (.cons s_law_k20_1 r_law_k20_2)
def r_law_k20_0 : Ss := (.cons s_law_k20_0 r_law_k20_1)
def b_law_k20 : Ss := r_law_k20_0
def e__law_parts_1 : E := (.idx (.cst (.str ABC)) (.call 3 (.cons (.var 0) (.cons (.cst (.int 6)) .nil))))
def b__law_parts : Ss := (.cons (.asg 1 (.cst (.str ABC))) (.cons (.ife (.e (.cmp .eq (.call 3 (.cons (.var 0) (.cons (.cst (.int 2)) .nil))) (.cst (.int 0)))) (.cons (.asg 1 (.call 44 (.cons (.var 0) (.cons (.cst (.str ABC)) (.cons (.cst (.int 0)) .nil))))) .nil) .nil) (.cons (.asg 2 (.cst (.str ABC))) (.cons (.ife (.e (.cmp .eq (.call 3 (.cons (.var 0) (.cons (.cst (.int 2)) .nil))) (.cst (.int 0)))) (.cons (.asg 2 (.sm .join (.cst (.str [])) (.lc (.nm 4) (.rng1 (.cst (.int 6))) .no e__law_parts_1))) .nil) .nil) (.cons (.asg 3 (.cst (.str []))) (.cons (.ife (.e (.cmp .eq (.call 3 (.cons (.var 0) (.cons (.cst (.int 3)) .nil))) (.cst (.int 0)))) (.cons (.asg 3 (.call 44 (.cons (.var 0) (.cons (.cst (.str [48, 49, 50])) (.cons (.cst (.int 0)) .nil))))) .nil) .nil) (.cons (.ret (.lst (.cons (.call 2 (.cons (.var 0) .nil)) (.cons (.call 45 (.cons (.var 0) (.cons (.cst (.int 2)) .nil))) (.cons (.var 1) (.cons (.var 2) (.cons (.var 3) .nil))))))) .nil)))))))
def t__law_by_hand_1 : T := (.e (.cmp .ne (.var 6) (.cst (.str []))))
def w__law_by_hand_1 : Ss := (.cons (.asg 5 (.op .add (.var 5) (.var 6))) (.cons (.asg 6 (.call 32 (.cons (.var 4) .nil))) .nil))
def t__law_by_hand_2 : T := (.e (.cmp .notn (.var 4) (.cst .non)))
def w__law_by_hand_2 : Ss := (.cons (.asg 5 (.cst (.str []))) (.cons (.ife (.e (.cmp .eq (.call 3 (.cons (.var 0) (.cons (.cst (.int 2)) .nil))) (.cst (.int 0)))) (.cons (.asg 5 (.met 17 13 2 (.var 4) .nil)) .nil) (.cons (.asg 6 (.call 32 (.cons (.var 4) .nil))) (.cons (.whl t__law_by_hand_1 w__law_by_hand_1) .nil))) (.cons (.ife (.e (.cmp .nin (.fld 13 2 (.var 4)) (.var 2))) (.cons (.ife (.and (.e (.cmp .gt (.bi .len (.cons (.var 3) .nil)) (.cst (.int 0)))) (.e (.cmp .eq (.idx (.idx (.var 3) (.neg (.cst (.int 1)))) (.cst (.int 0))) (.fld 13 2 (.var 4))))) (.cons (.setI 3 (.neg (.cst (.int 1))) (.tup (.cons (.fld 13 2 (.var 4)) (.cons (.op .add (.idx (.idx (.var 3) (.neg (.cst (.int 1)))) (.cst (.int 1))) (.var 5)) .nil)))) .nil) (.cons (.app 3 (.tup (.cons (.fld 13 2 (.var 4)) (.cons (.var 5) .nil)))) .nil)) .nil) .nil) (.cons (.asg 4 (.call 30 (.cons (.var 1) .nil))) .nil))))
def b__law_by_hand : Ss := (.cons (.asgO 3 (.lst .nil)) (.cons (.asg 4 (.call 30 (.cons (.var 1) .nil))) (.cons (.whl t__law_by_hand_2 w__law_by_hand_2) (.cons (.ret (.var 3)) .nil))))
def c_groups_of_1 : Ot := (.so (.e (.cmp .nin (.idx (.var 3) (.cst (.int 0))) (.fld 16 17 (.var 0)))))
def e_groups_of_1 : E := (.var 3)
def b_groups_of : Ss := (.cons (.exp (.call 12 (.cons (.var 1) .nil))) (.cons (.asg 2 (.call 46 (.cons (.call 47 (.cons (.var 0) (.cons (.var 1) .nil))) (.cons (.fld 16 5 (.var 0)) .nil)))) (.cons (.ret (.call 48 (.cons (.lc (.nm 3) (.on (.var 2)) c_groups_of_1 e_groups_of_1) .nil))) .nil)))
def b__law_made : Ss := (.cons (.ret (.mk 49 16 (.cons (.idx (.var 0) (.cst (.int 0))) (.cons (.idx (.var 0) (.cst (.int 1))) (.cons (.idx (.var 0) (.cst (.int 2))) (.cons (.idx (.var 0) (.cst (.int 3))) (.cons (.idx (.var 0) (.cst (.int 4))) .nil))))))) .nil)
def c__law_some_1 : Ot := (.so (.e (.cmp .eq (.call 3 (.cons (.var 0) (.cons (.cst (.int 2)) .nil))) (.cst (.int 0)))))
def e__law_some_1 : E := (.var 4)
def b__law_some : Ss := (.cons (.asg 3 (.sm .join (.cst (.str [])) (.lc (.nm 4) (.on (.var 1)) c__law_some_1 e__law_some_1))) (.cons (.ife (.e (.cmp .lt (.bi .len (.cons (.var 3) .nil)) (.var 2))) (.cons (.ret (.slc (.var 1) .no (.so (.var 2)))) .nil) .nil) (.cons (.ret (.var 3)) .nil)))
def b__law_reading : Ss := (.cons (.asg 2 (.call 3 (.cons (.var 0) (.cons (.cst (.int 9)) .nil)))) (.cons (.ife (.e (.cmp .le (.var 2) (.cst (.int 1)))) (.cons (.ret (.tup (.cons (.cst (.str [105, 116, 101, 109, 115])) .nil))) .nil) .nil) (.cons (.ife (.e (.cmp .eq (.var 2) (.cst (.int 2)))) (.cons (.ret (.tup (.cons (.cst (.str [99, 111, 117, 110, 116])) .nil))) .nil) .nil) (.cons (.ife (.e (.cmp .eq (.var 2) (.cst (.int 3)))) (.cons (.ret (.tup (.cons (.cst (.str [102, 105, 114, 115, 116])) (.cons (.call 3 (.cons (.var 0) (.cons (.cst (.int 4)) .nil))) .nil)))) .nil) .nil) (.cons (.ife (.e (.cmp .eq (.var 2) (.cst (.int 4)))) (.cons (.ret (.tup (.cons (.cst (.str [108, 97, 115, 116])) .nil))) .nil) .nil) (.cons (.ife (.and (.e (.cmp .eq (.var 2) (.cst (.int 5)))) (.e (.cmp .eq (.call 3 (.cons (.var 0) (.cons (.cst (.int 2)) .nil))) (.cst (.int 0))))) (.cons (.ret (.tup (.cons (.cst (.str [108, 97, 116, 101])) .nil))) .nil) .nil) (.cons (.ife (.or (.e (.cmp .lt (.var 1) (.cst (.int 1)))) (.e (.cmp .eq (.var 2) (.cst (.int 5))))) (.cons (.ret (.idx (.lst (.cons (.tup (.cons (.cst (.str [105, 116, 101, 109, 115])) .nil)) (.cons (.tup (.cons (.cst (.str [99, 111, 117, 110, 116])) .nil)) .nil))) (.call 3 (.cons (.var 0) (.cons (.cst (.int 2)) .nil))))) .nil) .nil) (.cons (.ife (.e (.cmp .eq (.var 2) (.cst (.int 6)))) (.cons (.ret (.tup (.cons (.cst (.str [111, 110, 108, 121])) (.cons (.call 44 (.cons (.var 0) (.cons (.cst (.str [48, 49, 50])) (.cons (.cst (.int 1)) .nil)))) (.cons (.call 45 (.cons (.var 0) (.cons (.op .sub (.var 1) (.cst (.int 1))) .nil))) .nil))))) .nil) .nil) (.cons (.ret (.tup (.cons (.cst (.str [119, 105, 116, 104, 105, 110])) (.cons (.call 2 (.cons (.var 0) .nil)) (.cons (.call 45 (.cons (.var 0) (.cons (.op .sub (.var 1) (.cst (.int 1))) .nil))) .nil))))) .nil)))))))))
def l_neighbours_1 : Ss := (.cons (.asg 4 (.call 23 (.cons (.var 1) (.cons (.var 3) .nil)))) (.cons (.ife (.and (.e (.var 2)) (.e (.cmp .eq (.idx (.idx (.var 2) (.neg (.cst (.int 1)))) (.cst (.int 0))) (.var 4)))) (.cons (.setI 2 (.neg (.cst (.int 1))) (.tup (.cons (.var 4) (.cons (.op .add (.idx (.idx (.var 2) (.neg (.cst (.int 1)))) (.cst (.int 1))) (.var 3)) .nil)))) .nil) (.cons (.app 2 (.tup (.cons (.var 4) (.cons (.var 3) .nil)))) .nil)) .nil))
def b_neighbours : Ss := (.cons (.asgO 2 (.lst .nil)) (.cons (.forr (.nm 3) (.on (.var 0)) l_neighbours_1) (.cons (.ret (.var 2)) .nil)))
def c_kept_items_1 : Ot := (.so (.e (.cmp .isin (.var 2) (.fld 16 15 (.var 0)))))
def e_kept_items_1 : E := (.idx (.fld 16 16 (.var 0)) (.sm .index (.glb 0) (.var 2)))
def b_kept_items : Ss := (.cons (.ret (.sm .join (.cst (.str [])) (.lc (.nm 2) (.on (.var 1)) c_kept_items_1 e_kept_items_1))) .nil)
def l_merged_1 : Ss := (.cons (.ife (.and (.e (.var 1)) (.e (.cmp .eq (.idx (.idx (.var 1) (.neg (.cst (.int 1)))) (.cst (.int 0))) (.var 2)))) (.cons (.setI 1 (.neg (.cst (.int 1))) (.tup (.cons (.var 2) (.cons (.op .add (.idx (.idx (.var 1) (.neg (.cst (.int 1)))) (.cst (.int 1))) (.var 3)) .nil)))) .nil) (.cons (.app 1 (.tup (.cons (.var 2) (.cons (.var 3) .nil)))) .nil)) .nil)
def b_merged : Ss := (.cons (.asgO 1 (.lst .nil)) (.cons (.forr (.tp [2, 3]) (.on (.var 0)) l_merged_1) (.cons (.ret (.var 1)) .nil)))
def b_Program__init__ : Ss := (.cons (.ife (.not (.e (.call 20 (.cons (.var 1) .nil)))) (.cons (.rse 2 .nil) .nil) .nil) (.cons (.exp (.call 50 (.cons (.var 2) (.cons (.cst (.int 0)) .nil)))) (.cons (.ife (.not (.e (.call 51 (.cons (.var 3) (.cons (.glb 0) (.cons (.cst (.int 0)) .nil)))))) (.cons (.rse 1 .nil) .nil) .nil) (.cons (.ife (.or (.not (.e (.call 19 (.cons (.var 4) (.cons (.glb 0) .nil))))) (.e (.cmp .ne (.bi .len (.cons (.var 4) .nil)) (.bi .len (.cons (.glb 0) .nil))))) (.cons (.rse 1 .nil) .nil) .nil) (.cons (.ife (.not (.e (.call 51 (.cons (.var 5) (.cons (.glb 1) (.cons (.cst (.int 0)) .nil)))))) (.cons (.rse 3 .nil) .nil) .nil) (.cons (.setS 16 5 (.var 1)) (.cons (.setS 16 14 (.var 2)) (.cons (.setS 16 15 (.call 52 (.cons (.var 3) .nil))) (.cons (.setS 16 16 (.var 4)) (.cons (.setS 16 17 (.call 52 (.cons (.var 5) .nil))) .nil))))))))))
def b_check_reading : Ss := (.cons (.ife (.or (.not (.e (.isi .tup (.var 0)))) (.or (.not (.e (.var 0))) (.not (.e (.isi .str (.idx (.var 0) (.cst (.int 0)))))))) (.cons .bad .nil) .nil) (.cons (.ife (.e (.cmp .nin (.idx (.var 0) (.cst (.int 0))) (.tup (.cons (.cst (.str [111, 110, 108, 121])) (.cons (.cst (.str [119, 105, 116, 104, 105, 110])) .nil))))) (.cons (.ife (.not (.e (.call 53 (.cons (.var 0) .nil)))) (.cons .bad .nil) .nil) (.cons .retN .nil)) .nil) (.cons (.ife (.or (.e (.cmp .ne (.bi .len (.cons (.var 0) .nil)) (.cst (.int 3)))) (.e (.cmp .eq (.var 1) (.glb 4)))) (.cons .bad .nil) .nil) (.cons (.ife (.and (.e (.cmp .eq (.idx (.var 0) (.cst (.int 0))) (.cst (.str [111, 110, 108, 121])))) (.not (.e (.call 51 (.cons (.idx (.var 0) (.cst (.int 1))) (.cons (.glb 1) (.cons (.cst (.int 1)) .nil))))))) (.cons .bad .nil) .nil) (.cons (.ife (.and (.e (.cmp .eq (.idx (.var 0) (.cst (.int 0))) (.cst (.str [119, 105, 116, 104, 105, 110])))) (.not (.e (.call 20 (.cons (.idx (.var 0) (.cst (.int 1))) .nil))))) (.cons .bad .nil) .nil) (.cons (.exp (.call 50 (.cons (.idx (.var 0) (.cst (.int 2))) (.cons (.op .add (.var 1) (.cst (.int 1))) .nil)))) .nil))))))
def e_is_some_1 : E := (.cmp .eq (.sm .count (.var 0) (.var 3)) (.cst (.int 1)))
def b_is_some : Ss := (.cons (.ret (.and (.call 19 (.cons (.var 0) (.cons (.var 1) .nil))) (.and (.cmp .ge (.bi .len (.cons (.var 0) .nil)) (.var 2)) (.bi .all (.cons (.lc (.nm 3) (.on (.var 0)) .no e_is_some_1) .nil))))) .nil)
def b_ascending : Ss := (.cons (.ret (.sm .join (.cst (.str [])) (.bi .sorted (.cons (.var 0) .nil)))) .nil)
def b_is_plain : Ss := (.cons (.ife (.e (.cmp .isin (.idx (.var 0) (.cst (.int 0))) (.tup (.cons (.cst (.str [105, 116, 101, 109, 115])) (.cons (.cst (.str [99, 111, 117, 110, 116])) (.cons (.cst (.str [108, 97, 115, 116])) (.cons (.cst (.str [108, 97, 116, 101])) .nil))))))) (.cons (.ret (.cmp .eq (.bi .len (.cons (.var 0) .nil)) (.cst (.int 1)))) .nil) .nil) (.cons (.ife (.or (.e (.cmp .ne (.idx (.var 0) (.cst (.int 0))) (.cst (.str [102, 105, 114, 115, 116])))) (.e (.cmp .ne (.bi .len (.cons (.var 0) .nil)) (.cst (.int 2))))) (.cons (.ret (.cst (.bl false))) .nil) .nil) (.cons (.ret (.and (.isi .int (.idx (.var 0) (.cst (.int 1)))) (.and (.not (.isi .bool (.idx (.var 0) (.cst (.int 1))))) (.chn (.cst (.int 0)) .le (.idx (.var 0) (.cst (.int 1))) .le (.cst (.int 3)))))) .nil)))
def e_law_k05_1 : E := (.idx (.cst (.str ABC)) (.call 3 (.cons (.var 1) (.cons (.idx (.lst (.cons (.cst (.int 6)) (.cons (.cst (.int 3)) (.cons (.cst (.int 2)) (.cons (.cst (.int 6)) .nil))))) (.var 4)) .nil))))
def l_law_k05_1 : Ss := (.cons (.asg 6 (.sm .join (.cst (.str [])) (.lc (.nm 7) (.rng1 (.call 3 (.cons (.var 1) (.cons (.cst (.int 11)) .nil)))) .no e_law_k05_1))) (.cons (.ife (.not (.e (.call 8 (.cons (.call 42 (.cons (.var 3) (.cons (.var 6) .nil))) (.cons (.call 7 (.cons (.var 2) (.cons (.var 6) .nil))) .nil))))) (.cons (.ret (.cst (.bl false))) .nil) .nil) (.cons (.ife (.not (.e (.call 8 (.cons (.call 56 (.cons (.var 3) (.cons (.var 6) .nil))) (.cons (.call 55 (.cons (.var 2) (.cons (.var 6) .nil))) .nil))))) (.cons (.ret (.cst (.bl false))) .nil) .nil) (.cons (.ife (.not (.e (.call 8 (.cons (.call 58 (.cons (.var 3) (.cons (.var 6) .nil))) (.cons (.call 57 (.cons (.var 2) (.cons (.var 6) .nil))) .nil))))) (.cons (.ret (.cst (.bl false))) .nil) .nil) (.cons (.ife (.not (.e (.call 8 (.cons (.call 60 (.cons (.var 3) (.cons (.var 6) .nil))) (.cons (.call 59 (.cons (.var 2) (.cons (.var 6) .nil))) .nil))))) (.cons (.ret (.cst (.bl false))) .nil) .nil) .nil)))))
def s_law_k05_0 : S := (.asg 1 (.al (.call 1 (.cons (.var 0) .nil))))
def s_law_k05_1 : S := (.asg 2 (.call 40 (.cons (.var 1) .nil)))
def s_law_k05_2 : S := (.asg 3 (.call 43 (.cons (.var 2) .nil)))
def s_law_k05_3 : S := (.forr (.nm 4) (.rng1 (.cst (.int 4))) l_law_k05_1)
def s_law_k05_4 : S := (.ife (.e (.cmp .ne (.call 61 (.cons (.var 3) (.cons (.idx (.lst (.cons (.cst (.str [103])) (.cons (.cst (.str [97, 32, 98])) (.cons (.cst .non) (.cons (.cst (.int 5)) (.cons (.lst (.cons (.cst (.str [97])) .nil)) .nil)))))) (.call 3 (.cons (.var 1) (.cons (.cst (.int 5)) .nil)))) .nil))) (.lst (.cons (.cst (.bl true)) (.cons (.cst (.bl true)) (.cons (.cst (.bl true)) (.cons (.cst (.bl true)) .nil))))))) (.cons (.ret (.cst (.bl false))) .nil) .nil)
def s_law_k05_5 : S := (.ife (.or (.e (.cmp .ne (.fld 16 5 (.var 3)) (.idx (.var 2) (.cst (.int 0))))) (.or (.e (.cmp .ne (.fld 16 14 (.var 3)) (.idx (.var 2) (.cst (.int 1))))) (.e (.cmp .ne (.fld 16 16 (.var 3)) (.idx (.var 2) (.cst (.int 3))))))) (.cons (.ret (.cst (.bl false))) .nil) .nil)
def s_law_k05_6 : S := (.ife (.or (.e (.cmp .ne (.fld 16 15 (.var 3)) (.sm .join (.cst (.str [])) (.bi .sorted (.cons (.idx (.var 2) (.cst (.int 2))) .nil))))) (.e (.cmp .ne (.fld 16 17 (.var 3)) (.sm .join (.cst (.str [])) (.bi .sorted (.cons (.idx (.var 2) (.cst (.int 4))) .nil)))))) (.cons (.ret (.cst (.bl false))) .nil) .nil)
def s_law_k05_7 : S := (.asg 5 (.call 40 (.cons (.var 1) .nil)))
def s_law_k05_8 : S := (.ife (.e (.cmp .ne (.oeq 62 16 18 (.var 3) (.call 43 (.cons (.var 5) .nil))) (.cmp .eq (.var 2) (.var 5)))) (.cons (.ret (.cst (.bl false))) .nil) .nil)
def s_law_k05_9 : S := (.ret (.oeq 62 16 18 (.var 3) (.mk 49 16 (.cons (.idx (.var 2) (.cst (.int 0))) (.cons (.idx (.var 2) (.cst (.int 1))) (.cons (.rev (.idx (.var 2) (.cst (.int 2)))) (.cons (.idx (.var 2) (.cst (.int 3))) (.cons (.rev (.idx (.var 2) (.cst (.int 4)))) .nil))))))))
def r_law_k05_9 : Ss := (.cons s_law_k05_9 .nil)
def r_law_k05_8 : Ss := (.cons s_law_k05_8 r_law_k05_9)
def r_law_k05_7 : Ss := (.cons s_law_k05_7 r_law_k05_8)
def r_law_k05_6 : Ss := (.cons s_law_k05_6 r_law_k05_7)
def r_law_k05_5 : Ss := (.cons s_law_k05_5 r_law_k05_6)
def r_law_k05_4 : Ss := (.cons s_law_k05_4 r_law_k05_5)
def r_law_k05_3 : Ss := (.cons s_law_k05_3 r_law_k05_4)
def r_law_k05_2 : Ss := (.cons s_law_k05_2 r_law_k05_3)
def r_law_k05_1 : Ss := (.cons s_law_k05_1 r_law_k05_2)
def r_law_k05_0 : Ss := (.cons s_law_k05_0 r_law_k05_1)
def b_law_k05 : Ss := r_law_k05_0
def b__law_answer : Ss := (.cons (.ret (.call 63 (.cons (.idx (.var 0) (.cst (.int 1))) (.cons (.call 7 (.cons (.var 0) (.cons (.var 1) .nil))) (.cons (.cst (.bl true)) .nil))))) .nil)
def b_answer : Ss := (.cons (.ret (.call 64 (.cons (.fld 16 14 (.var 0)) (.cons (.call 42 (.cons (.var 0) (.cons (.var 1) .nil))) (.cons (.cst (.bl true)) .nil))))) .nil)
def l__law_whole_1 : Ss := (.cons (.ife (.e (.cmp .nin (.var 4) (.var 3))) (.cons (.app 2 (.var 4)) (.cons (.setI 3 (.var 4) (.cst (.str []))) .nil)) .nil) (.cons (.setI 3 (.var 4) (.op .add (.idx (.var 3) (.var 4)) (.var 5))) .nil))
def e__law_whole_1 : E := (.tup (.cons (.var 4) (.cons (.idx (.var 3) (.var 4)) .nil)))
def b__law_whole : Ss := (.cons (.asgO 2 (.lst .nil)) (.cons (.asgO 3 .dct0) (.cons (.forr (.tp [4, 5]) (.on (.call 7 (.cons (.var 0) (.cons (.var 1) .nil)))) l__law_whole_1) (.cons (.frz 2) (.cons (.ret (.lc (.nm 4) (.on (.var 2)) .no e__law_whole_1)) .nil)))))
def l_whole_of_1 : Ss := (.cons (.setI 2 (.var 3) (.op .add (.dget (.var 2) (.var 3) (.cst (.str []))) (.var 4))) .nil)
def e_whole_of_1 : E := (.tup (.cons (.var 3) (.cons (.idx (.var 2) (.var 3)) .nil)))
def b_whole_of : Ss := (.cons (.asgO 2 .dct0) (.cons (.forr (.tp [3, 4]) (.on (.call 42 (.cons (.var 0) (.cons (.var 1) .nil)))) l_whole_of_1) (.cons (.frz 2) (.cons (.ret (.lcd 2 (.nm 3) .no e_whole_of_1)) .nil))))
def b__law_all : Ss := (.cons (.ret (.call 63 (.cons (.idx (.var 0) (.cst (.int 1))) (.cons (.call 57 (.cons (.var 0) (.cons (.var 1) .nil))) (.cons (.cst (.bl false)) .nil))))) .nil)
def b_whole_answer : Ss := (.cons (.ret (.call 64 (.cons (.fld 16 14 (.var 0)) (.cons (.call 58 (.cons (.var 0) (.cons (.var 1) .nil))) (.cons (.cst (.bl false)) .nil))))) .nil)
def b__law_refused : Ss := (.cons (.asgO 2 (.lst (.cons (.cst (.bl false)) (.cons (.cst (.bl false)) (.cons (.cst (.bl false)) (.cons (.cst (.bl false)) .nil)))))) (.cons (.tri (.cons (.exp (.call 42 (.cons (.var 0) (.cons (.var 1) .nil)))) .nil) (.cons 4 none (.cons (.setL 2 (.cst (.int 0)) (.cst (.bl true))) .nil) .nil)) (.cons (.tri (.cons (.exp (.call 56 (.cons (.var 0) (.cons (.var 1) .nil)))) .nil) (.cons 4 none (.cons (.setL 2 (.cst (.int 1)) (.cst (.bl true))) .nil) .nil)) (.cons (.tri (.cons (.exp (.call 58 (.cons (.var 0) (.cons (.var 1) .nil)))) .nil) (.cons 4 none (.cons (.setL 2 (.cst (.int 2)) (.cst (.bl true))) .nil) .nil)) (.cons (.tri (.cons (.exp (.call 60 (.cons (.var 0) (.cons (.var 1) .nil)))) .nil) (.cons 4 none (.cons (.setL 2 (.cst (.int 3)) (.cst (.bl true))) .nil) .nil)) (.cons (.ret (.var 2)) .nil))))))
def b_Program__eq__ : Ss := (.cons (.ret (.and (.isc 16 (.var 1)) (.cmp .eq (.met 65 16 6 (.var 0) .nil) (.met 65 16 6 (.var 1) .nil)))) .nil)
def l__law_shown_1 : Ss := (.cons (.asg 3 (.op .add (.op .add (.op .add (.op .add (.var 3) (.cst (.str [40]))) (.var 4)) (.call 66 (.cons (.var 0) (.cons (.var 4) (.cons (.var 5) (.cons (.var 2) .nil)))))) (.cst (.str [41])))) .nil)
def b__law_shown : Ss := (.cons (.asg 3 (.cst (.str []))) (.cons (.forr (.tp [4, 5]) (.on (.var 1)) l__law_shown_1) (.cons (.ret (.var 3)) .nil)))
def e_parts_of_running_1 : E := (.op .add (.op .add (.op .add (.cst (.str [40])) (.var 3)) (.call 67 (.cons (.var 0) (.cons (.var 3) (.cons (.var 4) (.cons (.var 2) .nil)))))) (.cst (.str [41])))
def b_parts_of_running : Ss := (.cons (.ret (.sm .join (.cst (.str [])) (.lc (.tp [3, 4]) (.on (.var 1)) .no e_parts_of_running_1))) .nil)
def b_Program_parts : Ss := (.cons (.ret (.tup (.cons (.fld 16 5 (.var 0)) (.cons (.fld 16 14 (.var 0)) (.cons (.fld 16 15 (.var 0)) (.cons (.fld 16 16 (.var 0)) (.cons (.fld 16 17 (.var 0)) .nil))))))) .nil)
def e__law_read_1 : E := (.cst (.str [43]))
def b__law_read : Ss := (.cons (.ife (.e (.cmp .eq (.idx (.var 0) (.cst (.int 0))) (.cst (.str [99, 111, 117, 110, 116])))) (.cons (.ret (.sm .join (.cst (.str [])) (.lc (.nm 5) (.on (.var 2)) .no e__law_read_1))) .nil) .nil) (.cons (.ife (.e (.cmp .eq (.idx (.var 0) (.cst (.int 0))) (.cst (.str [102, 105, 114, 115, 116])))) (.cons (.ret (.slc (.var 2) .no (.so (.idx (.var 0) (.cst (.int 1)))))) .nil) .nil) (.cons (.ife (.e (.cmp .eq (.idx (.var 0) (.cst (.int 0))) (.cst (.str [108, 97, 115, 116])))) (.cons (.ret (.slc (.var 2) (.so (.op .sub (.bi .len (.cons (.var 2) .nil)) (.cst (.int 1)))) .no)) .nil) .nil) (.cons (.ife (.and (.e (.cmp .eq (.idx (.var 0) (.cst (.int 0))) (.cst (.str [108, 97, 116, 101])))) (.e (.var 3))) (.cons (.ret (.cst (.str []))) .nil) .nil) (.cons (.ife (.e (.cmp .eq (.idx (.var 0) (.cst (.int 0))) (.cst (.str [111, 110, 108, 121])))) (.cons (.ife (.e (.cmp .isin (.var 1) (.idx (.var 0) (.cst (.int 1))))) (.cons (.ret (.call 66 (.cons (.idx (.var 0) (.cst (.int 2))) (.cons (.var 1) (.cons (.var 2) (.cons (.var 3) .nil)))))) .nil) .nil) (.cons (.ret (.cst (.str []))) .nil)) .nil) (.cons (.ife (.e (.cmp .eq (.idx (.var 0) (.cst (.int 0))) (.cst (.str [119, 105, 116, 104, 105, 110])))) (.cons (.asg 4 (.lst (.cons (.idx (.var 0) (.cst (.int 1))) (.cons (.cst .non) (.cons (.cst (.str ABC)) (.cons (.cst (.str ABC)) (.cons (.cst (.str [])) .nil))))))) (.cons (.ret (.call 63 (.cons (.idx (.var 0) (.cst (.int 2))) (.cons (.call 7 (.cons (.var 4) (.cons (.var 2) .nil))) (.cons (.var 3) .nil))))) .nil)) .nil) (.cons (.ret (.var 2)) .nil)))))))
def b_read_group : Ss := (.cons (.asg 4 (.idx (.var 0) (.cst (.int 0)))) (.cons (.ife (.e (.cmp .eq (.var 4) (.cst (.str [99, 111, 117, 110, 116])))) (.cons (.ret (.op .mul (.cst (.str [43])) (.bi .len (.cons (.var 2) .nil)))) .nil) .nil) (.cons (.ife (.e (.cmp .eq (.var 4) (.cst (.str [102, 105, 114, 115, 116])))) (.cons (.ret (.slc (.var 2) .no (.so (.idx (.var 0) (.cst (.int 1)))))) .nil) .nil) (.cons (.ife (.e (.cmp .eq (.var 4) (.cst (.str [108, 97, 115, 116])))) (.cons (.ret (.slc (.var 2) (.so (.neg (.cst (.int 1)))) .no)) .nil) .nil) (.cons (.ife (.and (.e (.cmp .eq (.var 4) (.cst (.str [108, 97, 116, 101])))) (.e (.var 3))) (.cons (.ret (.cst (.str []))) .nil) .nil) (.cons (.ife (.e (.cmp .eq (.var 4) (.cst (.str [111, 110, 108, 121])))) (.cons (.ret (.ite (.e (.call 68 (.cons (.var 0) (.cons (.var 1) .nil)))) (.call 67 (.cons (.idx (.var 0) (.cst (.int 2))) (.cons (.var 1) (.cons (.var 2) (.cons (.var 3) .nil))))) (.cst (.str [])))) .nil) .nil) (.cons (.ife (.e (.cmp .eq (.var 4) (.cst (.str [119, 105, 116, 104, 105, 110])))) (.cons (.ret (.call 64 (.cons (.idx (.var 0) (.cst (.int 2))) (.cons (.call 46 (.cons (.var 2) (.cons (.idx (.var 0) (.cst (.int 1))) .nil))) (.cons (.var 3) .nil))))) .nil) .nil) (.cons (.ret (.var 2)) .nil))))))))
def b_is_named : Ss := (.cons (.ret (.cmp .isin (.var 1) (.idx (.var 0) (.cst (.int 1))))) .nil)
def s_law_k17_0 : S := (.asg 1 (.al (.call 1 (.cons (.var 0) .nil))))
def s_law_k17_1 : S := (.asg 2 (.call 40 (.cons (.var 1) .nil)))
def s_law_k17_2 : S := (.asg 3 (.call 43 (.cons (.var 2) .nil)))
def s_law_k17_3 : S := (.asg 4 (.call 70 (.cons (.var 3) .nil)))
def s_law_k17_4 : S := (.ife (.or (.not (.e (.isi .str (.var 4)))) (.e (.cmp .ne (.var 4) (.sm .join (.cst (.str [10])) (.call 71 (.cons (.var 2) .nil)))))) (.cons (.ret (.cst (.bl false))) .nil) .nil)
def s_law_k17_5 : S := (.asg 5 (.call 72 (.cons (.var 4) .nil)))
def s_law_k17_6 : S := (.ret (.and (.isc 16 (.var 5)) (.oeq 62 16 18 (.var 5) (.var 3))))
def r_law_k17_6 : Ss := (.cons s_law_k17_6 .nil)
def r_law_k17_5 : Ss := (.cons s_law_k17_5 r_law_k17_6)
def r_law_k17_4 : Ss := (.cons s_law_k17_4 r_law_k17_5)
def r_law_k17_3 : Ss := (.cons s_law_k17_3 r_law_k17_4)
def r_law_k17_2 : Ss := (.cons s_law_k17_2 r_law_k17_3)
def r_law_k17_1 : Ss := (.cons s_law_k17_1 r_law_k17_2)
def r_law_k17_0 : Ss := (.cons s_law_k17_0 r_law_k17_1)
def b_law_k17 : Ss := r_law_k17_0
def e_write_1 : E := (.op .add (.op .add (.var 2) (.cst (.str [32]))) (.call 74 (.cons (.var 3) .nil)))
def b_write : Ss := (.cons (.asg 1 (.tup (.cons (.fld 16 5 (.var 0)) (.cons (.fld 16 15 (.var 0)) (.cons (.fld 16 16 (.var 0)) (.cons (.fld 16 17 (.var 0)) (.cons (.call 73 (.cons (.fld 16 14 (.var 0)) .nil)) .nil))))))) (.cons (.ret (.sm .join (.cst (.str [10])) (.lc (.tp [2, 3]) (.zp (.glb 5) (.var 1)) .no e_write_1))) .nil))
def b__law_lines : Ss := (.cons (.asg 1 (.lst (.cons (.op .add (.cst (.str [116, 97, 98, 108, 101, 32])) (.idx (.var 0) (.cst (.int 0)))) (.cons (.op .add (.cst (.str [107, 101, 101, 112, 32])) (.call 75 (.cons (.idx (.var 0) (.cst (.int 2))) .nil))) (.cons (.op .add (.cst (.str [116, 117, 114, 110, 32])) (.idx (.var 0) (.cst (.int 3)))) .nil))))) (.cons (.ret (.op .add (.var 1) (.lst (.cons (.op .add (.cst (.str [100, 114, 111, 112, 32])) (.call 75 (.cons (.idx (.var 0) (.cst (.int 4))) .nil))) (.cons (.op .add (.cst (.str [114, 101, 97, 100, 32])) (.call 76 (.cons (.idx (.var 0) (.cst (.int 1))) .nil))) .nil))))) .nil))
def l_read_1 : Ss := (.cons (.ife (.e (.cmp .ge (.var 3) (.bi .len (.cons (.var 1) .nil)))) (.cons .bad .nil) .nil) (.cons (.asg 5 (.call 77 (.cons (.var 4) (.cons (.idx (.var 1) (.var 3)) .nil)))) (.cons (.ife (.e (.cmp .isn (.var 5) (.cst .non))) (.cons .bad .nil) .nil) (.cons (.app 2 (.var 5)) .nil))))
def b_read : Ss := (.cons (.asg 1 (.sm .split (.var 0) (.cst (.str [10])))) (.cons (.asgO 2 (.lst .nil)) (.cons (.forr (.tp [3, 4]) (.enm (.glb 5)) l_read_1) (.cons (.ife (.e (.cmp .gt (.bi .len (.cons (.var 1) .nil)) (.bi .len (.cons (.glb 5) .nil)))) (.cons .bad .nil) .nil) (.cons (.ret (.mk 49 16 (.cons (.idx (.var 2) (.cst (.int 0))) (.cons (.idx (.var 2) (.cst (.int 4))) (.cons (.idx (.var 2) (.cst (.int 1))) (.cons (.idx (.var 2) (.cst (.int 2))) (.cons (.idx (.var 2) (.cst (.int 3))) .nil))))))) .nil)))))
def e_reading_text_1 : E := (.bi .str (.cons (.var 2) .nil))
def b_reading_text : Ss := (.cons (.asgO 1 (.lc (.nm 2) (.on (.slc (.var 0) .no (.so (.cst (.int 2))))) .no e_reading_text_1)) (.cons (.ife (.e (.cmp .eq (.idx (.var 0) (.cst (.int 0))) (.cst (.str [111, 110, 108, 121])))) (.cons (.setI 1 (.cst (.int 1)) (.call 52 (.cons (.idx (.var 0) (.cst (.int 1))) .nil))) .nil) .nil) (.cons (.ife (.e (.cmp .eq (.bi .len (.cons (.var 0) .nil)) (.cst (.int 3)))) (.cons (.app 1 (.call 73 (.cons (.idx (.var 0) (.cst (.int 2))) .nil))) .nil) .nil) (.cons (.ret (.sm .join (.cst (.str [32])) (.var 1))) .nil))))
def b_shown : Ss := (.cons (.ret (.ite (.e (.cmp .ne (.var 0) (.cst (.str [])))) (.var 0) (.cst (.str [45])))) .nil)
def b__law_shown_text : Ss := (.cons (.ife (.e (.cmp .eq (.var 0) (.cst (.str [])))) (.cons (.ret (.cst (.str [45]))) .nil) .nil) (.cons (.ret (.var 0)) .nil))
def e__law_reading_text_1 : E := (.bi .str (.cons (.var 2) .nil))
def b__law_reading_text : Ss := (.cons (.asgO 1 (.lc (.nm 2) (.on (.slc (.var 0) .no (.so (.cst (.int 2))))) .no e__law_reading_text_1)) (.cons (.ife (.e (.cmp .eq (.bi .len (.cons (.var 0) .nil)) (.cst (.int 3)))) (.cons (.app 1 (.call 76 (.cons (.idx (.var 0) (.cst (.int 2))) .nil))) .nil) .nil) (.cons (.ret (.sm .join (.cst (.str [32])) (.var 1))) .nil)))
def b_part_of : Ss := (.cons (.asg 2 (.sm .split (.var 1) (.cst (.str [32])))) (.cons (.ife (.or (.e (.cmp .ne (.idx (.var 2) (.cst (.int 0))) (.var 0))) (.e (.cmp .lt (.bi .len (.cons (.var 2) .nil)) (.cst (.int 2))))) (.cons (.ret (.cst .non)) .nil) .nil) (.cons (.ife (.e (.cmp .eq (.var 0) (.cst (.str [114, 101, 97, 100])))) (.cons (.asg 4 (.call 78 (.cons (.slc (.var 2) (.so (.cst (.int 1))) .no) .nil))) (.cons (.ret (.ite (.and (.e (.cmp .notn (.var 4) (.cst .non))) (.e (.call 79 (.cons (.var 4) .nil)))) (.var 4) (.cst .non))) .nil)) .nil) (.cons (.asg 3 (.ite (.e (.cmp .eq (.idx (.var 2) (.cst (.int 1))) (.cst (.str [45])))) (.cst (.str [])) (.idx (.var 2) (.cst (.int 1))))) (.cons (.ret (.ite (.and (.e (.cmp .eq (.bi .len (.cons (.var 2) .nil)) (.cst (.int 2)))) (.and (.e (.cmp .ne (.idx (.var 2) (.cst (.int 1))) (.cst (.str [])))) (.e (.call 80 (.cons (.var 0) (.cons (.var 3) .nil)))))) (.var 3) (.cst .non))) .nil)))))
def b_reading_of : Ss := (.cons (.ife (.e (.cmp .isin (.idx (.var 0) (.cst (.int 0))) (.tup (.cons (.cst (.str [111, 110, 108, 121])) (.cons (.cst (.str [119, 105, 116, 104, 105, 110])) .nil))))) (.cons (.ife (.e (.cmp .lt (.bi .len (.cons (.var 0) .nil)) (.cst (.int 3)))) (.cons (.ret (.cst .non)) .nil) .nil) (.cons (.asg 1 (.call 78 (.cons (.slc (.var 0) (.so (.cst (.int 2))) .no) .nil))) (.cons (.ret (.ite (.e (.cmp .isn (.var 1) (.cst .non))) (.cst .non) (.tup (.cons (.idx (.var 0) (.cst (.int 0))) (.cons (.idx (.var 0) (.cst (.int 1))) (.cons (.var 1) .nil)))))) .nil))) .nil) (.cons (.ife (.and (.e (.cmp .eq (.idx (.var 0) (.cst (.int 0))) (.cst (.str [102, 105, 114, 115, 116])))) (.and (.e (.cmp .eq (.bi .len (.cons (.var 0) .nil)) (.cst (.int 2)))) (.and (.e (.cmp .eq (.bi .len (.cons (.idx (.var 0) (.cst (.int 1))) .nil)) (.cst (.int 1)))) (.e (.cmp .isin (.idx (.var 0) (.cst (.int 1))) (.glb 1)))))) (.cons (.ret (.tup (.cons (.cst (.str [102, 105, 114, 115, 116])) (.cons (.bi .int (.cons (.idx (.var 0) (.cst (.int 1))) .nil)) .nil)))) .nil) .nil) (.cons (.ret (.ite (.e (.cmp .eq (.bi .len (.cons (.var 0) .nil)) (.cst (.int 1)))) (.bi .tuple (.cons (.var 0) .nil)) (.cst .non))) .nil)))
def t_is_reading_1 : T := (.and (.e (.var 1)) (.e (.cmp .eq (.bi .len (.cons (.var 0) .nil)) (.cst (.int 3)))))
def w_is_reading_1 : Ss := (.cons (.ife (.and (.e (.cmp .eq (.idx (.var 0) (.cst (.int 0))) (.cst (.str [111, 110, 108, 121])))) (.e (.cmp .ne (.call 52 (.cons (.idx (.var 0) (.cst (.int 1))) .nil)) (.idx (.var 0) (.cst (.int 1)))))) (.cons (.asg 1 (.cst (.bl false))) .nil) .nil) (.cons (.asg 0 (.idx (.var 0) (.cst (.int 2)))) .nil))
def b_is_reading : Ss := (.cons (.asg 1 (.cst (.bl true))) (.cons (.tri (.cons (.exp (.call 50 (.cons (.var 0) (.cons (.cst (.int 0)) .nil)))) .nil) (.cons 0 none (.cons (.asg 1 (.cst (.bl false))) .nil) .nil)) (.cons (.whl t_is_reading_1 w_is_reading_1) (.cons (.ret (.var 1)) .nil))))
def b_is_part : Ss := (.cons (.ife (.e (.cmp .eq (.var 0) (.cst (.str [116, 97, 98, 108, 101])))) (.cons (.ret (.call 20 (.cons (.var 1) .nil))) .nil) .nil) (.cons (.ife (.e (.cmp .eq (.var 0) (.cst (.str [116, 117, 114, 110])))) (.cons (.ret (.and (.call 19 (.cons (.var 1) (.cons (.glb 0) .nil))) (.cmp .eq (.bi .len (.cons (.var 1) .nil)) (.bi .len (.cons (.glb 0) .nil))))) .nil) .nil) (.cons (.ret (.and (.call 51 (.cons (.var 1) (.cons (.ite (.e (.cmp .eq (.var 0) (.cst (.str [107, 101, 101, 112])))) (.glb 0) (.glb 1)) (.cons (.cst (.int 0)) .nil)))) (.cmp .eq (.call 52 (.cons (.var 1) .nil)) (.var 1)))) .nil)))
def PG : Pg where
  fns := [⟨1, 13, [], none, b_law_k14⟩,
    ⟨1, 1, [], none, b__law_begin⟩,
    ⟨1, 3, [], none, b__law_table⟩,
    ⟨2, 4, [], none, b__law_draw⟩,
    ⟨1, 1, [], (some 12), b_Stream__init__⟩,
    ⟨1, 2, [], none, b__law_taken_k14⟩,
    ⟨1, 1, [], none, b_Stream_left⟩,
    ⟨2, 6, [], none, b__law_groups⟩,
    ⟨2, 3, [], none, b__law_like⟩,
    ⟨2, 5, [], none, b_walk⟩,
    ⟨2, 3, [], none, b_walk_late⟩,
    ⟨3, 4, [], none, b__law_told_k14⟩,
    ⟨1, 1, [], none, b_check_items⟩,
    ⟨1, 2, [], none, b_Stream_take⟩,
    ⟨1, 1, [], none, b_check_table⟩,
    ⟨2, 2, [], (some 14), b_Walker__init__⟩,
    ⟨1, 2, [], none, b_Walker_ask⟩,
    ⟨1, 3, [], none, b_Handle_rest⟩,
    ⟨2, 4, [], none, b_handles_of⟩,
    ⟨2, 3, [], none, b_is_of⟩,
    ⟨1, 1, [], none, b_is_table⟩,
    ⟨2, 3, [], none, b_Walker_next_of⟩,
    ⟨1, 2, [], none, b_Walker_taken⟩,
    ⟨2, 2, [], none, b_key_of⟩,
    ⟨3, 3, [], (some 13), b_Handle__init__⟩,
    ⟨1, 9, [], none, b_law_k01⟩,
    ⟨2, 3, [], none, b__law_told_k01⟩,
    ⟨2, 5, [], none, b_sort_items⟩,
    ⟨1, 15, [], none, b_law_k15⟩,
    ⟨1, 2, [], none, b__law_new_k15⟩,
    ⟨1, 2, [], none, b__law_asked⟩,
    ⟨2, 3, [], none, b__law_ask⟩,
    ⟨1, 2, [], none, b__law_item⟩,
    ⟨3, 3, [], none, b__law_taken_k15⟩,
    ⟨3, 5, [], none, b__law_rest⟩,
    ⟨2, 3, [], none, b__law_further⟩,
    ⟨2, 3, [], none, b__law_pull⟩,
    ⟨1, 2, [], none, b_Handle_take⟩,
    ⟨1, 16, [], none, b_law_k16⟩,
    ⟨1, 12, [], none, b_law_k20⟩,
    ⟨1, 5, [], none, b__law_parts⟩,
    ⟨3, 7, [], none, b__law_by_hand⟩,
    ⟨2, 4, [], none, b_groups_of⟩,
    ⟨1, 1, [], none, b__law_made⟩,
    ⟨3, 5, [], none, b__law_some⟩,
    ⟨2, 3, [], none, b__law_reading⟩,
    ⟨2, 5, [], none, b_neighbours⟩,
    ⟨2, 3, [], none, b_kept_items⟩,
    ⟨1, 4, [], none, b_merged⟩,
    ⟨5, 5, [], (some 16), b_Program__init__⟩,
    ⟨2, 2, [], none, b_check_reading⟩,
    ⟨3, 4, [], none, b_is_some⟩,
    ⟨1, 1, [], none, b_ascending⟩,
    ⟨1, 1, [], none, b_is_plain⟩,
    ⟨1, 8, [], none, b_law_k05⟩,
    ⟨2, 2, [], none, b__law_answer⟩,
    ⟨2, 2, [], none, b_answer⟩,
    ⟨2, 6, [], none, b__law_whole⟩,
    ⟨2, 5, [], none, b_whole_of⟩,
    ⟨2, 2, [], none, b__law_all⟩,
    ⟨2, 2, [], none, b_whole_answer⟩,
    ⟨2, 3, [], none, b__law_refused⟩,
    ⟨2, 2, [], none, b_Program__eq__⟩,
    ⟨3, 6, [], none, b__law_shown⟩,
    ⟨3, 5, [], none, b_parts_of_running⟩,
    ⟨1, 1, [], none, b_Program_parts⟩,
    ⟨4, 6, [], none, b__law_read⟩,
    ⟨4, 5, [], none, b_read_group⟩,
    ⟨2, 2, [], none, b_is_named⟩,
    ⟨1, 6, [], none, b_law_k17⟩,
    ⟨1, 4, [], none, b_write⟩,
    ⟨1, 2, [], none, b__law_lines⟩,
    ⟨1, 6, [], none, b_read⟩,
    ⟨1, 3, [], none, b_reading_text⟩,
    ⟨1, 1, [], none, b_shown⟩,
    ⟨1, 1, [], none, b__law_shown_text⟩,
    ⟨1, 3, [], none, b__law_reading_text⟩,
    ⟨2, 5, [], none, b_part_of⟩,
    ⟨1, 2, [], none, b_reading_of⟩,
    ⟨1, 2, [], none, b_is_reading⟩,
    ⟨2, 2, [], none, b_is_part⟩]
  gls := [.str ABC, .str K03, .int 3, .int 4, .int 2, .tup [(.str [116, 97, 98, 108, 101]), (.str [107, 101, 101, 112]), (.str [116, 117, 114, 110]), (.str [100, 114, 111, 112]), (.str [114, 101, 97, 100])], .tup [(.str [116, 97, 98, 108, 101]), (.str [114, 101, 97, 100, 105, 110, 103]), (.str [107, 101, 101, 112, 115]), (.str [116, 117, 114, 110, 115]), (.str [100, 114, 111, 112, 115])], .tup [(.tup [(.str [105, 116, 101, 109, 115])]), (.tup [(.str [99, 111, 117, 110, 116])]), (.tup [(.str [102, 105, 114, 115, 116]), (.int 0)]), (.tup [(.str [102, 105, 114, 115, 116]), (.int 1)]), (.tup [(.str [108, 97, 115, 116])])]]
  gds := [[(.str [97], .int 0), (.str [98], .int 1), (.str [99], .int 2), (.str [100], .int 3), (.str [101], .int 4), (.str [102], .int 5)]]
  subs := [(1, 0), (2, 0), (3, 0), (4, 0), (5, 0), (6, 0), (7, 0), (8, 0), (9, 0), (10, 0), (11, 0)]
  efs := [[], [], [], [], [], [], [], [], [8], [9], [10], [11], [], [], [], [], [], [], [], []]
namespace f
abbrev law_k14 : Nat := 0
abbrev _law_begin : Nat := 1
abbrev _law_table : Nat := 2
abbrev _law_draw : Nat := 3
abbrev Stream__init__ : Nat := 4
abbrev _law_taken_k14 : Nat := 5
abbrev Stream_left : Nat := 6
abbrev _law_groups : Nat := 7
abbrev _law_like : Nat := 8
abbrev walk : Nat := 9
abbrev walk_late : Nat := 10
abbrev _law_told_k14 : Nat := 11
abbrev check_items : Nat := 12
abbrev Stream_take : Nat := 13
abbrev check_table : Nat := 14
abbrev Walker__init__ : Nat := 15
abbrev Walker_ask : Nat := 16
abbrev Handle_rest : Nat := 17
abbrev handles_of : Nat := 18
abbrev is_of : Nat := 19
abbrev is_table : Nat := 20
abbrev Walker_next_of : Nat := 21
abbrev Walker_taken : Nat := 22
abbrev key_of : Nat := 23
abbrev Handle__init__ : Nat := 24
abbrev law_k01 : Nat := 25
abbrev _law_told_k01 : Nat := 26
abbrev sort_items : Nat := 27
abbrev law_k15 : Nat := 28
abbrev _law_new_k15 : Nat := 29
abbrev _law_asked : Nat := 30
abbrev _law_ask : Nat := 31
abbrev _law_item : Nat := 32
abbrev _law_taken_k15 : Nat := 33
abbrev _law_rest : Nat := 34
abbrev _law_further : Nat := 35
abbrev _law_pull : Nat := 36
abbrev Handle_take : Nat := 37
abbrev law_k16 : Nat := 38
abbrev law_k20 : Nat := 39
abbrev _law_parts : Nat := 40
abbrev _law_by_hand : Nat := 41
abbrev groups_of : Nat := 42
abbrev _law_made : Nat := 43
abbrev _law_some : Nat := 44
abbrev _law_reading : Nat := 45
abbrev neighbours : Nat := 46
abbrev kept_items : Nat := 47
abbrev merged : Nat := 48
abbrev Program__init__ : Nat := 49
abbrev check_reading : Nat := 50
abbrev is_some : Nat := 51
abbrev ascending : Nat := 52
abbrev is_plain : Nat := 53
abbrev law_k05 : Nat := 54
abbrev _law_answer : Nat := 55
abbrev answer : Nat := 56
abbrev _law_whole : Nat := 57
abbrev whole_of : Nat := 58
abbrev _law_all : Nat := 59
abbrev whole_answer : Nat := 60
abbrev _law_refused : Nat := 61
abbrev Program__eq__ : Nat := 62
abbrev _law_shown : Nat := 63
abbrev parts_of_running : Nat := 64
abbrev Program_parts : Nat := 65
abbrev _law_read : Nat := 66
abbrev read_group : Nat := 67
abbrev is_named : Nat := 68
abbrev law_k17 : Nat := 69
abbrev write : Nat := 70
abbrev _law_lines : Nat := 71
abbrev read : Nat := 72
abbrev reading_text : Nat := 73
abbrev shown : Nat := 74
abbrev _law_shown_text : Nat := 75
abbrev _law_reading_text : Nat := 76
abbrev part_of : Nat := 77
abbrev reading_of : Nat := 78
abbrev is_reading : Nat := 79
abbrev is_part : Nat := 80
end f
end My

set_option Elab.async false
set_option linter.all false
set_option maxRecDepth 100000
/-! R1: the evaluator by rows, each continuation a name. Plain Lean. -/
namespace My
/-- a rule that the kernel need not check again at each use -/
theorem no_rfl {α : Type} {a b : α} (h : a = b) : a = b := h
def R.bd {α β : Type} : R α → (α → Wd → R β) → R β
  | .ok a w, f => f a w
  | .exc c fs w, _ => .exc c fs w
  | .bad, _ => .bad
def R.dv : R Rv → R D
  | .ok a w => .ok a.d w
  | .exc c fs w => .exc c fs w
  | .bad => .bad
def R.st {α : Type} : R α → Env → (α → MS) → RS
  | .ok a w, _, f => f a w
  | .exc c fs w, ρ, _ => .ex c fs ρ w
  | .bad, _, _ => .bad
def oR {α : Type} : Option α → Wd → R α
  | some a, w => .ok a w
  | none, _ => .bad
def oV : Option D → Wd → R Rv
  | some a, w => .ok (.v a) w
  | none, _ => .bad
def oB : Option Bool → Wd → R Rv
  | some a, w => .ok (.v (.bl a)) w
  | none, _ => .bad
section
variable {α β : Type} {G : Gx} {ρ : Env} {w w' : Wd} {c : Nat} {fs : List (Nat × D)}
@[simp] theorem rbd_ok (a : α) (f : α → Wd → R β) : R.bd (.ok a w) f = f a w := no_rfl rfl
@[simp] theorem rbd_exc (f : α → Wd → R β) : R.bd (.exc c fs w) f = .exc c fs w := no_rfl rfl
@[simp] theorem rdv_ok (a : Rv) : R.dv (.ok a w) = .ok a.d w := no_rfl rfl
@[simp] theorem rdv_exc : R.dv (.exc c fs w) = .exc c fs w := no_rfl rfl
@[simp] theorem rst_ok (a : α) (f : α → MS) : R.st (.ok a w) ρ f = f a w := no_rfl rfl
@[simp] theorem rst_exc (f : α → MS) : R.st (.exc c fs w) ρ f = .ex c fs ρ w := no_rfl rfl
@[simp] theorem rvd_v (d : D) : (Rv.v d).d = d := no_rfl rfl
@[simp] theorem rvd_o (o : Own) : (Rv.o o).d = o.frz := no_rfl rfl
@[simp] theorem frz_lst (l : List D) : (Own.lst l).frz = .lst l := no_rfl rfl
@[simp] theorem frz_dct (l : List (D × D)) : (Own.dct l).frz = .dct l := no_rfl rfl
@[simp] theorem frz_ins (c : Nat) (l : List (Nat × D)) : (Own.ins c l).frz = .ins c l := no_rfl rfl
@[simp] theorem oR_some (a : α) : oR (some a) w = .ok a w := no_rfl rfl
@[simp] theorem oV_some (a : D) : oV (some a) w = .ok (.v a) w := no_rfl rfl
@[simp] theorem oB_some (a : Bool) : oB (some a) w = .ok (.v (.bl a)) w := no_rfl rfl
theorem rv_app (o : Option Rv) : rv o w = oR o w := by cases o <;> rfl
theorem vl_app (o : Option D) : vl o w = oV o w := by cases o <;> rfl
theorem bl_app (o : Option Bool) : bl o w = oB o w := by cases o <;> rfl
theorem val_app (m : M Rv) : val m w = (m w).dv := by unfold val M.bd R.dv; cases m w <;> rfl
theorem bd_app (m : M α) (f : α → M β) : m.bd f w = (m w).bd f := by unfold M.bd R.bd; cases m w <;> rfl
theorem st_app (m : M α) (f : α → MS) : m.st ρ f w = (m w).st ρ f := by unfold M.st R.st; cases m w <;> rfl

/-! names -/
def rdV : Option Slot → Wd → R Rv
  | some (.v d), w => .ok (.v d) w
  | _, _ => .bad
def rdB : Option Slot → Wd → R D
  | some (.v d), w => .ok d w
  | some (.o o), w => .ok o.frz w
  | _, _ => .bad
@[simp] theorem rdV_v (d : D) : rdV (some (.v d)) w = .ok (.v d) w := no_rfl rfl
@[simp] theorem rdB_v (d : D) : rdB (some (.v d)) w = .ok d w := no_rfl rfl
@[simp] theorem rdB_o (o : Own) : rdB (some (.o o)) w = .ok o.frz w := no_rfl rfl
@[simp] theorem ev_var (i : Nat) : ev G (.var i) ρ w = rdV ρ[i]? w := by
  show (match ρ[i]? with
    | some (.v d) => M.ret (Rv.v d)
    | _ => fun _ => R.bad) w = _
  cases ρ[i]? with
  | none => rfl
  | some s => cases s <;> rfl
/-- what is read at once -/
def eB (G : Gx) (e : E) (ρ : Env) (w : Wd) : R D := bas e ρ (ev G e ρ) w
theorem eB_eq (e : E) : bas e ρ (ev G e ρ) w = eB G e ρ w := rfl
@[simp] theorem eB_var (i : Nat) : eB G (.var i) ρ w = rdB ρ[i]? w := by
  show (match ρ[i]? with
    | some (.o w) => M.ret w.frz
    | _ => val (ev G (.var i) ρ)) w = _
  cases h : ρ[i]? with
  | none => dsimp only; rw [val_app, ev_var, h]; rfl
  | some s => cases s <;> dsimp only <;> (try rw [val_app, ev_var, h]) <;> rfl
theorem eB_else {e : E} (h : ∀ i, e ≠ .var i) : eB G e ρ w = (ev G e ρ w).dv := by
  unfold eB
  rw [← val_app]
  cases e <;> first | rfl | exact absurd rfl (h _)
@[simp] theorem eB_cst (d : D) : eB G (.cst d) ρ w = .ok d w := no_rfl rfl
@[simp] theorem ev_cst (d : D) : ev G (.cst d) ρ w = .ok (.v d) w := no_rfl rfl
@[simp] theorem eB_glb (x : Nat) : eB G (.glb x) ρ w = (oV (G.gl x) w).dv := by rw [eB_else (by simp)]; exact congrArg _ (vl_app _)
@[simp] theorem ev_glb (x : Nat) : ev G (.glb x) ρ w = oV (G.gl x) w := vl_app _
def kEs2 (x : D) (xs : List D) (w : Wd) : R (List D) := .ok (x :: xs) w
def kEs (G : Gx) (es : Es) (ρ : Env) (x : D) (w : Wd) : R (List D) := (evs G es ρ w).bd (kEs2 x)
def kEb (G : Gx) (es : Es) (ρ : Env) (x : D) (w : Wd) : R (List D) := (evb G es ρ w).bd (kEs2 x)
@[simp] theorem kEs2_eq (x : D) (xs : List D) : kEs2 x xs w = .ok (x :: xs) w := no_rfl rfl
@[simp] theorem kEs_eq (es : Es) (x : D) : kEs G es ρ x w = (evs G es ρ w).bd (kEs2 x) := no_rfl rfl
@[simp] theorem kEb_eq (es : Es) (x : D) : kEb G es ρ x w = (evb G es ρ w).bd (kEs2 x) := no_rfl rfl
@[simp] theorem evs_nil : evs G .nil ρ w = .ok [] w := no_rfl rfl
@[simp] theorem evb_nil : evb G .nil ρ w = .ok [] w := no_rfl rfl
@[simp] theorem evs_cons (e : E) (es : Es) : evs G (.cons e es) ρ w = (ev G e ρ w).dv.bd (kEs G es ρ) := by
  show (val (ev G e ρ)).bd (fun x => (evs G es ρ).bd fun xs => M.ret (x :: xs)) w = _
  rw [bd_app, val_app]
  congr 1; funext x w1; exact bd_app _ _
@[simp] theorem evb_cons (e : E) (es : Es) : evb G (.cons e es) ρ w = (eB G e ρ w).bd (kEb G es ρ) := by
  show (bas e ρ (ev G e ρ)).bd (fun x => (evb G es ρ).bd fun xs => M.ret (x :: xs)) w = _
  rw [bd_app]
  congr 1; funext x w1; exact bd_app _ _
def kTup (ds : List D) (w : Wd) : R Rv := if ds.length ≤ 100 then .ok (.v (.tup ds)) w else .bad
def kLst (ds : List D) (w : Wd) : R Rv := if ds.length ≤ 100 then .ok (.o (.lst ds)) w else .bad
@[simp] theorem kTup_eq (ds : List D) : kTup ds w = if ds.length ≤ 100 then .ok (.v (.tup ds)) w else .bad := no_rfl rfl
@[simp] theorem kLst_eq (ds : List D) : kLst ds w = if ds.length ≤ 100 then .ok (.o (.lst ds)) w else .bad := no_rfl rfl
@[simp] theorem ev_tup (es : Es) : ev G (.tup es) ρ w = (evs G es ρ w).bd kTup := by
  refine (bd_app _ _).trans ?_
  congr 1; funext x w1; unfold kTup; split <;> rfl
@[simp] theorem ev_lst (es : Es) : ev G (.lst es) ρ w = (evs G es ρ w).bd kLst := by
  refine (bd_app _ _).trans ?_
  congr 1; funext x w1; unfold kLst; split <;> rfl
@[simp] theorem ev_dct0 : ev G .dct0 ρ w = .ok (.o (.dct [])) w := no_rfl rfl
def kOp2 (o : Op) (x y : D) (w : Wd) : R Rv := oR (dOp o (deref w x) (deref w y)) w
def kOp (G : Gx) (o : Op) (b : E) (ρ : Env) (x : D) (w : Wd) : R Rv := (eB G b ρ w).bd (kOp2 o x)
@[simp] theorem kOp2_eq (o : Op) (x y : D) : kOp2 o x y w = oR (dOp o (deref w x) (deref w y)) w := no_rfl rfl
@[simp] theorem kOp_eq (o : Op) (b : E) (x : D) : kOp G o b ρ x w = (eB G b ρ w).bd (kOp2 o x) := no_rfl rfl
@[simp] theorem ev_op (o : Op) (a b : E) : ev G (.op o a b) ρ w = (eB G a ρ w).bd (kOp G o b ρ) := by
  refine (bd_app _ _).trans ?_
  congr 1; funext x w1
  refine (bd_app _ _).trans ?_
  congr 1; funext y w2
  exact rv_app _
def kCm2 (o : Cm) (x y : D) (w : Wd) : R Rv := oB (dCmp o (deref w x) (deref w y)) w
def kCm (G : Gx) (o : Cm) (b : E) (ρ : Env) (x : D) (w : Wd) : R Rv := (eB G b ρ w).bd (kCm2 o x)
@[simp] theorem kCm2_eq (o : Cm) (x y : D) : kCm2 o x y w = oB (dCmp o (deref w x) (deref w y)) w := no_rfl rfl
@[simp] theorem kCm_eq (o : Cm) (b : E) (x : D) : kCm G o b ρ x w = (eB G b ρ w).bd (kCm2 o x) := no_rfl rfl
@[simp] theorem ev_cmp (o : Cm) (a b : E) : ev G (.cmp o a b) ρ w = (eB G a ρ w).bd (kCm G o b ρ) := by
  refine (bd_app _ _).trans ?_
  congr 1; funext x w1
  refine (bd_app _ _).trans ?_
  congr 1; funext y w2
  exact bl_app _
def kAnd (G : Gx) (b : E) (ρ : Env) (x : Rv) (w : Wd) : R Rv := match x with
  | .v (.bl true) => ev G b ρ w
  | .v (.bl false) => .ok (.v (.bl false)) w
  | _ => .bad
def kOr (G : Gx) (b : E) (ρ : Env) (x : Rv) (w : Wd) : R Rv := match x with
  | .v (.bl true) => .ok (.v (.bl true)) w
  | .v (.bl false) => ev G b ρ w
  | _ => .bad
@[simp] theorem kAnd_t (b : E) : kAnd G b ρ (.v (.bl true)) w = ev G b ρ w := no_rfl rfl
@[simp] theorem kAnd_f (b : E) : kAnd G b ρ (.v (.bl false)) w = .ok (.v (.bl false)) w := no_rfl rfl
@[simp] theorem kOr_t (b : E) : kOr G b ρ (.v (.bl true)) w = .ok (.v (.bl true)) w := no_rfl rfl
@[simp] theorem kOr_f (b : E) : kOr G b ρ (.v (.bl false)) w = ev G b ρ w := no_rfl rfl
@[simp] theorem ev_and (a b : E) : ev G (.and a b) ρ w = (ev G a ρ w).bd (kAnd G b ρ) := by
  refine (bd_app _ _).trans ?_
  congr 1; funext x w1; cases x with
  | v d => cases d <;> first | rfl | (rename_i b; cases b <;> rfl)
  | o o => rfl
@[simp] theorem ev_or (a b : E) : ev G (.or a b) ρ w = (ev G a ρ w).bd (kOr G b ρ) := by
  refine (bd_app _ _).trans ?_
  congr 1; funext x w1; cases x with
  | v d => cases d <;> first | rfl | (rename_i b; cases b <;> rfl)
  | o o => rfl
def kTr (x : D) (w : Wd) : R Bool := oR (truth (deref w x)) w
@[simp] theorem kTr_eq (x : D) : kTr x w = oR (truth (deref w x)) w := no_rfl rfl
theorem tr_eq (x : D) (w : Wd) : (match truth (deref w x) with
    | some b => R.ok b w
    | none => .bad) = oR (truth (deref w x)) w := by cases truth (deref w x) <;> rfl
def kNot (b : Bool) (w : Wd) : R Rv := .ok (.v (.bl (!b))) w
@[simp] theorem kNot_eq (b : Bool) : kNot b w = .ok (.v (.bl (!b))) w := no_rfl rfl
@[simp] theorem ev_not (a : E) : ev G (.not a) ρ w = ((ev G a ρ w).dv.bd kTr).bd kNot := by
  refine (bd_app _ _).trans ?_
  show R.bd (tru (ev G a ρ) w) kNot = _
  congr 1
  refine (bd_app (ev G a ρ) _).trans ?_
  unfold R.bd R.dv
  cases ev G a ρ w with
  | ok r w1 => exact tr_eq _ _
  | exc c fs w1 => rfl
  | bad => rfl
def kIte (G : Gx) (a b : E) (ρ : Env) (c : Bool) (w : Wd) : R Rv := if c then ev G a ρ w else ev G b ρ w
@[simp] theorem kIte_t (a b : E) : kIte G a b ρ true w = ev G a ρ w := no_rfl rfl
@[simp] theorem kIte_f (a b : E) : kIte G a b ρ false w = ev G b ρ w := no_rfl rfl
@[simp] theorem ev_ite (t : T) (a b : E) : ev G (.ite t a b) ρ w = (evT G t ρ w).bd (kIte G a b ρ) := by
  refine (bd_app _ _).trans ?_
  congr 1; funext x w1; unfold kIte; split <;> rfl
def kNeg (x : D) (w : Wd) : R Rv := match x with
  | .int i => .ok (.v (.int (-i))) w
  | _ => .bad
@[simp] theorem kNeg_eq (i : Int) : kNeg (.int i) w = .ok (.v (.int (-i))) w := no_rfl rfl
@[simp] theorem ev_neg (a : E) : ev G (.neg a) ρ w = (ev G a ρ w).dv.bd kNeg := by
  refine (bd_app _ _).trans ?_
  rw [val_app]
  congr 1; funext x w1; cases x <;> rfl
def kIx2 (x y : D) (w : Wd) : R Rv := oV (dIdx (deref w x) y) w
def kIx (G : Gx) (b : E) (ρ : Env) (x : D) (w : Wd) : R Rv := (ev G b ρ w).dv.bd (kIx2 x)
@[simp] theorem kIx2_eq (x y : D) : kIx2 x y w = oV (dIdx (deref w x) y) w := no_rfl rfl
@[simp] theorem kIx_eq (b : E) (x : D) : kIx G b ρ x w = (ev G b ρ w).dv.bd (kIx2 x) := no_rfl rfl
@[simp] theorem ev_idx (a b : E) : ev G (.idx a b) ρ w = (eB G a ρ w).bd (kIx G b ρ) := by
  refine (bd_app _ _).trans ?_
  congr 1; funext x w1
  refine (bd_app _ _).trans ?_
  rw [val_app]
  congr 1; funext y w2
  exact vl_app _
def kSlc3 (x : D) (i j : Option Int) (w : Wd) : R Rv := oR (dCut (deref w x) i j) w
def kSlc2 (G : Gx) (hi : Oe) (ρ : Env) (x : D) (i : Option Int) (w : Wd) : R Rv := (evo G hi ρ w).bd (kSlc3 x i)
def kSlc (G : Gx) (lo hi : Oe) (ρ : Env) (x : D) (w : Wd) : R Rv := (evo G lo ρ w).bd (kSlc2 G hi ρ x)
@[simp] theorem kSlc3_eq (x : D) (i j : Option Int) : kSlc3 x i j w = oR (dCut (deref w x) i j) w := no_rfl rfl
@[simp] theorem kSlc2_eq (hi : Oe) (x : D) (i : Option Int) : kSlc2 G hi ρ x i w = (evo G hi ρ w).bd (kSlc3 x i) := no_rfl rfl
@[simp] theorem kSlc_eq (lo hi : Oe) (x : D) : kSlc G lo hi ρ x w = (evo G lo ρ w).bd (kSlc2 G hi ρ x) := no_rfl rfl
@[simp] theorem ev_slc (a : E) (lo hi : Oe) : ev G (.slc a lo hi) ρ w = (eB G a ρ w).bd (kSlc G lo hi ρ) := by
  refine (bd_app _ _).trans ?_
  congr 1; funext x w1
  refine (bd_app _ _).trans ?_
  congr 1; funext y w2
  refine (bd_app _ _).trans ?_
  congr 1; funext z w3
  exact rv_app _
def kOi (x : D) (w : Wd) : R (Option Int) := match x with
  | .int i => .ok (some i) w
  | _ => .bad
@[simp] theorem kOi_eq (i : Int) : kOi (.int i) w = .ok (some i) w := no_rfl rfl
@[simp] theorem evo_no : evo G .no ρ w = .ok none w := no_rfl rfl
@[simp] theorem evo_so (e : E) : evo G (.so e) ρ w = (ev G e ρ w).dv.bd kOi := by
  refine (bd_app _ _).trans ?_
  rw [val_app]
  congr 1; funext x w1; cases x <;> rfl
def kRev (x : D) (w : Wd) : R Rv := match x with
  | .str s => .ok (.v (.str s.reverse)) w
  | _ => .bad
@[simp] theorem kRev_eq (s : List Nat) : kRev (.str s) w = .ok (.v (.str s.reverse)) w := no_rfl rfl
@[simp] theorem ev_rev (a : E) : ev G (.rev a) ρ w = (ev G a ρ w).dv.bd kRev := by
  refine (bd_app _ _).trans ?_
  rw [val_app]
  congr 1; funext x w1; cases x <;> rfl
def kFld (c f : Nat) (x : D) (w : Wd) : R Rv := oV (fldOf w c f x) w
@[simp] theorem kFld_eq (c f : Nat) (x : D) : kFld c f x w = oV (fldOf w c f x) w := no_rfl rfl
@[simp] theorem ev_fld (c f : Nat) (a : E) : ev G (.fld c f a) ρ w = (eB G a ρ w).bd (kFld c f) := by
  refine (bd_app _ _).trans ?_
  congr 1; funext x w1
  exact vl_app _
/-- a comprehension's turn -/
def kLcE (y : D) (w : Wd) : R (Option D) := .ok (some y) w
def kLcC (G : Gx) (elt : E) (ρ : Env) (b : Bool) (w : Wd) : R (Option D) := if b then (ev G elt ρ w).dv.bd kLcE else .ok none w
@[simp] theorem kLcE_eq (y : D) : kLcE y w = .ok (some y) w := no_rfl rfl
@[simp] theorem kLcC_t (elt : E) : kLcC G elt ρ true w = (ev G elt ρ w).dv.bd kLcE := no_rfl rfl
@[simp] theorem kLcC_f (elt : E) : kLcC G elt ρ false w = .ok none w := no_rfl rfl
def lcB (G : Gx) (tg : Tg) (cnd : Ot) (elt : E) (ρ : Env) (x : D) : M (Option D) := fun w => match bindTg tg x (wipeE tg.slots ρ) with
  | some ρ' => (evc G cnd ρ' w).bd (kLcC G elt ρ')
  | none => .bad
def kLc2 (ys : List D) (w : Wd) : R Rv := .ok (.o (.lst ys)) w
def R.nX {α : Type} : R α → R α
  | .ok a w => .ok a w
  | _ => .bad
@[simp] theorem kLc2_eq (ys : List D) : kLc2 ys w = .ok (.o (.lst ys)) w := no_rfl rfl
@[simp] theorem nX_ok (a : α) : R.nX (.ok a w) = .ok a w := no_rfl rfl
def kLc (G : Gx) (tg : Tg) (cnd : Ot) (elt : E) (ρ : Env) (xs : List D) (w : Wd) : R Rv := if xs.length ≤ lim then (lcGo (lcB G tg cnd elt ρ) xs w).nX.bd kLc2 else .bad
@[simp] theorem ev_lc (tg : Tg) (it : It) (cnd : Ot) (elt : E) : ev G (.lc tg it cnd elt) ρ w = (evi G it ρ w).bd (kLc G tg cnd elt ρ) := by
  refine (bd_app _ _).trans ?_
  congr 1; funext xs w1
  unfold kLc
  split
  · refine (bd_app _ _).trans ?_
    have e : (fun x => match bindTg tg x (wipeE tg.slots ρ) with
      | some ρ' => (evc G cnd ρ').bd fun b => if b then (val (ev G elt ρ')).bd (fun y => M.ret (some y)) else M.ret none
      | none => fun _ => .bad) = lcB G tg cnd elt ρ := by
      funext x w
      unfold lcB
      cases bindTg tg x (wipeE tg.slots ρ) with
      | none => rfl
      | some ρ' =>
        refine (bd_app _ _).trans ?_
        congr 1; funext b w2
        unfold kLcC
        cases b with
        | false => rfl
        | true => refine (bd_app _ _).trans ?_; rw [val_app]; rfl
    refine (congrArg (fun f => R.bd (M.noX (lcGo f xs) w1) (fun ys => M.ret (Rv.o (Own.lst ys)))) e).trans ?_
    have e2 : ∀ m : M (List D), M.noX m w1 = (m w1).nX := fun m => by unfold M.noX R.nX; cases m w1 <;> rfl
    rw [e2]
    rfl
  · rfl
theorem kLc_of {tg : Tg} {cnd : Ot} {elt : E} {xs ys : List D} (h : xs.length ≤ lim) (e : lcGo (lcB G tg cnd elt ρ) xs w = .ok ys w') : kLc G tg cnd elt ρ xs w = .ok (.o (.lst ys)) w' := by
  unfold kLc
  rw [if_pos h, e]
  rfl
def kCall (G : Gx) (f : Nat) (ds : List D) (w : Wd) : R Rv := G.fn f ds w
@[simp] theorem ev_call (f : Nat) (es : Es) : ev G (.call f es) ρ w = (evs G es ρ w).bd (kCall G f) := bd_app _ _
@[simp] theorem kCall_eq (P : Pg) (n : Nat) (f : Nat) (ds : List D) : kCall (P.gx (den P n)) f ds w = den P n f ds w := no_rfl rfl
def kOnly (r : Rv) (w : Wd) : R Rv := match r with
  | .o o => .ok (.o o) w
  | .v _ => .bad
@[simp] theorem kOnly_eq (o : Own) : kOnly (.o o) w = .ok (.o o) w := no_rfl rfl
def kMk (G : Gx) (f : Nat) (ds : List D) (w : Wd) : R Rv := (G.fn f ds w).bd kOnly
@[simp] theorem ev_mk (f c : Nat) (es : Es) : ev G (.mk f c es) ρ w = (evs G es ρ w).bd (kMk G f) := by
  refine (bd_app _ _).trans ?_
  congr 1; funext ds w1
  refine (bd_app _ _).trans ?_
  show R.bd (G.fn f ds w1) _ = R.bd (G.fn f ds w1) kOnly
  congr 1; funext r w2; cases r <;> rfl
@[simp] theorem kMk_eq (P : Pg) (n : Nat) (f : Nat) (ds : List D) : kMk (P.gx (den P n)) f ds w = (den P n f ds w).bd kOnly := no_rfl rfl
def kMet2 (G : Gx) (f : Nat) (x : D) (ds : List D) (w : Wd) : R Rv := G.fn f (x :: ds) w
def kMet (G : Gx) (f c : Nat) (es : Es) (ρ : Env) (x : D) (w : Wd) : R Rv := if isCls w c x then (evs G es ρ w).bd (kMet2 G f x) else .bad
@[simp] theorem kMet_eq {f : Nat} {es : Es} {x : D} (h : isCls w c x = true) : kMet G f c es ρ x w = (evs G es ρ w).bd (kMet2 G f x) := if_pos h
@[simp] theorem kMet2_eq (P : Pg) (n : Nat) (f : Nat) (x : D) (ds : List D) : kMet2 (P.gx (den P n)) f x ds w = den P n f (x :: ds) w := no_rfl rfl
@[simp] theorem ev_met (f c m : Nat) (a : E) (es : Es) : ev G (.met f c m a es) ρ w = (ev G a ρ w).dv.bd (kMet G f c es ρ) := by
  refine (bd_app _ _).trans ?_
  rw [val_app]
  congr 1; funext x w1
  unfold kMet
  split
  · exact bd_app _ _
  · rfl
def kBi (b : Bi) (ds : List D) (w : Wd) : R Rv := oR (dBi b (ds.map (deref w))) w
@[simp] theorem kBi_eq (b : Bi) (ds : List D) : kBi b ds w = oR (dBi b (ds.map (deref w))) w := no_rfl rfl
@[simp] theorem ev_bi (b : Bi) (es : Es) : ev G (.bi b es) ρ w = (evb G es ρ w).bd (kBi b) := by
  refine (bd_app _ _).trans ?_
  congr 1; funext ds w1; exact rv_app _
def isiR (t : Ty) (x : D) (w : Wd) : R Rv := match x with
  | .ins _ _ => .bad
  | d => oB (isTy t d) w
def kIsi (t : Ty) (x : D) (w : Wd) : R Rv := isiR t (deref w x) w
@[simp] theorem kIsi_eq (t : Ty) (x : D) : kIsi t x w = isiR t (deref w x) w := no_rfl rfl
@[simp] theorem isiR_non (t : Ty) : isiR t .non w = oB (isTy t .non) w := no_rfl rfl
@[simp] theorem isiR_bl (t : Ty) (b : Bool) : isiR t (.bl b) w = oB (isTy t (.bl b)) w := no_rfl rfl
@[simp] theorem isiR_int (t : Ty) (b : Int) : isiR t (.int b) w = oB (isTy t (.int b)) w := no_rfl rfl
@[simp] theorem isiR_str (t : Ty) (b : List Nat) : isiR t (.str b) w = oB (isTy t (.str b)) w := no_rfl rfl
@[simp] theorem isiR_tup (t : Ty) (b : List D) : isiR t (.tup b) w = oB (isTy t (.tup b)) w := no_rfl rfl
@[simp] theorem isiR_lst (t : Ty) (b : List D) : isiR t (.lst b) w = oB (isTy t (.lst b)) w := no_rfl rfl
@[simp] theorem ev_isi (t : Ty) (a : E) : ev G (.isi t a) ρ w = (eB G a ρ w).bd (kIsi t) := by
  refine (bd_app _ _).trans ?_
  congr 1; funext x w1
  unfold kIsi isiR
  generalize deref w1 x = d
  cases d <;> first | rfl | exact bl_app _
def kSm2 (m : Sm) (s : List Nat) (y : D) (w : Wd) : R Rv := oR (dSm m (.str s) [deref w y]) w
def kSm (G : Gx) (m : Sm) (e : E) (ρ : Env) (x : D) (w : Wd) : R Rv := match x with
  | .str s => (eB G e ρ w).bd (kSm2 m s)
  | _ => .bad
@[simp] theorem kSm_eq (m : Sm) (e : E) (s : List Nat) : kSm G m e ρ (.str s) w = (eB G e ρ w).bd (kSm2 m s) := no_rfl rfl
@[simp] theorem kSm2_eq (m : Sm) (s : List Nat) (y : D) : kSm2 m s y w = oR (dSm m (.str s) [deref w y]) w := no_rfl rfl
@[simp] theorem ev_sm (m : Sm) (a e : E) : ev G (.sm m a e) ρ w = (ev G a ρ w).dv.bd (kSm G m e ρ) := by
  refine (bd_app _ _).trans ?_
  rw [val_app]
  congr 1; funext x w1
  unfold kSm
  cases x <;> try rfl
  refine (bd_app _ _).trans ?_
  dsimp only
  congr 1; funext y w2
  exact rv_app _
def kAl (r : Rv) (w : Wd) : R Rv := match r with
  | .o o => .ok (.v (.ref w.length)) (w ++ [o])
  | .v _ => .bad
@[simp] theorem kAl_eq (o : Own) : kAl (.o o) w = .ok (.v (.ref w.length)) (w ++ [o]) := no_rfl rfl
@[simp] theorem ev_al (e : E) : ev G (.al e) ρ w = (ev G e ρ w).bd kAl := by
  refine (bd_app _ _).trans ?_
  congr 1; funext r w1; cases r <;> rfl
def kGix (G : Gx) (x : Nat) (k : D) (w : Wd) : R Rv := oV (lookD (G.gd x) k) w
@[simp] theorem kGix_eq (x : Nat) (k : D) : kGix G x k w = oV (lookD (G.gd x) k) w := no_rfl rfl
@[simp] theorem ev_gix (x : Nat) (e : E) : ev G (.gix x e) ρ w = (ev G e ρ w).dv.bd (kGix G x) := by
  refine (bd_app _ _).trans ?_
  rw [val_app]
  congr 1; funext r w1; exact vl_app _
@[simp] theorem eB_tup (es : Es) : eB G (.tup es) ρ w = (ev G (.tup es) ρ w).dv := eB_else (by simp)
@[simp] theorem eB_lst (es : Es) : eB G (.lst es) ρ w = (ev G (.lst es) ρ w).dv := eB_else (by simp)
@[simp] theorem eB_dct0 : eB G .dct0 ρ w = (ev G .dct0 ρ w).dv := eB_else (by simp)
@[simp] theorem eB_op (o : Op) (a b : E) : eB G (.op o a b) ρ w = (ev G (.op o a b) ρ w).dv := eB_else (by simp)
@[simp] theorem eB_cmp (o : Cm) (a b : E) : eB G (.cmp o a b) ρ w = (ev G (.cmp o a b) ρ w).dv := eB_else (by simp)
@[simp] theorem eB_and (a b : E) : eB G (.and a b) ρ w = (ev G (.and a b) ρ w).dv := eB_else (by simp)
@[simp] theorem eB_or (a b : E) : eB G (.or a b) ρ w = (ev G (.or a b) ρ w).dv := eB_else (by simp)
@[simp] theorem eB_not (a : E) : eB G (.not a) ρ w = (ev G (.not a) ρ w).dv := eB_else (by simp)
@[simp] theorem eB_ite (t : T) (a b : E) : eB G (.ite t a b) ρ w = (ev G (.ite t a b) ρ w).dv := eB_else (by simp)
@[simp] theorem eB_neg (a : E) : eB G (.neg a) ρ w = (ev G (.neg a) ρ w).dv := eB_else (by simp)
@[simp] theorem eB_idx (a b : E) : eB G (.idx a b) ρ w = (ev G (.idx a b) ρ w).dv := eB_else (by simp)
@[simp] theorem eB_slc (a : E) (lo hi : Oe) : eB G (.slc a lo hi) ρ w = (ev G (.slc a lo hi) ρ w).dv := eB_else (by simp)
@[simp] theorem eB_rev (a : E) : eB G (.rev a) ρ w = (ev G (.rev a) ρ w).dv := eB_else (by simp)
@[simp] theorem eB_fld (c f : Nat) (a : E) : eB G (.fld c f a) ρ w = (ev G (.fld c f a) ρ w).dv := eB_else (by simp)
@[simp] theorem eB_lc (tg : Tg) (it : It) (cnd : Ot) (elt : E) : eB G (.lc tg it cnd elt) ρ w = (ev G (.lc tg it cnd elt) ρ w).dv := eB_else (by simp)
@[simp] theorem eB_call (f : Nat) (es : Es) : eB G (.call f es) ρ w = (ev G (.call f es) ρ w).dv := eB_else (by simp)
@[simp] theorem eB_mk (f c : Nat) (es : Es) : eB G (.mk f c es) ρ w = (ev G (.mk f c es) ρ w).dv := eB_else (by simp)
@[simp] theorem eB_met (f c m : Nat) (a : E) (es : Es) : eB G (.met f c m a es) ρ w = (ev G (.met f c m a es) ρ w).dv := eB_else (by simp)
@[simp] theorem eB_bi (b : Bi) (es : Es) : eB G (.bi b es) ρ w = (ev G (.bi b es) ρ w).dv := eB_else (by simp)
@[simp] theorem eB_isi (t : Ty) (a : E) : eB G (.isi t a) ρ w = (ev G (.isi t a) ρ w).dv := eB_else (by simp)
@[simp] theorem eB_sm (m : Sm) (a e : E) : eB G (.sm m a e) ρ w = (ev G (.sm m a e) ρ w).dv := eB_else (by simp)
@[simp] theorem eB_al (e : E) : eB G (.al e) ρ w = (ev G (.al e) ρ w).dv := eB_else (by simp)
@[simp] theorem eB_gix (x : Nat) (e : E) : eB G (.gix x e) ρ w = (ev G (.gix x e) ρ w).dv := eB_else (by simp)
@[simp] theorem eB_popR (a : E) : eB G (.popR a) ρ w = (ev G (.popR a) ρ w).dv := eB_else (by simp)
@[simp] theorem eB_popR0 (a e : E) : eB G (.popR0 a e) ρ w = (ev G (.popR0 a e) ρ w).dv := eB_else (by simp)
def kIsc (c : Nat) (x : D) (w : Wd) : R Rv := if isCls w c x then .ok (.v (.bl true)) w else .bad
@[simp] theorem kIsc_eq {x : D} (h : isCls w c x = true) : kIsc c x w = .ok (.v (.bl true)) w := if_pos h
@[simp] theorem ev_isc (c : Nat) (a : E) : ev G (.isc c a) ρ w = (ev G a ρ w).dv.bd (kIsc c) := by
  refine (bd_app _ _).trans ?_
  rw [val_app]
  congr 1
def kOnlyB (r : Rv) (w : Wd) : R Rv := match r with
  | .v (.bl b) => .ok (.v (.bl b)) w
  | _ => .bad
@[simp] theorem kOnlyB_eq (b : Bool) : kOnlyB (.v (.bl b)) w = .ok (.v (.bl b)) w := no_rfl rfl
def kOe2 (G : Gx) (f c : Nat) (x y : D) (w : Wd) : R Rv := if isCls w c x = true ∧ isCls w c y = true then (G.fn f [x, y] w).bd kOnlyB else .bad
@[simp] theorem kOe2_eq (P : Pg) (n : Nat) {f : Nat} {x y : D} (h : isCls w c x = true) (h2 : isCls w c y = true) : kOe2 (P.gx (den P n)) f c x y w = (den P n f [x, y] w).bd kOnlyB := if_pos ⟨h, h2⟩
def kOe (G : Gx) (f c : Nat) (b : E) (ρ : Env) (x : D) (w : Wd) : R Rv := (ev G b ρ w).dv.bd (kOe2 G f c x)
@[simp] theorem kOe_eq (f c : Nat) (b : E) (x : D) : kOe G f c b ρ x w = (ev G b ρ w).dv.bd (kOe2 G f c x) := no_rfl rfl
theorem onlyB_k : onlyB = kOnlyB := by funext r w; cases r <;> first | rfl | (rename_i d; cases d <;> rfl)
theorem onlyO_k : onlyO = kOnly := by funext r w; cases r <;> rfl
@[simp] theorem ev_oeq (f c m : Nat) (a b : E) : ev G (.oeq f c m a b) ρ w = (ev G a ρ w).dv.bd (kOe G f c b ρ) := by
  refine (bd_app _ _).trans ?_
  rw [val_app]
  congr 1; funext x w1
  refine (bd_app _ _).trans ?_
  rw [val_app]
  unfold kOe
  congr 1; funext y w2
  unfold kOe2
  split
  · rw [bd_app, onlyB_k]
  · rfl
def kOi2 (G : Gx) (f c : Nat) (x y : D) (w : Wd) : R Rv := if isCls w c y = true then (G.fn f [y, x] w).bd kOnlyB else .bad
@[simp] theorem kOi2_eq (P : Pg) (n : Nat) {f : Nat} {x y : D} (h2 : isCls w c y = true) : kOi2 (P.gx (den P n)) f c x y w = (den P n f [y, x] w).bd kOnlyB := if_pos h2
def kOi1 (G : Gx) (f c : Nat) (b : E) (ρ : Env) (x : D) (w : Wd) : R Rv := (ev G b ρ w).dv.bd (kOi2 G f c x)
@[simp] theorem kOi1_eq (f c : Nat) (b : E) (x : D) : kOi1 G f c b ρ x w = (ev G b ρ w).dv.bd (kOi2 G f c x) := no_rfl rfl
@[simp] theorem ev_oin (f c m : Nat) (a b : E) : ev G (.oin f c m a b) ρ w = (ev G a ρ w).dv.bd (kOi1 G f c b ρ) := by
  refine (bd_app _ _).trans ?_
  rw [val_app]
  congr 1; funext x w1
  refine (bd_app _ _).trans ?_
  rw [val_app]
  unfold kOi1
  congr 1; funext y w2
  unfold kOi2
  split
  · rw [bd_app, onlyB_k]
  · rfl
def kOa2 (G : Gx) (f c : Nat) (x y : D) (w : Wd) : R Rv := if isCls w c x = true ∧ isCls w c y = true then (G.fn f [x, y] w).bd kOnly else .bad
@[simp] theorem kOa2_eq (P : Pg) (n : Nat) {f : Nat} {x y : D} (h : isCls w c x = true) (h2 : isCls w c y = true) : kOa2 (P.gx (den P n)) f c x y w = (den P n f [x, y] w).bd kOnly := if_pos ⟨h, h2⟩
def kOa (G : Gx) (f c : Nat) (b : E) (ρ : Env) (x : D) (w : Wd) : R Rv := (ev G b ρ w).dv.bd (kOa2 G f c x)
@[simp] theorem kOa_eq (f c : Nat) (b : E) (x : D) : kOa G f c b ρ x w = (ev G b ρ w).dv.bd (kOa2 G f c x) := no_rfl rfl
@[simp] theorem ev_oand (f c m : Nat) (a b : E) : ev G (.oand f c m a b) ρ w = (ev G a ρ w).dv.bd (kOa G f c b ρ) := by
  refine (bd_app _ _).trans ?_
  rw [val_app]
  congr 1; funext x w1
  refine (bd_app _ _).trans ?_
  rw [val_app]
  unfold kOa
  congr 1; funext y w2
  unfold kOa2
  split
  · rw [bd_app, onlyO_k]
  · rfl
/-! dict.get, a walk over a dict -/
def kDg3 (x y z : D) (w : Wd) : R Rv := oV (dGetD (deref w x) y z) w
def kDg2 (G : Gx) (c : E) (ρ : Env) (x y : D) (w : Wd) : R Rv := (ev G c ρ w).dv.bd (kDg3 x y)
def kDg (G : Gx) (b c : E) (ρ : Env) (x : D) (w : Wd) : R Rv := if isDct (deref w x) then (ev G b ρ w).dv.bd (kDg2 G c ρ x) else .bad
@[simp] theorem kDg3_eq (x y z : D) : kDg3 x y z w = oV (dGetD (deref w x) y z) w := no_rfl rfl
@[simp] theorem kDg2_eq (c : E) (x y : D) : kDg2 G c ρ x y w = (ev G c ρ w).dv.bd (kDg3 x y) := no_rfl rfl
@[simp] theorem kDg_eq {b c : E} {x : D} (h : isDct (deref w x) = true) : kDg G b c ρ x w = (ev G b ρ w).dv.bd (kDg2 G c ρ x) := if_pos h
@[simp] theorem ev_dget (a b c : E) : ev G (.dget a b c) ρ w = (eB G a ρ w).bd (kDg G b c ρ) := by
  refine (bd_app _ _).trans ?_
  congr 1; funext x w1
  unfold kDg
  split
  · refine (bd_app _ _).trans ?_
    rw [val_app]
    congr 1; funext y w2
    refine (bd_app _ _).trans ?_
    rw [val_app]
    unfold kDg2
    congr 1; funext z w3
    exact vl_app _
  · rfl
def kLcd (G : Gx) (tg : Tg) (cnd : Ot) (elt : E) (ρ : Env) (kvs : List (D × D)) (w : Wd) : R Rv := if (kvs.map Prod.fst).length ≤ lim ∧ (kvs.all fun (p : D × D) => okK p.1) = true then (lcGo (lcB G tg cnd elt ρ) (kvs.map Prod.fst) w).nX.bd kLc2 else .bad
def rdL (G : Gx) (tg : Tg) (cnd : Ot) (elt : E) (ρ : Env) (w : Wd) : Option Slot → R Rv
  | some (.v (.dct kvs)) => kLcd G tg cnd elt ρ kvs w
  | _ => .bad
@[simp] theorem rdL_eq (tg : Tg) (cnd : Ot) (elt : E) (kvs : List (D × D)) : rdL G tg cnd elt ρ w (some (.v (.dct kvs))) = kLcd G tg cnd elt ρ kvs w := no_rfl rfl
theorem lcB_eq (G : Gx) (tg : Tg) (cnd : Ot) (elt : E) (ρ : Env) : (fun x => match bindTg tg x (wipeE tg.slots ρ) with
      | some ρ' => (evc G cnd ρ').bd fun b => if b then (val (ev G elt ρ')).bd (fun y => M.ret (some y)) else M.ret none
      | none => fun _ => .bad) = lcB G tg cnd elt ρ := by
  funext x w
  unfold lcB
  cases bindTg tg x (wipeE tg.slots ρ) with
  | none => rfl
  | some ρ' =>
    refine (bd_app _ _).trans ?_
    congr 1; funext b w2
    unfold kLcC
    cases b with
    | false => rfl
    | true => refine (bd_app _ _).trans ?_; rw [val_app]; rfl
@[simp] theorem ev_lcd (i : Nat) (tg : Tg) (cnd : Ot) (elt : E) : ev G (.lcd i tg cnd elt) ρ w = rdL G tg cnd elt ρ w ρ[i]? := by
  show (match (ρ[i]? : Option Slot) with
    | some (Slot.v (D.dct kvs)) => if (List.map (fun (p : D × D) => p.1) kvs).length ≤ lim ∧ (kvs.all fun (p : D × D) => okK p.1) = true then ((M.noX (lcGo (fun x => match bindTg tg x (wipeE tg.slots ρ) with
      | some ρ' => (evc G cnd ρ').bd fun b => if b then (val (ev G elt ρ')).bd (fun y => M.ret (some y)) else M.ret none
      | none => fun _ => .bad) (List.map (fun (p : D × D) => p.1) kvs))).bd fun ys => M.ret (Rv.o (.lst ys))) w else R.bad
    | _ => .bad) = _
  rw [lcB_eq]
  cases ρ[i]? with
  | none => rfl
  | some s =>
    cases s with
    | v d =>
      cases d <;> try rfl
      rename_i kvs
      show _ = kLcd G tg cnd elt ρ kvs w
      unfold kLcd
      dsimp only
      split
      · refine (bd_app _ _).trans ?_
        have e2 : ∀ m : M (List D), M.noX m w = (m w).nX := fun m => by unfold M.noX R.nX; cases m w <;> rfl
        rw [e2]
        rfl
      · rfl
    | _ => rfl
theorem kLcd_of {tg : Tg} {cnd : Ot} {elt : E} {kvs : List (D × D)} {ys : List D} (h : kvs.length ≤ lim) (h2 : (kvs.all fun p => okK p.1) = true) (e : lcGo (lcB G tg cnd elt ρ) (kvs.map Prod.fst) w = .ok ys w') : kLcd G tg cnd elt ρ kvs w = .ok (.o (.lst ys)) w' := by
  unfold kLcd
  rw [if_pos ⟨by rw [List.length_map]; exact h, h2⟩, e]
  rfl
@[simp] theorem eB_isc (c : Nat) (a : E) : eB G (.isc c a) ρ w = (ev G (.isc c a) ρ w).dv := eB_else (by simp)
@[simp] theorem eB_oeq (f c m : Nat) (a b : E) : eB G (.oeq f c m a b) ρ w = (ev G (.oeq f c m a b) ρ w).dv := eB_else (by simp)
@[simp] theorem eB_oin (f c m : Nat) (a b : E) : eB G (.oin f c m a b) ρ w = (ev G (.oin f c m a b) ρ w).dv := eB_else (by simp)
@[simp] theorem eB_oand (f c m : Nat) (a b : E) : eB G (.oand f c m a b) ρ w = (ev G (.oand f c m a b) ρ w).dv := eB_else (by simp)
@[simp] theorem eB_dget (a b c : E) : eB G (.dget a b c) ρ w = (ev G (.dget a b c) ρ w).dv := eB_else (by simp)
@[simp] theorem eB_lcd (i : Nat) (tg : Tg) (cnd : Ot) (elt : E) : eB G (.lcd i tg cnd elt) ρ w = (ev G (.lcd i tg cnd elt) ρ w).dv := eB_else (by simp)
/-! tests -/
def kTA (G : Gx) (b : T) (ρ : Env) (x : Bool) (w : Wd) : R Bool := if x then evT G b ρ w else .ok false w
def kTO (G : Gx) (b : T) (ρ : Env) (x : Bool) (w : Wd) : R Bool := if x then .ok true w else evT G b ρ w
def kTN (x : Bool) (w : Wd) : R Bool := .ok (!x) w
@[simp] theorem kTA_t (b : T) : kTA G b ρ true w = evT G b ρ w := no_rfl rfl
@[simp] theorem kTA_f (b : T) : kTA G b ρ false w = .ok false w := no_rfl rfl
@[simp] theorem kTO_t (b : T) : kTO G b ρ true w = .ok true w := no_rfl rfl
@[simp] theorem kTO_f (b : T) : kTO G b ρ false w = evT G b ρ w := no_rfl rfl
@[simp] theorem kTN_eq (x : Bool) : kTN x w = .ok (!x) w := no_rfl rfl
@[simp] theorem evT_e (e : E) : evT G (.e e) ρ w = (eB G e ρ w).bd kTr := by
  refine (bd_app _ _).trans ?_
  congr 1; funext x w1; exact tr_eq _ _
@[simp] theorem evT_and (a b : T) : evT G (.and a b) ρ w = (evT G a ρ w).bd (kTA G b ρ) := by
  refine (bd_app _ _).trans ?_
  congr 1; funext x w1; cases x <;> rfl
@[simp] theorem evT_or (a b : T) : evT G (.or a b) ρ w = (evT G a ρ w).bd (kTO G b ρ) := by
  refine (bd_app _ _).trans ?_
  congr 1; funext x w1; cases x <;> rfl
@[simp] theorem evT_not (a : T) : evT G (.not a) ρ w = (evT G a ρ w).bd kTN := bd_app _ _
@[simp] theorem evc_no : evc G .no ρ w = .ok true w := no_rfl rfl
@[simp] theorem evc_so (t : T) : evc G (.so t) ρ w = evT G t ρ w := no_rfl rfl
def kIt (x : D) (w : Wd) : R (List D) := oR (items x) w
@[simp] theorem kIt_eq (x : D) : kIt x w = oR (items x) w := no_rfl rfl
@[simp] theorem evi_on (e : E) : evi G (.on e) ρ w = (ev G e ρ w).dv.bd kIt := by
  refine (bd_app _ _).trans ?_
  rw [val_app]
  congr 1; funext x w1; unfold kIt; cases items x <;> rfl
def kR1 (x : D) (w : Wd) : R (List D) := match x with
  | .int j => if -(2 ^ 62) ≤ j ∧ j < 2 ^ 62 then .ok (rngD 0 j) w else .bad
  | _ => .bad
theorem kR1_of {j : Int} (h : 0 ≤ j) (h2 : j < 2 ^ 62) : kR1 (.int j) w = .ok (rngD 0 j) w := if_pos ⟨by omega, h2⟩
@[simp] theorem evi_rng1 (e : E) : evi G (.rng1 e) ρ w = (ev G e ρ w).dv.bd kR1 := by
  refine (bd_app _ _).trans ?_
  rw [val_app]
  congr 1; funext x w1; unfold kR1; cases x <;> first | rfl | (dsimp only; split <;> rfl)
def kR22 (x y : D) (w : Wd) : R (List D) := match x, y with
  | .int i, .int j => if -(2 ^ 62) ≤ i ∧ i < 2 ^ 62 ∧ -(2 ^ 62) ≤ j ∧ j < 2 ^ 62 then .ok (rngD i j) w else .bad
  | _, _ => .bad
def kR2 (G : Gx) (b : E) (ρ : Env) (x : D) (w : Wd) : R (List D) := (ev G b ρ w).dv.bd (kR22 x)
@[simp] theorem kR2_eq (b : E) (x : D) : kR2 G b ρ x w = (ev G b ρ w).dv.bd (kR22 x) := no_rfl rfl
theorem kR22_of {i j : Int} (h : 0 ≤ i) (h2 : i < 2 ^ 62) (h3 : 0 ≤ j) (h4 : j < 2 ^ 62) : kR22 (.int i) (.int j) w = .ok (rngD i j) w := if_pos ⟨by omega, h2, by omega, h4⟩
@[simp] theorem evi_rng2 (a b : E) : evi G (.rng2 a b) ρ w = (ev G a ρ w).dv.bd (kR2 G b ρ) := by
  refine (bd_app _ _).trans ?_
  rw [val_app]
  congr 1; funext x w1
  refine (bd_app _ _).trans ?_
  rw [val_app]
  unfold kR2
  congr 1; funext y w2; unfold kR22; cases x <;> cases y <;> first | rfl | (dsimp only; split <;> rfl)
def kEn (x : D) (w : Wd) : R (List D) := match x with
  | .lst l => .ok (enmD 0 l) w
  | .tup l => .ok (enmD 0 l) w
  | _ => .bad
@[simp] theorem kEn_eq (l : List D) : kEn (.lst l) w = .ok (enmD 0 l) w := no_rfl rfl
@[simp] theorem kEn_eqT (l : List D) : kEn (.tup l) w = .ok (enmD 0 l) w := no_rfl rfl
@[simp] theorem evi_enm (e : E) : evi G (.enm e) ρ w = (ev G e ρ w).dv.bd kEn := by
  refine (bd_app _ _).trans ?_
  rw [val_app]
  congr 1; funext x w1; unfold kEn; cases x <;> rfl
def kZp2 (x y : D) (w : Wd) : R (List D) := match x, y with
  | .lst l, .lst r => .ok (zpD l r) w
  | .tup l, .tup r => .ok (zpD l r) w
  | .tup l, .lst r => .ok (zpD l r) w
  | _, _ => .bad
def kZp (G : Gx) (b : E) (ρ : Env) (x : D) (w : Wd) : R (List D) := (ev G b ρ w).dv.bd (kZp2 x)
@[simp] theorem kZp_eq (b : E) (x : D) : kZp G b ρ x w = (ev G b ρ w).dv.bd (kZp2 x) := no_rfl rfl
@[simp] theorem kZp2_eq (l r : List D) : kZp2 (.lst l) (.lst r) w = .ok (zpD l r) w := no_rfl rfl
@[simp] theorem kZp2_eqT (l r : List D) : kZp2 (.tup l) (.tup r) w = .ok (zpD l r) w := no_rfl rfl
@[simp] theorem kZp2_eqM (l r : List D) : kZp2 (.tup l) (.lst r) w = .ok (zpD l r) w := no_rfl rfl
@[simp] theorem evi_zp (a b : E) : evi G (.zp a b) ρ w = (ev G a ρ w).dv.bd (kZp G b ρ) := by
  refine (bd_app _ _).trans ?_
  rw [val_app]
  congr 1; funext x w1
  refine (bd_app _ _).trans ?_
  rw [val_app]
  unfold kZp
  congr 1; funext y w2; unfold kZp2; cases x <;> cases y <;> rfl
end
end My

set_option Elab.async false
set_option linter.all false
set_option maxRecDepth 100000
/-! R2: statements by rows. -/
namespace My
section
variable {G : Gx} {ρ : Env} {w w' : Wd} {c : Nat} {fs : List (Nat × D)}
@[simp] theorem sq_nx (f : Env → MS) : RS.sq (.nx ρ w) f = f ρ w := no_rfl rfl
@[simp] theorem sq_rt (r : Rv) (f : Env → MS) : RS.sq (.rt r w) f = .rt r w := no_rfl rfl
@[simp] theorem sq_bk (f : Env → MS) : RS.sq (.bk ρ w) f = .bk ρ w := no_rfl rfl
@[simp] theorem sq_ct (f : Env → MS) : RS.sq (.ct ρ w) f = .ct ρ w := no_rfl rfl
@[simp] theorem sq_ex (f : Env → MS) : RS.sq (.ex c fs ρ w) f = .ex c fs ρ w := no_rfl rfl
@[simp] theorem evSs_nil : evSs G .nil ρ w = .nx ρ w := no_rfl rfl
@[simp] theorem evSs_cons (s : S) (ss : Ss) : evSs G (.cons s ss) ρ w = (evS G s ρ w).sq (evSs G ss) := no_rfl rfl
def kAsg (i : Nat) (ρ : Env) (x : D) (w : Wd) : RS := .nx (ρ.set i (.v x)) w
@[simp] theorem kAsg_eq (i : Nat) (x : D) : kAsg i ρ x w = .nx (ρ.set i (.v x)) w := no_rfl rfl
@[simp] theorem evS_asg (i : Nat) (e : E) : evS G (.asg i e) ρ w = (ev G e ρ w).dv.st ρ (kAsg i ρ) := by
  refine (st_app _ _).trans ?_; rw [val_app]; rfl
def kAsT (l : List Nat) (ρ : Env) (x : D) (w : Wd) : RS := match bindTg (.tp l) x ρ with
  | some ρ' => .nx ρ' w
  | none => .bad
theorem kAsT_of {l : List Nat} {x : D} {ρ' : Env} (h : bindTg (.tp l) x ρ = some ρ') : kAsT l ρ x w = .nx ρ' w := by unfold kAsT; rw [h]
@[simp] theorem kAsT_2 (i j : Nat) (x y : D) : kAsT [i, j] ρ (.tup [x, y]) w = .nx ((ρ.set i (.v x)).set j (.v y)) w := no_rfl rfl
@[simp] theorem kAsT_3 (i j k : Nat) (x y z : D) : kAsT [i, j, k] ρ (.tup [x, y, z]) w = .nx (((ρ.set i (.v x)).set j (.v y)).set k (.v z)) w := no_rfl rfl
@[simp] theorem evS_asgT (l : List Nat) (e : E) : evS G (.asgT l e) ρ w = (ev G e ρ w).dv.st ρ (kAsT l ρ) := by
  refine (st_app _ _).trans ?_; rw [val_app]; rfl
def kAsO (i : Nat) (ρ : Env) (r : Rv) (w : Wd) : RS := match r with
  | .o o => if o.isI then .bad else .nx (ρ.set i (.o o)) w
  | .v _ => .bad
@[simp] theorem kAsO_lst (i : Nat) (l : List D) : kAsO i ρ (.o (.lst l)) w = .nx (ρ.set i (.o (.lst l))) w := no_rfl rfl
@[simp] theorem kAsO_dct (i : Nat) (l : List (D × D)) : kAsO i ρ (.o (.dct l)) w = .nx (ρ.set i (.o (.dct l))) w := no_rfl rfl
@[simp] theorem evS_asgO (i : Nat) (e : E) : evS G (.asgO i e) ρ w = (ev G e ρ w).st ρ (kAsO i ρ) := by
  refine (st_app _ _).trans ?_
  refine congrArg (R.st _ _) ?_; funext r w1; cases r <;> rfl
/-- a store into an own object -/
def stR (o : Own) (x v : D) (i : Nat) (ρ : Env) (w : Wd) : RS := match stO o x v with
  | some o' => .nx (ρ.set i (.o o')) w
  | none => .bad
theorem stR_of {o o' : Own} {x v : D} {i : Nat} (h : stO o x v = some o') : stR o x v i ρ w = .nx (ρ.set i (.o o')) w := by unfold stR; rw [h]
def kSetI2 (o : Own) (v : D) (i : Nat) (ρ : Env) (x : D) (w : Wd) : RS := stR o x v i ρ w
def kSetI (G : Gx) (i : Nat) (k : E) (ρ : Env) (v : D) (w : Wd) : RS := match ρ[i]? with
  | some (.o o) => (ev G k ρ w).dv.st ρ (kSetI2 o v i ρ)
  | _ => .bad
@[simp] theorem kSetI2_eq (o : Own) (v : D) (i : Nat) (x : D) : kSetI2 o v i ρ x w = stR o x v i ρ w := no_rfl rfl
@[simp] theorem kSetI_eq {i : Nat} {k : E} {v : D} {o : Own} (h : ρ[i]? = some (.o o)) : kSetI G i k ρ v w = (ev G k ρ w).dv.st ρ (kSetI2 o v i ρ) := by unfold kSetI; rw [h]
@[simp] theorem evS_setI (i : Nat) (k e : E) : evS G (.setI i k e) ρ w = (ev G e ρ w).dv.st ρ (kSetI G i k ρ) := by
  refine (st_app _ _).trans ?_
  rw [val_app]
  refine congrArg (R.st _ _) ?_; funext v w1
  unfold kSetI
  cases h : ρ[i]? with
  | none => rfl
  | some s => cases s with
    | o o => 
      refine (st_app _ _).trans ?_
      rw [val_app]
      refine congrArg (R.st _ _) ?_; funext x w2
      show _ = stR o x v i ρ w2
      unfold stR
      cases stO o x v <;> rfl
    | _ => rfl
def kSetL (G : Gx) (i : Nat) (k : E) (ρ : Env) (v : D) (w : Wd) : RS := match ρ[i]? with
  | some (.o (.lst ds)) => (ev G k ρ w).dv.st ρ (kSetI2 (.lst ds) v i ρ)
  | _ => .bad
@[simp] theorem kSetL_eq {i : Nat} {k : E} {v : D} {ds : List D} (h : ρ[i]? = some (.o (.lst ds))) : kSetL G i k ρ v w = (ev G k ρ w).dv.st ρ (kSetI2 (.lst ds) v i ρ) := by unfold kSetL; rw [h]
@[simp] theorem evS_setL (i : Nat) (k e : E) : evS G (.setL i k e) ρ w = (ev G e ρ w).dv.st ρ (kSetL G i k ρ) := by
  refine (st_app _ _).trans ?_
  rw [val_app]
  refine congrArg (R.st _ _) ?_; funext v w1
  unfold kSetL
  cases h : ρ[i]? with
  | none => rfl
  | some s => cases s with
    | o o =>
      cases o with
      | lst ds =>
        refine (st_app _ _).trans ?_
        rw [val_app]
        refine congrArg (R.st _ _) ?_; funext x w2
        show _ = stR (.lst ds) x v i ρ w2
        unfold stR
        cases stO (.lst ds) x v <;> rfl
      | _ => rfl
    | _ => rfl
def stW (n : Nat) (x v : D) (ρ : Env) (w : Wd) : RS := match w[n]? with
  | some o => (match stO o x v with
    | some o' => .nx ρ (w.set n o')
    | none => .bad)
  | none => .bad
theorem stW_of {o o' : Own} {x v : D} {n : Nat} (h1 : w[n]? = some o) (h : stO o x v = some o') : stW n x v ρ w = .nx ρ (w.set n o') := by unfold stW; rw [h1]; dsimp only; rw [h]
def kSetR3 (v : D) (y : D) (ρ : Env) (x : D) (w : Wd) : RS := match y with
  | .ref n => stW n x v ρ w
  | _ => .bad
@[simp] theorem kSetR3_eq (v : D) (n : Nat) (x : D) : kSetR3 v (.ref n) ρ x w = stW n x v ρ w := no_rfl rfl
def kSetR2 (G : Gx) (k : E) (ρ : Env) (v y : D) (w : Wd) : RS := (ev G k ρ w).dv.st ρ (kSetR3 v y ρ)
@[simp] theorem kSetR2_eq (k : E) (v y : D) : kSetR2 G k ρ v y w = (ev G k ρ w).dv.st ρ (kSetR3 v y ρ) := no_rfl rfl
def kSetR (G : Gx) (a k : E) (ρ : Env) (v : D) (w : Wd) : RS := (ev G a ρ w).dv.st ρ (kSetR2 G k ρ v)
@[simp] theorem kSetR_eq (a k : E) (v : D) : kSetR G a k ρ v w = (ev G a ρ w).dv.st ρ (kSetR2 G k ρ v) := no_rfl rfl
@[simp] theorem evS_setR (a k e : E) : evS G (.setR a k e) ρ w = (ev G e ρ w).dv.st ρ (kSetR G a k ρ) := by
  refine (st_app _ _).trans ?_
  rw [val_app]
  refine congrArg (R.st _ _) ?_; funext v w1
  refine (st_app _ _).trans ?_
  rw [val_app]
  unfold kSetR
  refine congrArg (R.st _ _) ?_; funext y w2
  refine (st_app _ _).trans ?_
  rw [val_app]
  unfold kSetR2
  refine congrArg (R.st _ _) ?_; funext x w3
  unfold kSetR3
  cases y <;> rfl
/-- a store into a field -/
def stF (c n f : Nat) (v : D) (ρ : Env) (w : Wd) : RS := match w[n]? with
  | some (.ins c' fs) => if c' = c ∧ fs.length < 1000 then .nx ρ (w.set n (.ins c' (putFs fs f v))) else .bad
  | _ => .bad
theorem stF_of {c n f : Nat} {fs : List (Nat × D)} {v : D} (h : w[n]? = some (.ins c fs)) (h2 : fs.length < 1000) : stF c n f v ρ w = .nx ρ (w.set n (.ins c (putFs fs f v))) := by
  unfold stF; rw [h]; exact if_pos ⟨rfl, h2⟩
def kSetF2 (c f : Nat) (v : D) (ρ : Env) (y : D) (w : Wd) : RS := match y with
  | .ref n => stF c n f v ρ w
  | _ => .bad
@[simp] theorem kSetF2_eq (c f n : Nat) (v : D) : kSetF2 c f v ρ (.ref n) w = stF c n f v ρ w := no_rfl rfl
def kSetF (G : Gx) (c f : Nat) (a : E) (ρ : Env) (v : D) (w : Wd) : RS := (ev G a ρ w).dv.st ρ (kSetF2 c f v ρ)
@[simp] theorem kSetF_eq (c f : Nat) (a : E) (v : D) : kSetF G c f a ρ v w = (ev G a ρ w).dv.st ρ (kSetF2 c f v ρ) := no_rfl rfl
@[simp] theorem evS_setF (c f : Nat) (a e : E) : evS G (.setF c a f e) ρ w = (ev G e ρ w).dv.st ρ (kSetF G c f a ρ) := by
  refine (st_app _ _).trans ?_
  rw [val_app]
  refine congrArg (R.st _ _) ?_; funext v w1
  refine (st_app _ _).trans ?_
  rw [val_app]
  unfold kSetF
  refine congrArg (R.st _ _) ?_; funext y w2
  unfold kSetF2
  cases y <;> rfl
def kSetS (c f : Nat) (ρ : Env) (v : D) (w : Wd) : RS := match (ρ[(0 : Nat)]? : Option Slot) with
  | some (.o (.ins c' fs)) => if c' = c ∧ fs.length < 1000 then .nx (ρ.set 0 (.o (.ins c' (putFs fs f v)))) w else .bad
  | _ => .bad
theorem kSetS_of {c f : Nat} {fs : List (Nat × D)} {v : D} {r : Env} (h2 : fs.length < 1000) : kSetS c f (.o (.ins c fs) :: r) v w = .nx (.o (.ins c (putFs fs f v)) :: r) w := if_pos ⟨rfl, h2⟩
@[simp] theorem evS_setS (c f : Nat) (e : E) : evS G (.setS c f e) ρ w = (ev G e ρ w).dv.st ρ (kSetS c f ρ) := by
  refine (st_app _ _).trans ?_; rw [val_app]; rfl
def kApp (i : Nat) (ds : List D) (ρ : Env) (v : D) (w : Wd) : RS := .nx (ρ.set i (.o (.lst (ds ++ [v])))) w
@[simp] theorem kApp_eq (i : Nat) (ds : List D) (v : D) : kApp i ds ρ v w = .nx (ρ.set i (.o (.lst (ds ++ [v])))) w := no_rfl rfl
theorem evS_app {i : Nat} {e : E} {ds : List D} (h : ρ[i]? = some (.o (.lst ds))) (h2 : ds.length < lim) : evS G (.app i e) ρ w = (ev G e ρ w).dv.st ρ (kApp i ds ρ) := by
  show (match ρ[i]? with
    | some (.o (.lst ds)) => if ds.length < lim then (val (ev G e ρ)).st ρ (fun v w => .nx (ρ.set i (.o (.lst (ds ++ [v])))) w) w else RS.bad
    | _ => .bad) = _
  rw [h]
  dsimp only
  rw [if_pos h2]
  refine (st_app _ _).trans ?_; rw [val_app]; rfl
def appK (G : Gx) (i : Nat) (e : E) (ρ : Env) (w : Wd) : Option Slot → RS
  | some (.o (.lst ds)) => if ds.length < lim then (ev G e ρ w).dv.st ρ (kApp i ds ρ) else .bad
  | _ => .bad
@[simp] theorem appK_lst (i : Nat) (e : E) (ds : List D) : appK G i e ρ w (some (.o (.lst ds))) = if ds.length < lim then (ev G e ρ w).dv.st ρ (kApp i ds ρ) else .bad := no_rfl rfl
theorem evS_appK (i : Nat) (e : E) : evS G (.app i e) ρ w = appK G i e ρ w ρ[i]? := by
  show (match ρ[i]? with
    | some (.o (.lst ds)) => if ds.length < lim then (val (ev G e ρ)).st ρ (fun v w => .nx (ρ.set i (.o (.lst (ds ++ [v])))) w) w else RS.bad
    | _ => .bad) = _
  cases ρ[i]? with
  | none => rfl
  | some s =>
    cases s <;> try rfl
    rename_i o
    cases o <;> try rfl
    unfold appK
    dsimp only
    split
    · refine (st_app _ _).trans ?_; rw [val_app]; rfl
    · rfl
def apW (n : Nat) (v : D) (ρ : Env) (w : Wd) : RS := match w[n]? with
  | some (.lst ds) => if ds.length < lim then .nx ρ (w.set n (.lst (ds ++ [v]))) else .bad
  | _ => .bad
theorem apW_of {n : Nat} {v : D} {ds : List D} (h : w[n]? = some (.lst ds)) (h2 : ds.length < lim) : apW n v ρ w = .nx ρ (w.set n (.lst (ds ++ [v]))) := by
  unfold apW; rw [h]; exact if_pos h2
def isL (n : Nat) (w : Wd) : Bool := match w[n]? with
  | some (.lst _) => true
  | _ => false
theorem isL_of {n : Nat} {ds : List D} (h : w[n]? = some (.lst ds)) : isL n w = true := by unfold isL; rw [h]
def kApR (G : Gx) (e : E) (ρ : Env) (y : D) (w : Wd) : RS := match y with
  | .ref n => if isL n w then (ev G e ρ w).dv.st ρ (fun v w => apW n v ρ w) else .bad
  | _ => .bad
theorem kApR_of {n : Nat} {e : E} (h : isL n w = true) : kApR G e ρ (.ref n) w = (ev G e ρ w).dv.st ρ (fun v w => apW n v ρ w) := if_pos h
@[simp] theorem evS_appR (a e : E) : evS G (.appR a e) ρ w = (ev G a ρ w).dv.st ρ (kApR G e ρ) := by
  refine (st_app _ _).trans ?_
  rw [val_app]
  refine congrArg (R.st _ _) ?_; funext y w1
  unfold kApR isL
  cases y <;> try rfl
  rename_i n
  dsimp only
  cases h : w1[n]? with
  | none => rfl
  | some o =>
    cases o <;> try rfl
    dsimp only
    rw [if_pos rfl]
    refine (st_app _ _).trans ?_
    rw [val_app]
    refine congrArg (R.st _ _) ?_; funext v w2
    unfold apW
    cases h : w2[n]? with
    | none => rfl
    | some o => cases o <;> rfl
def kAug (i : Nat) (o : Op) (x : D) (ρ : Env) (y : D) (w : Wd) : RS := match augD o x y with
  | some z => .nx (ρ.set i (.v z)) w
  | none => .bad
@[simp] theorem kAug_add (i : Nat) (a b : Int) : kAug i .add (.int a) ρ (.int b) w = .nx (ρ.set i (.v (.int (a + b)))) w := no_rfl rfl
@[simp] theorem kAug_sub (i : Nat) (a b : Int) : kAug i .sub (.int a) ρ (.int b) w = .nx (ρ.set i (.v (.int (a - b)))) w := no_rfl rfl
theorem evS_aug {i : Nat} {o : Op} {e : E} {x : D} (h : ρ[i]? = some (.v x)) : evS G (.aug i o e) ρ w = (ev G e ρ w).dv.st ρ (kAug i o x ρ) := by
  show (match ρ[i]? with
    | some (.v x) => (val (ev G e ρ)).st ρ (fun y w => (match augD o x y with
      | some z => .nx (ρ.set i (.v z)) w
      | none => .bad)) w
    | _ => RS.bad) = _
  rw [h]
  dsimp only
  refine (st_app _ _).trans ?_; rw [val_app]
  refine congrArg (R.st _ _) ?_; funext y w1; unfold kAug; cases augD o x y <;> rfl
/-- self.f += e -/
def auW (c n f : Nat) (x : Int) (ρ : Env) (z : D) (w : Wd) : RS := match z, w[n]? with
  | .int j, some (.ins c' fs) => if c' = c ∧ fs.length < 1000 then .nx ρ (w.set n (.ins c' (putFs fs f (.int (x + j))))) else .bad
  | _, _ => .bad
theorem auW_of {c n f : Nat} {x j : Int} {fs : List (Nat × D)} (h : w[n]? = some (.ins c fs)) (h2 : fs.length < 1000) : auW c n f x ρ (.int j) w = .nx ρ (w.set n (.ins c (putFs fs f (.int (x + j))))) := by
  unfold auW; rw [h]; exact if_pos ⟨rfl, h2⟩
def kAuF (G : Gx) (c f : Nat) (e : E) (ρ : Env) (y : D) (w : Wd) : RS := match y with
  | .ref n => (match w[n]? with
    | some (.ins c' fs) => if c' = c then (match lookF fs f with
      | some (.int x) => (ev G e ρ w).dv.st ρ (auW c n f x ρ)
      | _ => .bad) else .bad
    | _ => .bad)
  | _ => .bad
theorem kAuF_of {c n f : Nat} {e : E} {fs : List (Nat × D)} {x : Int} (h : w[n]? = some (.ins c fs)) (h2 : lookF fs f = some (.int x)) : kAuF G c f e ρ (.ref n) w = (ev G e ρ w).dv.st ρ (auW c n f x ρ) := by
  unfold kAuF; dsimp only; rw [h]; dsimp only; rw [if_pos rfl, h2]
@[simp] theorem evS_augF (c f : Nat) (a e : E) : evS G (.augF c a f e) ρ w = (ev G a ρ w).dv.st ρ (kAuF G c f e ρ) := by
  refine (st_app _ _).trans ?_
  rw [val_app]
  refine congrArg (R.st _ _) ?_; funext y w1
  unfold kAuF
  cases y <;> try rfl
  rename_i n
  dsimp only
  cases h : w1[n]? with
  | none => rfl
  | some o =>
    cases o <;> try rfl
    rename_i c' fs
    dsimp only
    split
    · cases h2 : lookF fs f with
      | none => rfl
      | some x =>
        cases x <;> try rfl
        rename_i x
        dsimp only
        refine (st_app _ _).trans ?_
        rw [val_app]
        refine congrArg (R.st _ _) ?_; funext z w2
        unfold auW
        cases z <;> rfl
    · rfl
def kExp (ρ : Env) (r : Rv) (w : Wd) : RS := .nx ρ w
@[simp] theorem kExp_eq (r : Rv) : kExp ρ r w = .nx ρ w := no_rfl rfl
@[simp] theorem evS_exp (e : E) : evS G (.exp e) ρ w = (ev G e ρ w).st ρ (kExp ρ) := st_app _ _
noncomputable def kIf (G : Gx) (a b : Ss) (ρ : Env) (c : Bool) (w : Wd) : RS := if c then evSs G a ρ w else evSs G b ρ w
@[simp] theorem kIf_t (a b : Ss) : kIf G a b ρ true w = evSs G a ρ w := no_rfl rfl
@[simp] theorem kIf_f (a b : Ss) : kIf G a b ρ false w = evSs G b ρ w := no_rfl rfl
@[simp] theorem evS_ife (t : T) (a b : Ss) : evS G (.ife t a b) ρ w = (evT G t ρ w).st ρ (kIf G a b ρ) := by
  refine (st_app _ _).trans ?_
  refine congrArg (R.st _ _) ?_; funext c w1; cases c <;> rfl
noncomputable def kFor (G : Gx) (tg : Tg) (b : Ss) (ρ : Env) (xs : List D) (w : Wd) : RS := forGo tg (evSs G b) xs ρ w
@[simp] theorem kFor_eq (tg : Tg) (b : Ss) (xs : List D) : kFor G tg b ρ xs w = forGo tg (evSs G b) xs ρ w := no_rfl rfl
@[simp] theorem evS_forr (tg : Tg) (it : It) (b : Ss) : evS G (.forr tg it b) ρ w = (evi G it ρ w).st ρ (kFor G tg b ρ) := st_app _ _
/-- a for's turn -/
def fGo (tg : Tg) (f : Env → MS) (xs : List D) : RS → RS
  | .nx ρ w => forGo tg f xs ρ w
  | .ct ρ w => forGo tg f xs ρ w
  | .bk ρ w => .nx ρ w
  | r => r
@[simp] theorem fGo_nx (tg : Tg) (f : Env → MS) (xs : List D) : fGo tg f xs (.nx ρ w) = forGo tg f xs ρ w := no_rfl rfl
@[simp] theorem fGo_ct (tg : Tg) (f : Env → MS) (xs : List D) : fGo tg f xs (.ct ρ w) = forGo tg f xs ρ w := no_rfl rfl
@[simp] theorem fGo_bk (tg : Tg) (f : Env → MS) (xs : List D) : fGo tg f xs (.bk ρ w) = .nx ρ w := no_rfl rfl
@[simp] theorem fGo_rt (tg : Tg) (f : Env → MS) (xs : List D) (r : Rv) : fGo tg f xs (.rt r w) = .rt r w := no_rfl rfl
@[simp] theorem fGo_ex (tg : Tg) (f : Env → MS) (xs : List D) : fGo tg f xs (.ex c fs ρ w) = .ex c fs ρ w := no_rfl rfl
@[simp] theorem forGo_nil (tg : Tg) (f : Env → MS) : forGo tg f [] ρ w = .nx ρ w := no_rfl rfl
theorem forGo_cons {tg : Tg} {f : Env → MS} {x : D} {xs : List D} {ρ' : Env} (h : bindTg tg x ρ = some ρ') : forGo tg f (x :: xs) ρ w = fGo tg f xs (f ρ' w) := by
  show (match bindTg tg x ρ with
    | none => RS.bad
    | some ρ' => match f ρ' w with
      | .nx ρ2 w2 => forGo tg f xs ρ2 w2
      | .ct ρ2 w2 => forGo tg f xs ρ2 w2
      | .bk ρ2 w2 => .nx ρ2 w2
      | r => r) = _
  rw [h]
  dsimp only
  unfold fGo
  cases f ρ' w <;> rfl
theorem forGo_step {tg : Tg} {f : Env → MS} {x : D} {xs : List D} {ρ1 ρ2 : Env} {w2 : Wd} (hb : bindTg tg x ρ = some ρ1) (h : f ρ1 w = .nx ρ2 w2) : forGo tg f (x :: xs) ρ w = forGo tg f xs ρ2 w2 := by
  rw [forGo_cons hb, h]; rfl
theorem forGo_ret {tg : Tg} {f : Env → MS} {x : D} {xs : List D} {ρ1 : Env} {r : Rv} {w2 : Wd} (hb : bindTg tg x ρ = some ρ1) (h : f ρ1 w = .rt r w2) : forGo tg f (x :: xs) ρ w = .rt r w2 := by
  rw [forGo_cons hb, h]; rfl
theorem forGo_exc {tg : Tg} {f : Env → MS} {x : D} {xs : List D} {ρ1 ρ2 : Env} {w2 : Wd} (hb : bindTg tg x ρ = some ρ1) (h : f ρ1 w = .ex c fs ρ2 w2) : forGo tg f (x :: xs) ρ w = .ex c fs ρ2 w2 := by
  rw [forGo_cons hb, h]; rfl
@[simp] theorem forGo_nm (i : Nat) (f : Env → MS) (x : D) (xs : List D) : forGo (.nm i) f (x :: xs) ρ w = fGo (.nm i) f xs (f (ρ.set i (.v x)) w) := forGo_cons rfl
@[simp] theorem forGo_tp2 (i j : Nat) (f : Env → MS) (x y : D) (xs : List D) : forGo (.tp [i, j]) f (.tup [x, y] :: xs) ρ w = fGo (.tp [i, j]) f xs (f ((ρ.set i (.v x)).set j (.v y)) w) := forGo_cons rfl
/-- a while's turn -/
noncomputable def wT (G : Gx) (t : T) (b : Ss) (ρ : Env) (w : Wd) : RS × Bool := match evT G t ρ w with
    | .ok c w' => if c then (evSs G b ρ w').turn else (.nx ρ w', false)
    | .exc c fs w' => (.ex c fs ρ w', false)
    | .bad => (.bad, false)
noncomputable def wGo (G : Gx) (t : T) (b : Ss) (ρ : Env) (w : Wd) : RS := loopN (wT G t b) ρ w
@[simp] theorem evS_whl (t : T) (b : Ss) : evS G (.whl t b) ρ w = wGo G t b ρ w := no_rfl rfl
noncomputable def wNext (G : Gx) (t : T) (b : Ss) : RS → RS
  | .nx ρ w => wGo G t b ρ w
  | .ct ρ w => wGo G t b ρ w
  | .bk ρ w => .nx ρ w
  | r => r
@[simp] theorem wNext_nx (t : T) (b : Ss) : wNext G t b (.nx ρ w) = wGo G t b ρ w := no_rfl rfl
@[simp] theorem wNext_ct (t : T) (b : Ss) : wNext G t b (.ct ρ w) = wGo G t b ρ w := no_rfl rfl
@[simp] theorem wNext_bk (t : T) (b : Ss) : wNext G t b (.bk ρ w) = .nx ρ w := no_rfl rfl
@[simp] theorem wNext_rt (t : T) (b : Ss) (r : Rv) : wNext G t b (.rt r w) = .rt r w := no_rfl rfl
@[simp] theorem wNext_ex (t : T) (b : Ss) : wNext G t b (.ex c fs ρ w) = .ex c fs ρ w := no_rfl rfl
noncomputable def kWh (G : Gx) (t : T) (b : Ss) (ρ : Env) (c : Bool) (w : Wd) : RS := if c then wNext G t b (evSs G b ρ w) else .nx ρ w
@[simp] theorem kWh_t (t : T) (b : Ss) : kWh G t b ρ true w = wNext G t b (evSs G b ρ w) := no_rfl rfl
@[simp] theorem kWh_f (t : T) (b : Ss) : kWh G t b ρ false w = .nx ρ w := no_rfl rfl
theorem wGo_eq (t : T) (b : Ss) : wGo G t b ρ w = (evT G t ρ w).st ρ (kWh G t b ρ) := by
  unfold wGo
  rw [loopN_eq]
  cases h : evT G t ρ w with
  | ok c w' =>
    have e : wT G t b ρ w = if c then (evSs G b ρ w').turn else (.nx ρ w', false) := by unfold wT; rw [h]
    rw [e]
    cases c with
    | false => rfl
    | true =>
      show _ = wNext G t b (evSs G b ρ w')
      rw [if_pos rfl]
      unfold RS.turn wNext wGo
      cases evSs G b ρ w' <;> rfl
  | exc c fs w' =>
    have e : wT G t b ρ w = (.ex c fs ρ w', false) := by unfold wT; rw [h]
    rw [e]
    rfl
  | bad =>
    have e : wT G t b ρ w = (.bad, false) := by unfold wT; rw [h]
    rw [e]
    rfl
theorem wGo_step {t : T} {b : Ss} {ρ' : Env} {w1 : Wd} (hT : evT G t ρ w = .ok true w1) (hB : evSs G b ρ w1 = .nx ρ' w') : wGo G t b ρ w = wGo G t b ρ' w' := by
  rw [wGo_eq, hT, rst_ok, kWh_t, hB]; rfl
theorem wGo_stop {t : T} {b : Ss} {w1 : Wd} (hT : evT G t ρ w = .ok false w1) : wGo G t b ρ w = .nx ρ w1 := by
  rw [wGo_eq, hT]; rfl
theorem wGo_brk {t : T} {b : Ss} {ρ' : Env} {w1 : Wd} (hT : evT G t ρ w = .ok true w1) (hB : evSs G b ρ w1 = .bk ρ' w') : wGo G t b ρ w = .nx ρ' w' := by
  rw [wGo_eq, hT, rst_ok, kWh_t, hB]; rfl
theorem wGo_ret {t : T} {b : Ss} {r : Rv} {w1 : Wd} (hT : evT G t ρ w = .ok true w1) (hB : evSs G b ρ w1 = .rt r w') : wGo G t b ρ w = .rt r w' := by
  rw [wGo_eq, hT, rst_ok, kWh_t, hB]; rfl
def rtV : Option Slot → Wd → RS
  | some (.o o), w => if o.isI then .bad else .rt (.o o) w
  | some (.v d), w => .rt (.v d) w
  | _, _ => .bad
@[simp] theorem rtV_v (d : D) : rtV (some (.v d)) w = .rt (.v d) w := no_rfl rfl
@[simp] theorem rtV_lst (l : List D) : rtV (some (.o (.lst l))) w = .rt (.o (.lst l)) w := no_rfl rfl
@[simp] theorem rtV_dct (l : List (D × D)) : rtV (some (.o (.dct l))) w = .rt (.o (.dct l)) w := no_rfl rfl
def kRet (r : Rv) (w : Wd) : RS := .rt r w
@[simp] theorem kRet_eq (r : Rv) : kRet r w = .rt r w := no_rfl rfl
@[simp] theorem evS_ret_var (i : Nat) : evS G (.ret (.var i)) ρ w = rtV ρ[i]? w := by
  show (match ρ[i]? with
      | some (.o o) => if o.isI then RS.bad else .rt (.o o) w
      | some (.v d) => .rt (.v d) w
      | _ => .bad) = _
  unfold rtV
  cases ρ[i]? with
  | none => rfl
  | some s => cases s <;> rfl
theorem evS_ret {e : E} (h : ∀ i, e ≠ .var i) : evS G (.ret e) ρ w = (ev G e ρ w).st ρ kRet := by
  cases e <;> first | exact st_app _ _ | rfl | (rename_i i; exact absurd rfl (h i))
@[simp] theorem evS_ret_cst (d : D) : evS G (.ret (.cst d)) ρ w = .rt (.v d) w := no_rfl rfl
@[simp] theorem evS_ret_glb (x : Nat) : evS G (.ret (.glb x)) ρ w = (ev G (.glb x) ρ w).st ρ kRet := evS_ret (by simp)
@[simp] theorem evS_ret_tup (es : Es) : evS G (.ret (.tup es)) ρ w = (ev G (.tup es) ρ w).st ρ kRet := evS_ret (by simp)
@[simp] theorem evS_ret_lst (es : Es) : evS G (.ret (.lst es)) ρ w = (ev G (.lst es) ρ w).st ρ kRet := evS_ret (by simp)
@[simp] theorem evS_ret_dct0 : evS G (.ret .dct0) ρ w = (ev G .dct0 ρ w).st ρ kRet := evS_ret (by simp)
@[simp] theorem evS_ret_op (o : Op) (a b : E) : evS G (.ret (.op o a b)) ρ w = (ev G (.op o a b) ρ w).st ρ kRet := evS_ret (by simp)
@[simp] theorem evS_ret_cmp (o : Cm) (a b : E) : evS G (.ret (.cmp o a b)) ρ w = (ev G (.cmp o a b) ρ w).st ρ kRet := evS_ret (by simp)
@[simp] theorem evS_ret_and (a b : E) : evS G (.ret (.and a b)) ρ w = (ev G (.and a b) ρ w).st ρ kRet := evS_ret (by simp)
@[simp] theorem evS_ret_or (a b : E) : evS G (.ret (.or a b)) ρ w = (ev G (.or a b) ρ w).st ρ kRet := evS_ret (by simp)
@[simp] theorem evS_ret_not (a : E) : evS G (.ret (.not a)) ρ w = (ev G (.not a) ρ w).st ρ kRet := evS_ret (by simp)
@[simp] theorem evS_ret_ite (t : T) (a b : E) : evS G (.ret (.ite t a b)) ρ w = (ev G (.ite t a b) ρ w).st ρ kRet := evS_ret (by simp)
@[simp] theorem evS_ret_neg (a : E) : evS G (.ret (.neg a)) ρ w = (ev G (.neg a) ρ w).st ρ kRet := evS_ret (by simp)
@[simp] theorem evS_ret_idx (a b : E) : evS G (.ret (.idx a b)) ρ w = (ev G (.idx a b) ρ w).st ρ kRet := evS_ret (by simp)
@[simp] theorem evS_ret_slc (a : E) (lo hi : Oe) : evS G (.ret (.slc a lo hi)) ρ w = (ev G (.slc a lo hi) ρ w).st ρ kRet := evS_ret (by simp)
@[simp] theorem evS_ret_rev (a : E) : evS G (.ret (.rev a)) ρ w = (ev G (.rev a) ρ w).st ρ kRet := evS_ret (by simp)
@[simp] theorem evS_ret_fld (c f : Nat) (a : E) : evS G (.ret (.fld c f a)) ρ w = (ev G (.fld c f a) ρ w).st ρ kRet := evS_ret (by simp)
@[simp] theorem evS_ret_lc (tg : Tg) (it : It) (cnd : Ot) (elt : E) : evS G (.ret (.lc tg it cnd elt)) ρ w = (ev G (.lc tg it cnd elt) ρ w).st ρ kRet := evS_ret (by simp)
@[simp] theorem evS_ret_call (f : Nat) (es : Es) : evS G (.ret (.call f es)) ρ w = (ev G (.call f es) ρ w).st ρ kRet := evS_ret (by simp)
@[simp] theorem evS_ret_mk (f c : Nat) (es : Es) : evS G (.ret (.mk f c es)) ρ w = (ev G (.mk f c es) ρ w).st ρ kRet := evS_ret (by simp)
@[simp] theorem evS_ret_met (f c m : Nat) (a : E) (es : Es) : evS G (.ret (.met f c m a es)) ρ w = (ev G (.met f c m a es) ρ w).st ρ kRet := evS_ret (by simp)
@[simp] theorem evS_ret_bi (b : Bi) (es : Es) : evS G (.ret (.bi b es)) ρ w = (ev G (.bi b es) ρ w).st ρ kRet := evS_ret (by simp)
@[simp] theorem evS_ret_isi (t : Ty) (a : E) : evS G (.ret (.isi t a)) ρ w = (ev G (.isi t a) ρ w).st ρ kRet := evS_ret (by simp)
@[simp] theorem evS_ret_sm (m : Sm) (a e : E) : evS G (.ret (.sm m a e)) ρ w = (ev G (.sm m a e) ρ w).st ρ kRet := evS_ret (by simp)
@[simp] theorem evS_ret_al (e : E) : evS G (.ret (.al e)) ρ w = (ev G (.al e) ρ w).st ρ kRet := evS_ret (by simp)
@[simp] theorem evS_ret_gix (x : Nat) (e : E) : evS G (.ret (.gix x e)) ρ w = (ev G (.gix x e) ρ w).st ρ kRet := evS_ret (by simp)
@[simp] theorem evS_ret_isc (c : Nat) (a : E) : evS G (.ret (.isc c a)) ρ w = (ev G (.isc c a) ρ w).st ρ kRet := evS_ret (by simp)
@[simp] theorem evS_ret_oeq (f c m : Nat) (a b : E) : evS G (.ret (.oeq f c m a b)) ρ w = (ev G (.oeq f c m a b) ρ w).st ρ kRet := evS_ret (by simp)
@[simp] theorem evS_ret_oin (f c m : Nat) (a b : E) : evS G (.ret (.oin f c m a b)) ρ w = (ev G (.oin f c m a b) ρ w).st ρ kRet := evS_ret (by simp)
@[simp] theorem evS_ret_oand (f c m : Nat) (a b : E) : evS G (.ret (.oand f c m a b)) ρ w = (ev G (.oand f c m a b) ρ w).st ρ kRet := evS_ret (by simp)
@[simp] theorem evS_ret_dget (a b c : E) : evS G (.ret (.dget a b c)) ρ w = (ev G (.dget a b c) ρ w).st ρ kRet := evS_ret (by simp)
@[simp] theorem evS_ret_lcd (i : Nat) (tg : Tg) (cnd : Ot) (elt : E) : evS G (.ret (.lcd i tg cnd elt)) ρ w = (ev G (.lcd i tg cnd elt) ρ w).st ρ kRet := evS_ret (by simp)
@[simp] theorem evS_retN : evS G .retN ρ w = .rt (.v .non) w := no_rfl rfl
@[simp] theorem evS_brk : evS G .brk ρ w = .bk ρ w := no_rfl rfl
@[simp] theorem evS_cont : evS G .cont ρ w = .ct ρ w := no_rfl rfl
@[simp] theorem evS_pss : evS G .pss ρ w = .nx ρ w := no_rfl rfl
def kRse (G : Gx) (c : Nat) (ρ : Env) (ds : List D) (w : Wd) : RS := if ds.length = (G.efs c).length then .ex c ((G.efs c).zip ds) ρ w else .bad
@[simp] theorem evS_rse (c : Nat) (es : Es) : evS G (.rse c es) ρ w = (evs G es ρ w).st ρ (kRse G c ρ) := st_app _ _
/-- a try's end -/
noncomputable def tryR (G : Gx) (h : Hs) : RS → RS
  | .ex c fs ρ w => evH G h c fs ρ w
  | r => r
@[simp] theorem tryR_nx (h : Hs) : tryR G h (.nx ρ w) = .nx ρ w := no_rfl rfl
@[simp] theorem tryR_rt (h : Hs) (r : Rv) : tryR G h (.rt r w) = .rt r w := no_rfl rfl
@[simp] theorem tryR_bk (h : Hs) : tryR G h (.bk ρ w) = .bk ρ w := no_rfl rfl
@[simp] theorem tryR_ct (h : Hs) : tryR G h (.ct ρ w) = .ct ρ w := no_rfl rfl
@[simp] theorem tryR_ex (h : Hs) : tryR G h (.ex c fs ρ w) = evH G h c fs ρ w := no_rfl rfl
@[simp] theorem evS_tri (b : Ss) (h : Hs) : evS G (.tri b h) ρ w = tryR G h (evSs G b ρ w) := by
  show (match evSs G b ρ w with
      | .ex c fs ρ' w' => evH G h c fs ρ' w'
      | r => r) = _
  unfold tryR
  cases evSs G b ρ w <;> rfl
@[simp] theorem noX_nx : RS.noX (.nx ρ w) = .nx ρ w := no_rfl rfl
@[simp] theorem noX_rt (r : Rv) : RS.noX (.rt r w) = .rt r w := no_rfl rfl
@[simp] theorem noX_bk : RS.noX (.bk ρ w) = .bk ρ w := no_rfl rfl
@[simp] theorem noX_ct : RS.noX (.ct ρ w) = .ct ρ w := no_rfl rfl
@[simp] theorem evH_nil : evH G .nil c fs ρ w = .ex c fs ρ w := no_rfl rfl
theorem evH_in {c' : Nat} {b : Ss} {h : Hs} (e : G.sub c c' = true) : evH G (.cons c' none b h) c fs ρ w = (evSs G b ρ w).noX := by
  show (if G.sub c c' then fun w => (evSs G b ρ w).noX else evH G h c fs ρ) w = _
  rw [if_pos e]
theorem evH_out {c' : Nat} {i : Option Nat} {b : Ss} {h : Hs} (e : G.sub c c' = false) : evH G (.cons c' i b h) c fs ρ w = evH G h c fs ρ w := by
  show (if G.sub c c' then _ else evH G h c fs ρ) w = _
  rw [if_neg (by rw [e]; simp)]
noncomputable def evHk (G : Gx) (b : Ss) (h : Hs) (c : Nat) (fs : List (Nat × D)) (ρ : Env) (w : Wd) (x : Bool) : RS := if x then (evSs G b ρ w).noX else evH G h c fs ρ w
@[simp] theorem evHk_t (b : Ss) (h : Hs) : evHk G b h c fs ρ w true = (evSs G b ρ w).noX := no_rfl rfl
@[simp] theorem evHk_f (b : Ss) (h : Hs) : evHk G b h c fs ρ w false = evH G h c fs ρ w := no_rfl rfl
@[simp] theorem evH_cons (c' : Nat) (b : Ss) (h : Hs) : evH G (.cons c' none b h) c fs ρ w = evHk G b h c fs ρ w (G.sub c c') := by
  cases e : G.sub c c' with
  | true => exact evH_in e
  | false => exact evH_out e
def frzR (i : Nat) (ρ : Env) : Option Slot → Wd → RS
  | some (.o o), w => if o.isI then .bad else .nx (ρ.set i (.v o.frz)) w
  | _, _ => .bad
@[simp] theorem frzR_lst (i : Nat) (l : List D) : frzR i ρ (some (.o (.lst l))) w = .nx (ρ.set i (.v (.lst l))) w := no_rfl rfl
@[simp] theorem frzR_dct (i : Nat) (l : List (D × D)) : frzR i ρ (some (.o (.dct l))) w = .nx (ρ.set i (.v (.dct l))) w := no_rfl rfl
@[simp] theorem evS_frz (i : Nat) : evS G (.frz i) ρ w = frzR i ρ ρ[i]? w := by
  show (match ρ[i]? with
    | some (.o o) => if o.isI then RS.bad else .nx (ρ.set i (.v o.frz)) w
    | _ => .bad) = _
  unfold frzR
  cases ρ[i]? with
  | none => rfl
  | some s => cases s <;> rfl

/-! ### defs -/
def fnR : RS → R Rv
  | .nx _ w' => .ok (.v .non) w'
  | .rt r w' => .ok r w'
  | .ex c fs _ w' => .exc c fs w'
  | _ => .bad
@[simp] theorem fnR_nx : fnR (.nx ρ w) = .ok (.v .non) w := no_rfl rfl
@[simp] theorem fnR_rt (r : Rv) : fnR (.rt r w) = .ok r w := no_rfl rfl
@[simp] theorem fnR_ex : fnR (.ex c fs ρ w) = .exc c fs w := no_rfl rfl
def mkR (c : Nat) : RS → R Rv
  | .nx ρ w' => (match (ρ[(0 : Nat)]? : Option Slot) with
        | some (.o (.ins c' fs)) => if c' = c then .ok (.o (.ins c fs)) w' else .bad
        | _ => .bad)
  | .ex c fs _ w' => .exc c fs w'
  | _ => .bad
@[simp] theorem mkR_nx (fs : List (Nat × D)) : mkR c (.nx (.o (.ins c fs) :: ρ) w) = .ok (.o (.ins c fs)) w := if_pos rfl
@[simp] theorem mkR_ex (c' : Nat) : mkR c' (.ex c fs ρ w) = .exc c fs w := no_rfl rfl
/-- a def's run, its slots given -/
theorem den_run {P : Pg} {f : Nat} {ds : List D} {df : Df} {ρ : Env} (k : Nat) (h : P.fns[f]? = some df) (hi : df.init = none) (hd : df.dfl = []) (hl : ds.length = df.np) (hρ : ρ = ds.map Slot.v ++ List.replicate (df.ns - ds.length) .u) :
    den P (k + 2) f ds w = fnR (evSs (P.gx (den P (k + 1))) df.body ρ w) := by
  subst hρ
  unfold den
  rw [h]
  dsimp only
  rw [hi]
  dsimp only
  unfold runD
  dsimp only
  rw [hd, List.drop_nil, List.append_nil, if_pos hl, hi, hl]
  dsimp only
  unfold fnR
  generalize evSs _ df.body _ w = r
  cases r <;> rfl
theorem den_ini {P : Pg} {f : Nat} {ds : List D} {df : Df} {ρ : Env} (k : Nat) (h : P.fns[f]? = some df) (hi : df.init = some c) (hd : df.dfl = []) (hl : ds.length = df.np) (hρ : ρ = .o (.ins c []) :: (ds.map Slot.v ++ List.replicate (df.ns - ds.length) .u)) :
    den P (k + 3) f ds w = mkR c (evSs (P.gx (den P (k + 1))) df.body ρ w) := by
  subst hρ
  unfold den
  rw [h]
  dsimp only
  rw [hi]
  dsimp only
  unfold runD
  dsimp only
  rw [hd, List.drop_nil, List.append_nil, if_pos hl, hi, hl]
  dsimp only
  rw [List.cons_append]
  unfold mkR
  generalize evSs _ df.body _ w = r
  cases r <;> rfl
end
end My

set_option Elab.async false
set_option linter.all false
set_option maxRecDepth 100000
/-! PR: the run of each def (printed by gen2.py). -/
namespace My
theorem run_law_k14 (k : Nat) (a0 : D) (w : Wd) : den PG (k + 2) f.law_k14 [a0] w = fnR (evSs (PG.gx (den PG (k + 1))) b_law_k14 [.v a0, .u, .u, .u, .u, .u, .u, .u, .u, .u, .u, .u, .u] w) := den_run (df := ⟨1, 13, [], none, b_law_k14⟩) (ρ := [.v a0, .u, .u, .u, .u, .u, .u, .u, .u, .u, .u, .u, .u]) k rfl rfl rfl rfl rfl
theorem run__law_begin (k : Nat) (a0 : D) (w : Wd) : den PG (k + 2) f._law_begin [a0] w = fnR (evSs (PG.gx (den PG (k + 1))) b__law_begin [.v a0] w) := den_run (df := ⟨1, 1, [], none, b__law_begin⟩) (ρ := [.v a0]) k rfl rfl rfl rfl rfl
theorem run__law_table (k : Nat) (a0 : D) (w : Wd) : den PG (k + 2) f._law_table [a0] w = fnR (evSs (PG.gx (den PG (k + 1))) b__law_table [.v a0, .u, .u] w) := den_run (df := ⟨1, 3, [], none, b__law_table⟩) (ρ := [.v a0, .u, .u]) k rfl rfl rfl rfl rfl
theorem run__law_draw (k : Nat) (a0 a1 : D) (w : Wd) : den PG (k + 2) f._law_draw [a0, a1] w = fnR (evSs (PG.gx (den PG (k + 1))) b__law_draw [.v a0, .v a1, .u, .u] w) := den_run (df := ⟨2, 4, [], none, b__law_draw⟩) (ρ := [.v a0, .v a1, .u, .u]) k rfl rfl rfl rfl rfl
theorem run_Stream__init__ (k : Nat) (a0 : D) (w : Wd) : den PG (k + 3) f.Stream__init__ [a0] w = mkR 12 (evSs (PG.gx (den PG (k + 1))) b_Stream__init__ [.o (.ins 12 []), .v a0] w) := den_ini (df := ⟨1, 1, [], (some 12), b_Stream__init__⟩) (ρ := [.o (.ins 12 []), .v a0]) k rfl rfl rfl rfl rfl
theorem run__law_taken_k14 (k : Nat) (a0 : D) (w : Wd) : den PG (k + 2) f._law_taken_k14 [a0] w = fnR (evSs (PG.gx (den PG (k + 1))) b__law_taken_k14 [.v a0, .u] w) := den_run (df := ⟨1, 2, [], none, b__law_taken_k14⟩) (ρ := [.v a0, .u]) k rfl rfl rfl rfl rfl
theorem run_Stream_left (k : Nat) (a0 : D) (w : Wd) : den PG (k + 2) f.Stream_left [a0] w = fnR (evSs (PG.gx (den PG (k + 1))) b_Stream_left [.v a0] w) := den_run (df := ⟨1, 1, [], none, b_Stream_left⟩) (ρ := [.v a0]) k rfl rfl rfl rfl rfl
theorem run__law_groups (k : Nat) (a0 a1 : D) (w : Wd) : den PG (k + 2) f._law_groups [a0, a1] w = fnR (evSs (PG.gx (den PG (k + 1))) b__law_groups [.v a0, .v a1, .u, .u, .u, .u] w) := den_run (df := ⟨2, 6, [], none, b__law_groups⟩) (ρ := [.v a0, .v a1, .u, .u, .u, .u]) k rfl rfl rfl rfl rfl
theorem run__law_like (k : Nat) (a0 a1 : D) (w : Wd) : den PG (k + 2) f._law_like [a0, a1] w = fnR (evSs (PG.gx (den PG (k + 1))) b__law_like [.v a0, .v a1, .u] w) := den_run (df := ⟨2, 3, [], none, b__law_like⟩) (ρ := [.v a0, .v a1, .u]) k rfl rfl rfl rfl rfl
theorem run_walk (k : Nat) (a0 a1 : D) (w : Wd) : den PG (k + 2) f.walk [a0, a1] w = fnR (evSs (PG.gx (den PG (k + 1))) b_walk [.v a0, .v a1, .u, .u, .u] w) := den_run (df := ⟨2, 5, [], none, b_walk⟩) (ρ := [.v a0, .v a1, .u, .u, .u]) k rfl rfl rfl rfl rfl
theorem run_walk_late (k : Nat) (a0 a1 : D) (w : Wd) : den PG (k + 2) f.walk_late [a0, a1] w = fnR (evSs (PG.gx (den PG (k + 1))) b_walk_late [.v a0, .v a1, .u] w) := den_run (df := ⟨2, 3, [], none, b_walk_late⟩) (ρ := [.v a0, .v a1, .u]) k rfl rfl rfl rfl rfl
theorem run__law_told_k14 (k : Nat) (a0 a1 a2 : D) (w : Wd) : den PG (k + 2) f._law_told_k14 [a0, a1, a2] w = fnR (evSs (PG.gx (den PG (k + 1))) b__law_told_k14 [.v a0, .v a1, .v a2, .u] w) := den_run (df := ⟨3, 4, [], none, b__law_told_k14⟩) (ρ := [.v a0, .v a1, .v a2, .u]) k rfl rfl rfl rfl rfl
theorem run_check_items (k : Nat) (a0 : D) (w : Wd) : den PG (k + 2) f.check_items [a0] w = fnR (evSs (PG.gx (den PG (k + 1))) b_check_items [.v a0] w) := den_run (df := ⟨1, 1, [], none, b_check_items⟩) (ρ := [.v a0]) k rfl rfl rfl rfl rfl
theorem run_Stream_take (k : Nat) (a0 : D) (w : Wd) : den PG (k + 2) f.Stream_take [a0] w = fnR (evSs (PG.gx (den PG (k + 1))) b_Stream_take [.v a0, .u] w) := den_run (df := ⟨1, 2, [], none, b_Stream_take⟩) (ρ := [.v a0, .u]) k rfl rfl rfl rfl rfl
theorem run_check_table (k : Nat) (a0 : D) (w : Wd) : den PG (k + 2) f.check_table [a0] w = fnR (evSs (PG.gx (den PG (k + 1))) b_check_table [.v a0] w) := den_run (df := ⟨1, 1, [], none, b_check_table⟩) (ρ := [.v a0]) k rfl rfl rfl rfl rfl
theorem run_Walker__init__ (k : Nat) (a0 a1 : D) (w : Wd) : den PG (k + 3) f.Walker__init__ [a0, a1] w = mkR 14 (evSs (PG.gx (den PG (k + 1))) b_Walker__init__ [.o (.ins 14 []), .v a0, .v a1] w) := den_ini (df := ⟨2, 2, [], (some 14), b_Walker__init__⟩) (ρ := [.o (.ins 14 []), .v a0, .v a1]) k rfl rfl rfl rfl rfl
theorem run_Walker_ask (k : Nat) (a0 : D) (w : Wd) : den PG (k + 2) f.Walker_ask [a0] w = fnR (evSs (PG.gx (den PG (k + 1))) b_Walker_ask [.v a0, .u] w) := den_run (df := ⟨1, 2, [], none, b_Walker_ask⟩) (ρ := [.v a0, .u]) k rfl rfl rfl rfl rfl
theorem run_Handle_rest (k : Nat) (a0 : D) (w : Wd) : den PG (k + 2) f.Handle_rest [a0] w = fnR (evSs (PG.gx (den PG (k + 1))) b_Handle_rest [.v a0, .u, .u] w) := den_run (df := ⟨1, 3, [], none, b_Handle_rest⟩) (ρ := [.v a0, .u, .u]) k rfl rfl rfl rfl rfl
theorem run_handles_of (k : Nat) (a0 a1 : D) (w : Wd) : den PG (k + 2) f.handles_of [a0, a1] w = fnR (evSs (PG.gx (den PG (k + 1))) b_handles_of [.v a0, .v a1, .u, .u] w) := den_run (df := ⟨2, 4, [], none, b_handles_of⟩) (ρ := [.v a0, .v a1, .u, .u]) k rfl rfl rfl rfl rfl
theorem run_is_of (k : Nat) (a0 a1 : D) (w : Wd) : den PG (k + 2) f.is_of [a0, a1] w = fnR (evSs (PG.gx (den PG (k + 1))) b_is_of [.v a0, .v a1, .u] w) := den_run (df := ⟨2, 3, [], none, b_is_of⟩) (ρ := [.v a0, .v a1, .u]) k rfl rfl rfl rfl rfl
theorem run_is_table (k : Nat) (a0 : D) (w : Wd) : den PG (k + 2) f.is_table [a0] w = fnR (evSs (PG.gx (den PG (k + 1))) b_is_table [.v a0] w) := den_run (df := ⟨1, 1, [], none, b_is_table⟩) (ρ := [.v a0]) k rfl rfl rfl rfl rfl
theorem run_Walker_next_of (k : Nat) (a0 a1 : D) (w : Wd) : den PG (k + 2) f.Walker_next_of [a0, a1] w = fnR (evSs (PG.gx (den PG (k + 1))) b_Walker_next_of [.v a0, .v a1, .u] w) := den_run (df := ⟨2, 3, [], none, b_Walker_next_of⟩) (ρ := [.v a0, .v a1, .u]) k rfl rfl rfl rfl rfl
theorem run_Walker_taken (k : Nat) (a0 : D) (w : Wd) : den PG (k + 2) f.Walker_taken [a0] w = fnR (evSs (PG.gx (den PG (k + 1))) b_Walker_taken [.v a0, .u] w) := den_run (df := ⟨1, 2, [], none, b_Walker_taken⟩) (ρ := [.v a0, .u]) k rfl rfl rfl rfl rfl
theorem run_key_of (k : Nat) (a0 a1 : D) (w : Wd) : den PG (k + 2) f.key_of [a0, a1] w = fnR (evSs (PG.gx (den PG (k + 1))) b_key_of [.v a0, .v a1] w) := den_run (df := ⟨2, 2, [], none, b_key_of⟩) (ρ := [.v a0, .v a1]) k rfl rfl rfl rfl rfl
theorem run_Handle__init__ (k : Nat) (a0 a1 a2 : D) (w : Wd) : den PG (k + 3) f.Handle__init__ [a0, a1, a2] w = mkR 13 (evSs (PG.gx (den PG (k + 1))) b_Handle__init__ [.o (.ins 13 []), .v a0, .v a1, .v a2] w) := den_ini (df := ⟨3, 3, [], (some 13), b_Handle__init__⟩) (ρ := [.o (.ins 13 []), .v a0, .v a1, .v a2]) k rfl rfl rfl rfl rfl
theorem run_law_k01 (k : Nat) (a0 : D) (w : Wd) : den PG (k + 2) f.law_k01 [a0] w = fnR (evSs (PG.gx (den PG (k + 1))) b_law_k01 [.v a0, .u, .u, .u, .u, .u, .u, .u, .u] w) := den_run (df := ⟨1, 9, [], none, b_law_k01⟩) (ρ := [.v a0, .u, .u, .u, .u, .u, .u, .u, .u]) k rfl rfl rfl rfl rfl
theorem run__law_told_k01 (k : Nat) (a0 a1 : D) (w : Wd) : den PG (k + 2) f._law_told_k01 [a0, a1] w = fnR (evSs (PG.gx (den PG (k + 1))) b__law_told_k01 [.v a0, .v a1, .u] w) := den_run (df := ⟨2, 3, [], none, b__law_told_k01⟩) (ρ := [.v a0, .v a1, .u]) k rfl rfl rfl rfl rfl
theorem run_sort_items (k : Nat) (a0 a1 : D) (w : Wd) : den PG (k + 2) f.sort_items [a0, a1] w = fnR (evSs (PG.gx (den PG (k + 1))) b_sort_items [.v a0, .v a1, .u, .u, .u] w) := den_run (df := ⟨2, 5, [], none, b_sort_items⟩) (ρ := [.v a0, .v a1, .u, .u, .u]) k rfl rfl rfl rfl rfl
theorem run_law_k15 (k : Nat) (a0 : D) (w : Wd) : den PG (k + 2) f.law_k15 [a0] w = fnR (evSs (PG.gx (den PG (k + 1))) b_law_k15 [.v a0, .u, .u, .u, .u, .u, .u, .u, .u, .u, .u, .u, .u, .u, .u] w) := den_run (df := ⟨1, 15, [], none, b_law_k15⟩) (ρ := [.v a0, .u, .u, .u, .u, .u, .u, .u, .u, .u, .u, .u, .u, .u, .u]) k rfl rfl rfl rfl rfl
theorem run__law_new_k15 (k : Nat) (a0 : D) (w : Wd) : den PG (k + 2) f._law_new_k15 [a0] w = fnR (evSs (PG.gx (den PG (k + 1))) b__law_new_k15 [.v a0, .u] w) := den_run (df := ⟨1, 2, [], none, b__law_new_k15⟩) (ρ := [.v a0, .u]) k rfl rfl rfl rfl rfl
theorem run__law_asked (k : Nat) (a0 : D) (w : Wd) : den PG (k + 2) f._law_asked [a0] w = fnR (evSs (PG.gx (den PG (k + 1))) b__law_asked [.v a0, .u] w) := den_run (df := ⟨1, 2, [], none, b__law_asked⟩) (ρ := [.v a0, .u]) k rfl rfl rfl rfl rfl
theorem run__law_ask (k : Nat) (a0 a1 : D) (w : Wd) : den PG (k + 2) f._law_ask [a0, a1] w = fnR (evSs (PG.gx (den PG (k + 1))) b__law_ask [.v a0, .v a1, .u] w) := den_run (df := ⟨2, 3, [], none, b__law_ask⟩) (ρ := [.v a0, .v a1, .u]) k rfl rfl rfl rfl rfl
theorem run__law_item (k : Nat) (a0 : D) (w : Wd) : den PG (k + 2) f._law_item [a0] w = fnR (evSs (PG.gx (den PG (k + 1))) b__law_item [.v a0, .u] w) := den_run (df := ⟨1, 2, [], none, b__law_item⟩) (ρ := [.v a0, .u]) k rfl rfl rfl rfl rfl
theorem run__law_taken_k15 (k : Nat) (a0 a1 a2 : D) (w : Wd) : den PG (k + 2) f._law_taken_k15 [a0, a1, a2] w = fnR (evSs (PG.gx (den PG (k + 1))) b__law_taken_k15 [.v a0, .v a1, .v a2] w) := den_run (df := ⟨3, 3, [], none, b__law_taken_k15⟩) (ρ := [.v a0, .v a1, .v a2]) k rfl rfl rfl rfl rfl
theorem run__law_rest (k : Nat) (a0 a1 a2 : D) (w : Wd) : den PG (k + 2) f._law_rest [a0, a1, a2] w = fnR (evSs (PG.gx (den PG (k + 1))) b__law_rest [.v a0, .v a1, .v a2, .u, .u] w) := den_run (df := ⟨3, 5, [], none, b__law_rest⟩) (ρ := [.v a0, .v a1, .v a2, .u, .u]) k rfl rfl rfl rfl rfl
theorem run__law_further (k : Nat) (a0 a1 : D) (w : Wd) : den PG (k + 2) f._law_further [a0, a1] w = fnR (evSs (PG.gx (den PG (k + 1))) b__law_further [.v a0, .v a1, .u] w) := den_run (df := ⟨2, 3, [], none, b__law_further⟩) (ρ := [.v a0, .v a1, .u]) k rfl rfl rfl rfl rfl
theorem run__law_pull (k : Nat) (a0 a1 : D) (w : Wd) : den PG (k + 2) f._law_pull [a0, a1] w = fnR (evSs (PG.gx (den PG (k + 1))) b__law_pull [.v a0, .v a1, .u] w) := den_run (df := ⟨2, 3, [], none, b__law_pull⟩) (ρ := [.v a0, .v a1, .u]) k rfl rfl rfl rfl rfl
theorem run_Handle_take (k : Nat) (a0 : D) (w : Wd) : den PG (k + 2) f.Handle_take [a0] w = fnR (evSs (PG.gx (den PG (k + 1))) b_Handle_take [.v a0, .u] w) := den_run (df := ⟨1, 2, [], none, b_Handle_take⟩) (ρ := [.v a0, .u]) k rfl rfl rfl rfl rfl
theorem run_law_k16 (k : Nat) (a0 : D) (w : Wd) : den PG (k + 2) f.law_k16 [a0] w = fnR (evSs (PG.gx (den PG (k + 1))) b_law_k16 [.v a0, .u, .u, .u, .u, .u, .u, .u, .u, .u, .u, .u, .u, .u, .u, .u] w) := den_run (df := ⟨1, 16, [], none, b_law_k16⟩) (ρ := [.v a0, .u, .u, .u, .u, .u, .u, .u, .u, .u, .u, .u, .u, .u, .u, .u]) k rfl rfl rfl rfl rfl
theorem run_law_k20 (k : Nat) (a0 : D) (w : Wd) : den PG (k + 2) f.law_k20 [a0] w = fnR (evSs (PG.gx (den PG (k + 1))) b_law_k20 [.v a0, .u, .u, .u, .u, .u, .u, .u, .u, .u, .u, .u] w) := den_run (df := ⟨1, 12, [], none, b_law_k20⟩) (ρ := [.v a0, .u, .u, .u, .u, .u, .u, .u, .u, .u, .u, .u]) k rfl rfl rfl rfl rfl
theorem run__law_parts (k : Nat) (a0 : D) (w : Wd) : den PG (k + 2) f._law_parts [a0] w = fnR (evSs (PG.gx (den PG (k + 1))) b__law_parts [.v a0, .u, .u, .u, .u] w) := den_run (df := ⟨1, 5, [], none, b__law_parts⟩) (ρ := [.v a0, .u, .u, .u, .u]) k rfl rfl rfl rfl rfl
theorem run__law_by_hand (k : Nat) (a0 a1 a2 : D) (w : Wd) : den PG (k + 2) f._law_by_hand [a0, a1, a2] w = fnR (evSs (PG.gx (den PG (k + 1))) b__law_by_hand [.v a0, .v a1, .v a2, .u, .u, .u, .u] w) := den_run (df := ⟨3, 7, [], none, b__law_by_hand⟩) (ρ := [.v a0, .v a1, .v a2, .u, .u, .u, .u]) k rfl rfl rfl rfl rfl
theorem run_groups_of (k : Nat) (a0 a1 : D) (w : Wd) : den PG (k + 2) f.groups_of [a0, a1] w = fnR (evSs (PG.gx (den PG (k + 1))) b_groups_of [.v a0, .v a1, .u, .u] w) := den_run (df := ⟨2, 4, [], none, b_groups_of⟩) (ρ := [.v a0, .v a1, .u, .u]) k rfl rfl rfl rfl rfl
theorem run__law_made (k : Nat) (a0 : D) (w : Wd) : den PG (k + 2) f._law_made [a0] w = fnR (evSs (PG.gx (den PG (k + 1))) b__law_made [.v a0] w) := den_run (df := ⟨1, 1, [], none, b__law_made⟩) (ρ := [.v a0]) k rfl rfl rfl rfl rfl
theorem run__law_some (k : Nat) (a0 a1 a2 : D) (w : Wd) : den PG (k + 2) f._law_some [a0, a1, a2] w = fnR (evSs (PG.gx (den PG (k + 1))) b__law_some [.v a0, .v a1, .v a2, .u, .u] w) := den_run (df := ⟨3, 5, [], none, b__law_some⟩) (ρ := [.v a0, .v a1, .v a2, .u, .u]) k rfl rfl rfl rfl rfl
theorem run__law_reading (k : Nat) (a0 a1 : D) (w : Wd) : den PG (k + 2) f._law_reading [a0, a1] w = fnR (evSs (PG.gx (den PG (k + 1))) b__law_reading [.v a0, .v a1, .u] w) := den_run (df := ⟨2, 3, [], none, b__law_reading⟩) (ρ := [.v a0, .v a1, .u]) k rfl rfl rfl rfl rfl
theorem run_neighbours (k : Nat) (a0 a1 : D) (w : Wd) : den PG (k + 2) f.neighbours [a0, a1] w = fnR (evSs (PG.gx (den PG (k + 1))) b_neighbours [.v a0, .v a1, .u, .u, .u] w) := den_run (df := ⟨2, 5, [], none, b_neighbours⟩) (ρ := [.v a0, .v a1, .u, .u, .u]) k rfl rfl rfl rfl rfl
theorem run_kept_items (k : Nat) (a0 a1 : D) (w : Wd) : den PG (k + 2) f.kept_items [a0, a1] w = fnR (evSs (PG.gx (den PG (k + 1))) b_kept_items [.v a0, .v a1, .u] w) := den_run (df := ⟨2, 3, [], none, b_kept_items⟩) (ρ := [.v a0, .v a1, .u]) k rfl rfl rfl rfl rfl
theorem run_merged (k : Nat) (a0 : D) (w : Wd) : den PG (k + 2) f.merged [a0] w = fnR (evSs (PG.gx (den PG (k + 1))) b_merged [.v a0, .u, .u, .u] w) := den_run (df := ⟨1, 4, [], none, b_merged⟩) (ρ := [.v a0, .u, .u, .u]) k rfl rfl rfl rfl rfl
theorem run_Program__init__ (k : Nat) (a0 a1 a2 a3 a4 : D) (w : Wd) : den PG (k + 3) f.Program__init__ [a0, a1, a2, a3, a4] w = mkR 16 (evSs (PG.gx (den PG (k + 1))) b_Program__init__ [.o (.ins 16 []), .v a0, .v a1, .v a2, .v a3, .v a4] w) := den_ini (df := ⟨5, 5, [], (some 16), b_Program__init__⟩) (ρ := [.o (.ins 16 []), .v a0, .v a1, .v a2, .v a3, .v a4]) k rfl rfl rfl rfl rfl
theorem run_check_reading (k : Nat) (a0 a1 : D) (w : Wd) : den PG (k + 2) f.check_reading [a0, a1] w = fnR (evSs (PG.gx (den PG (k + 1))) b_check_reading [.v a0, .v a1] w) := den_run (df := ⟨2, 2, [], none, b_check_reading⟩) (ρ := [.v a0, .v a1]) k rfl rfl rfl rfl rfl
theorem run_is_some (k : Nat) (a0 a1 a2 : D) (w : Wd) : den PG (k + 2) f.is_some [a0, a1, a2] w = fnR (evSs (PG.gx (den PG (k + 1))) b_is_some [.v a0, .v a1, .v a2, .u] w) := den_run (df := ⟨3, 4, [], none, b_is_some⟩) (ρ := [.v a0, .v a1, .v a2, .u]) k rfl rfl rfl rfl rfl
theorem run_ascending (k : Nat) (a0 : D) (w : Wd) : den PG (k + 2) f.ascending [a0] w = fnR (evSs (PG.gx (den PG (k + 1))) b_ascending [.v a0] w) := den_run (df := ⟨1, 1, [], none, b_ascending⟩) (ρ := [.v a0]) k rfl rfl rfl rfl rfl
theorem run_is_plain (k : Nat) (a0 : D) (w : Wd) : den PG (k + 2) f.is_plain [a0] w = fnR (evSs (PG.gx (den PG (k + 1))) b_is_plain [.v a0] w) := den_run (df := ⟨1, 1, [], none, b_is_plain⟩) (ρ := [.v a0]) k rfl rfl rfl rfl rfl
theorem run_law_k05 (k : Nat) (a0 : D) (w : Wd) : den PG (k + 2) f.law_k05 [a0] w = fnR (evSs (PG.gx (den PG (k + 1))) b_law_k05 [.v a0, .u, .u, .u, .u, .u, .u, .u] w) := den_run (df := ⟨1, 8, [], none, b_law_k05⟩) (ρ := [.v a0, .u, .u, .u, .u, .u, .u, .u]) k rfl rfl rfl rfl rfl
theorem run__law_answer (k : Nat) (a0 a1 : D) (w : Wd) : den PG (k + 2) f._law_answer [a0, a1] w = fnR (evSs (PG.gx (den PG (k + 1))) b__law_answer [.v a0, .v a1] w) := den_run (df := ⟨2, 2, [], none, b__law_answer⟩) (ρ := [.v a0, .v a1]) k rfl rfl rfl rfl rfl
theorem run_answer (k : Nat) (a0 a1 : D) (w : Wd) : den PG (k + 2) f.answer [a0, a1] w = fnR (evSs (PG.gx (den PG (k + 1))) b_answer [.v a0, .v a1] w) := den_run (df := ⟨2, 2, [], none, b_answer⟩) (ρ := [.v a0, .v a1]) k rfl rfl rfl rfl rfl
theorem run__law_whole (k : Nat) (a0 a1 : D) (w : Wd) : den PG (k + 2) f._law_whole [a0, a1] w = fnR (evSs (PG.gx (den PG (k + 1))) b__law_whole [.v a0, .v a1, .u, .u, .u, .u] w) := den_run (df := ⟨2, 6, [], none, b__law_whole⟩) (ρ := [.v a0, .v a1, .u, .u, .u, .u]) k rfl rfl rfl rfl rfl
theorem run_whole_of (k : Nat) (a0 a1 : D) (w : Wd) : den PG (k + 2) f.whole_of [a0, a1] w = fnR (evSs (PG.gx (den PG (k + 1))) b_whole_of [.v a0, .v a1, .u, .u, .u] w) := den_run (df := ⟨2, 5, [], none, b_whole_of⟩) (ρ := [.v a0, .v a1, .u, .u, .u]) k rfl rfl rfl rfl rfl
theorem run__law_all (k : Nat) (a0 a1 : D) (w : Wd) : den PG (k + 2) f._law_all [a0, a1] w = fnR (evSs (PG.gx (den PG (k + 1))) b__law_all [.v a0, .v a1] w) := den_run (df := ⟨2, 2, [], none, b__law_all⟩) (ρ := [.v a0, .v a1]) k rfl rfl rfl rfl rfl
theorem run_whole_answer (k : Nat) (a0 a1 : D) (w : Wd) : den PG (k + 2) f.whole_answer [a0, a1] w = fnR (evSs (PG.gx (den PG (k + 1))) b_whole_answer [.v a0, .v a1] w) := den_run (df := ⟨2, 2, [], none, b_whole_answer⟩) (ρ := [.v a0, .v a1]) k rfl rfl rfl rfl rfl
theorem run__law_refused (k : Nat) (a0 a1 : D) (w : Wd) : den PG (k + 2) f._law_refused [a0, a1] w = fnR (evSs (PG.gx (den PG (k + 1))) b__law_refused [.v a0, .v a1, .u] w) := den_run (df := ⟨2, 3, [], none, b__law_refused⟩) (ρ := [.v a0, .v a1, .u]) k rfl rfl rfl rfl rfl
theorem run_Program__eq__ (k : Nat) (a0 a1 : D) (w : Wd) : den PG (k + 2) f.Program__eq__ [a0, a1] w = fnR (evSs (PG.gx (den PG (k + 1))) b_Program__eq__ [.v a0, .v a1] w) := den_run (df := ⟨2, 2, [], none, b_Program__eq__⟩) (ρ := [.v a0, .v a1]) k rfl rfl rfl rfl rfl
theorem run__law_shown (k : Nat) (a0 a1 a2 : D) (w : Wd) : den PG (k + 2) f._law_shown [a0, a1, a2] w = fnR (evSs (PG.gx (den PG (k + 1))) b__law_shown [.v a0, .v a1, .v a2, .u, .u, .u] w) := den_run (df := ⟨3, 6, [], none, b__law_shown⟩) (ρ := [.v a0, .v a1, .v a2, .u, .u, .u]) k rfl rfl rfl rfl rfl
theorem run_parts_of_running (k : Nat) (a0 a1 a2 : D) (w : Wd) : den PG (k + 2) f.parts_of_running [a0, a1, a2] w = fnR (evSs (PG.gx (den PG (k + 1))) b_parts_of_running [.v a0, .v a1, .v a2, .u, .u] w) := den_run (df := ⟨3, 5, [], none, b_parts_of_running⟩) (ρ := [.v a0, .v a1, .v a2, .u, .u]) k rfl rfl rfl rfl rfl
theorem run_Program_parts (k : Nat) (a0 : D) (w : Wd) : den PG (k + 2) f.Program_parts [a0] w = fnR (evSs (PG.gx (den PG (k + 1))) b_Program_parts [.v a0] w) := den_run (df := ⟨1, 1, [], none, b_Program_parts⟩) (ρ := [.v a0]) k rfl rfl rfl rfl rfl
theorem run__law_read (k : Nat) (a0 a1 a2 a3 : D) (w : Wd) : den PG (k + 2) f._law_read [a0, a1, a2, a3] w = fnR (evSs (PG.gx (den PG (k + 1))) b__law_read [.v a0, .v a1, .v a2, .v a3, .u, .u] w) := den_run (df := ⟨4, 6, [], none, b__law_read⟩) (ρ := [.v a0, .v a1, .v a2, .v a3, .u, .u]) k rfl rfl rfl rfl rfl
theorem run_read_group (k : Nat) (a0 a1 a2 a3 : D) (w : Wd) : den PG (k + 2) f.read_group [a0, a1, a2, a3] w = fnR (evSs (PG.gx (den PG (k + 1))) b_read_group [.v a0, .v a1, .v a2, .v a3, .u] w) := den_run (df := ⟨4, 5, [], none, b_read_group⟩) (ρ := [.v a0, .v a1, .v a2, .v a3, .u]) k rfl rfl rfl rfl rfl
theorem run_is_named (k : Nat) (a0 a1 : D) (w : Wd) : den PG (k + 2) f.is_named [a0, a1] w = fnR (evSs (PG.gx (den PG (k + 1))) b_is_named [.v a0, .v a1] w) := den_run (df := ⟨2, 2, [], none, b_is_named⟩) (ρ := [.v a0, .v a1]) k rfl rfl rfl rfl rfl
theorem run_law_k17 (k : Nat) (a0 : D) (w : Wd) : den PG (k + 2) f.law_k17 [a0] w = fnR (evSs (PG.gx (den PG (k + 1))) b_law_k17 [.v a0, .u, .u, .u, .u, .u] w) := den_run (df := ⟨1, 6, [], none, b_law_k17⟩) (ρ := [.v a0, .u, .u, .u, .u, .u]) k rfl rfl rfl rfl rfl
theorem run_write (k : Nat) (a0 : D) (w : Wd) : den PG (k + 2) f.write [a0] w = fnR (evSs (PG.gx (den PG (k + 1))) b_write [.v a0, .u, .u, .u] w) := den_run (df := ⟨1, 4, [], none, b_write⟩) (ρ := [.v a0, .u, .u, .u]) k rfl rfl rfl rfl rfl
theorem run__law_lines (k : Nat) (a0 : D) (w : Wd) : den PG (k + 2) f._law_lines [a0] w = fnR (evSs (PG.gx (den PG (k + 1))) b__law_lines [.v a0, .u] w) := den_run (df := ⟨1, 2, [], none, b__law_lines⟩) (ρ := [.v a0, .u]) k rfl rfl rfl rfl rfl
theorem run_read (k : Nat) (a0 : D) (w : Wd) : den PG (k + 2) f.read [a0] w = fnR (evSs (PG.gx (den PG (k + 1))) b_read [.v a0, .u, .u, .u, .u, .u] w) := den_run (df := ⟨1, 6, [], none, b_read⟩) (ρ := [.v a0, .u, .u, .u, .u, .u]) k rfl rfl rfl rfl rfl
theorem run_reading_text (k : Nat) (a0 : D) (w : Wd) : den PG (k + 2) f.reading_text [a0] w = fnR (evSs (PG.gx (den PG (k + 1))) b_reading_text [.v a0, .u, .u] w) := den_run (df := ⟨1, 3, [], none, b_reading_text⟩) (ρ := [.v a0, .u, .u]) k rfl rfl rfl rfl rfl
theorem run_shown (k : Nat) (a0 : D) (w : Wd) : den PG (k + 2) f.shown [a0] w = fnR (evSs (PG.gx (den PG (k + 1))) b_shown [.v a0] w) := den_run (df := ⟨1, 1, [], none, b_shown⟩) (ρ := [.v a0]) k rfl rfl rfl rfl rfl
theorem run__law_shown_text (k : Nat) (a0 : D) (w : Wd) : den PG (k + 2) f._law_shown_text [a0] w = fnR (evSs (PG.gx (den PG (k + 1))) b__law_shown_text [.v a0] w) := den_run (df := ⟨1, 1, [], none, b__law_shown_text⟩) (ρ := [.v a0]) k rfl rfl rfl rfl rfl
theorem run__law_reading_text (k : Nat) (a0 : D) (w : Wd) : den PG (k + 2) f._law_reading_text [a0] w = fnR (evSs (PG.gx (den PG (k + 1))) b__law_reading_text [.v a0, .u, .u] w) := den_run (df := ⟨1, 3, [], none, b__law_reading_text⟩) (ρ := [.v a0, .u, .u]) k rfl rfl rfl rfl rfl
theorem run_part_of (k : Nat) (a0 a1 : D) (w : Wd) : den PG (k + 2) f.part_of [a0, a1] w = fnR (evSs (PG.gx (den PG (k + 1))) b_part_of [.v a0, .v a1, .u, .u, .u] w) := den_run (df := ⟨2, 5, [], none, b_part_of⟩) (ρ := [.v a0, .v a1, .u, .u, .u]) k rfl rfl rfl rfl rfl
theorem run_reading_of (k : Nat) (a0 : D) (w : Wd) : den PG (k + 2) f.reading_of [a0] w = fnR (evSs (PG.gx (den PG (k + 1))) b_reading_of [.v a0, .u] w) := den_run (df := ⟨1, 2, [], none, b_reading_of⟩) (ρ := [.v a0, .u]) k rfl rfl rfl rfl rfl
theorem run_is_reading (k : Nat) (a0 : D) (w : Wd) : den PG (k + 2) f.is_reading [a0] w = fnR (evSs (PG.gx (den PG (k + 1))) b_is_reading [.v a0, .u] w) := den_run (df := ⟨1, 2, [], none, b_is_reading⟩) (ρ := [.v a0, .u]) k rfl rfl rfl rfl rfl
theorem run_is_part (k : Nat) (a0 a1 : D) (w : Wd) : den PG (k + 2) f.is_part [a0, a1] w = fnR (evSs (PG.gx (den PG (k + 1))) b_is_part [.v a0, .v a1] w) := den_run (df := ⟨2, 2, [], none, b_is_part⟩) (ρ := [.v a0, .v a1]) k rfl rfl rfl rfl rfl
end My

set_option Elab.async false
set_option linter.all false
set_option maxRecDepth 100000
/-! R3: values, comprehensions; first defs. -/
namespace My
section
variable {G : Gx} {ρ : Env} {w w' : Wd} {c : Nat} {fs : List (Nat × D)} {k : Nat}
@[simp] theorem deref_non : deref w .non = .non := no_rfl rfl
@[simp] theorem deref_bl (b : Bool) : deref w (.bl b) = .bl b := no_rfl rfl
@[simp] theorem deref_int (b : Int) : deref w (.int b) = .int b := no_rfl rfl
@[simp] theorem deref_str (b : List Nat) : deref w (.str b) = .str b := no_rfl rfl
@[simp] theorem deref_tup (b : List D) : deref w (.tup b) = .tup b := no_rfl rfl
@[simp] theorem deref_lst (b : List D) : deref w (.lst b) = .lst b := no_rfl rfl
@[simp] theorem deref_dct (b : List (D × D)) : deref w (.dct b) = .dct b := no_rfl rfl
@[simp] theorem deref_ins (b : List (Nat × D)) : deref w (.ins c b) = .ins c b := no_rfl rfl
@[simp] theorem truth_bl (b : Bool) : truth (.bl b) = some b := no_rfl rfl
@[simp] theorem truth_str (b : List Nat) : truth (.str b) = some (!b.isEmpty) := no_rfl rfl
@[simp] theorem truth_lst (b : List D) : truth (.lst b) = some (!b.isEmpty) := no_rfl rfl
@[simp] theorem truth_tup (b : List D) : truth (.tup b) = some (!b.isEmpty) := no_rfl rfl
@[simp] theorem truth_int (b : Int) : truth (.int b) = some (!decide (b = 0)) := by
  show some (!(b == 0)) = _
  rw [Bool.eq_iff_iff.mpr (by simp : (b == 0) = true ↔ decide (b = 0) = true)]
@[simp] theorem truth_non : truth .non = some false := no_rfl rfl
@[simp] theorem gx_gl (P : Pg) (f : Nat → List D → M Rv) (x : Nat) : (P.gx f).gl x = P.gls[x]? := no_rfl rfl
@[simp] theorem gx_gd (P : Pg) (f : Nat → List D → M Rv) (x : Nat) : (P.gx f).gd x = P.gds.getD x [] := no_rfl rfl
theorem gx_sub0 (P : Pg) (f : Nat → List D → M Rv) (c d : Nat) : (P.gx f).sub c d = (c == d || P.subs.contains (c, d)) := rfl
theorem subs_PG : PG.subs = [(1, 0), (2, 0), (3, 0), (4, 0), (5, 0), (6, 0), (7, 0), (8, 0), (9, 0), (10, 0), (11, 0)] := rfl
theorem gx_sub (f : Nat → List D → M Rv) (c d : Nat) : (PG.gx f).sub c d = (decide (c = d) || (decide (d = 0) && decide (1 ≤ c) && decide (c ≤ 11))) := by
  rw [gx_sub0, subs_PG]
  by_cases h : d = 0
  · subst h
    by_cases h2 : c ≤ 11
    · match c, h2 with
      | 0, _ => rfl
      | 1, _ => rfl
      | 2, _ => rfl
      | 3, _ => rfl
      | 4, _ => rfl
      | 5, _ => rfl
      | 6, _ => rfl
      | 7, _ => rfl
      | 8, _ => rfl
      | 9, _ => rfl
      | 10, _ => rfl
      | 11, _ => rfl
    · have h3 : ∀ n, n ≤ 11 → ¬ c = n := fun n a b => h2 (by omega)
      simp [h2, h3]
  · rw [Bool.eq_iff_iff]
    simp [h]
@[simp] theorem efs_PG (c : Nat) (f : Nat → List D → M Rv) : (PG.gx f).efs c = PG.efs.getD c [] := no_rfl rfl
@[simp] theorem gls0 : PG.gls[0]? = some (.str ABC) := no_rfl rfl
@[simp] theorem gls1 : PG.gls[1]? = some (.str K03) := no_rfl rfl
@[simp] theorem isTy_str_str (s : List Nat) : isTy .str (.str s) = some true := no_rfl rfl
@[simp] theorem isTy_str_non : isTy .str .non = some false := no_rfl rfl
@[simp] theorem isTy_str_int (i : Int) : isTy .str (.int i) = some false := no_rfl rfl
@[simp] theorem isTy_str_bl (i : Bool) : isTy .str (.bl i) = some false := no_rfl rfl
@[simp] theorem isTy_str_lst (i : List D) : isTy .str (.lst i) = some false := no_rfl rfl
@[simp] theorem isTy_str_tup (i : List D) : isTy .str (.tup i) = some false := no_rfl rfl
@[simp] theorem items_str (s : List Nat) : items (.str s) = some (s.map fun c => .str [c]) := no_rfl rfl
@[simp] theorem items_lst (s : List D) : items (.lst s) = some s := no_rfl rfl
@[simp] theorem items_tup (s : List D) : items (.tup s) = some s := no_rfl rfl
@[simp] theorem gx_efs (P : Pg) (f : Nat → List D → M Rv) (c : Nat) : (P.gx f).efs c = P.efs.getD c [] := no_rfl rfl
theorem pEq_of {a b : D} (h : a.plain 60 = true) (h2 : b.plain 60 = true) : pEq a b = some (a.eqv b) := by unfold pEq; rw [h, h2]; rfl
theorem beq_dec {α : Type} [BEq α] [LawfulBEq α] [DecidableEq α] (a b : α) : (a == b) = decide (a = b) := by
  rw [Bool.eq_iff_iff]; simp
@[simp] theorem pEq_str (a b : List Nat) : pEq (.str a) (.str b) = some (decide (a = b)) := by
  show some (a == b) = _
  rw [beq_dec]
@[simp] theorem pEq_int (a b : Int) : pEq (.int a) (.int b) = some (decide (a = b)) := by
  show some (a == b) = _
  rw [beq_dec]
@[simp] theorem pEq_bl (a b : Bool) : pEq (.bl a) (.bl b) = some (decide (a = b)) := by
  show some (a == b) = _
  rw [beq_dec]
@[simp] theorem pEq_non : pEq .non .non = some true := no_rfl rfl
@[simp] theorem pEq_ns (a : List Nat) : pEq .non (.str a) = some false := no_rfl rfl
@[simp] theorem pEq_sn (a : List Nat) : pEq (.str a) .non = some false := no_rfl rfl
@[simp] theorem pEq_is (i : Int) (a : List Nat) : pEq (.int i) (.str a) = some false := no_rfl rfl
@[simp] theorem pEq_si (i : Int) (a : List Nat) : pEq (.str a) (.int i) = some false := no_rfl rfl
@[simp] theorem pEq_ni (i : Int) : pEq .non (.int i) = some false := no_rfl rfl
@[simp] theorem pEq_in (i : Int) : pEq (.int i) .non = some false := no_rfl rfl
@[simp] theorem dCmp_eq (a b : D) : dCmp .eq a b = pEq a b := no_rfl rfl
@[simp] theorem dCmp_ne (a b : D) : dCmp .ne a b = (pEq a b).map (!·) := no_rfl rfl
@[simp] theorem dCmp_isin (a b : D) : dCmp .isin a b = dIn a b := no_rfl rfl
@[simp] theorem dCmp_nin (a b : D) : dCmp .nin a b = (dIn a b).map (!·) := no_rfl rfl
@[simp] theorem dCmp_isn (a : D) : dCmp .isn a .non = some (isNon a) := no_rfl rfl
@[simp] theorem dCmp_notn (a : D) : dCmp .notn a .non = some (!isNon a) := no_rfl rfl
@[simp] theorem dCmp_lt (a b : Int) : dCmp .lt (.int a) (.int b) = some (decide (a < b)) := no_rfl rfl
@[simp] theorem dCmp_gt (a b : Int) : dCmp .gt (.int a) (.int b) = some (decide (b < a)) := no_rfl rfl
@[simp] theorem dCmp_le (a b : Int) : dCmp .le (.int a) (.int b) = some (!decide (b < a)) := no_rfl rfl
@[simp] theorem dCmp_ge (a b : Int) : dCmp .ge (.int a) (.int b) = some (!decide (a < b)) := no_rfl rfl
@[simp] theorem isNon_non : isNon .non = true := no_rfl rfl
@[simp] theorem isNon_str (s : List Nat) : isNon (.str s) = false := no_rfl rfl
@[simp] theorem isNon_int (s : Int) : isNon (.int s) = false := no_rfl rfl
@[simp] theorem isNon_bl (s : Bool) : isNon (.bl s) = false := no_rfl rfl
@[simp] theorem isNon_tup (s : List D) : isNon (.tup s) = false := no_rfl rfl
@[simp] theorem isNon_lst (s : List D) : isNon (.lst s) = false := no_rfl rfl
@[simp] theorem isNon_ins (c : Nat) (s : List (Nat × D)) : isNon (.ins c s) = false := no_rfl rfl
@[simp] theorem isNon_ref (s : Nat) : isNon (.ref s) = false := no_rfl rfl
@[simp] theorem dIn_str (c : Nat) (s : List Nat) : dIn (.str [c]) (.str s) = some (decide (c ∈ s)) := by
  show some (s.contains c) = _
  rw [List.contains_eq_mem]
@[simp] theorem dIdx_lst (s : List D) (i : Int) : dIdx (.lst s) (.int i) = nth s i := no_rfl rfl
@[simp] theorem dIdx_tup (s : List D) (i : Int) : dIdx (.tup s) (.int i) = nth s i := no_rfl rfl
@[simp] theorem dIdx_str (s : List Nat) (i : Int) : dIdx (.str s) (.int i) = (nth s i).map fun c => .str [c] := no_rfl rfl
theorem nth_nat {α : Type} {xs : List α} {i : Int} {n : Nat} (h : i = n) (h2 : n < xs.length) : nth xs i = some xs[n] := by
  subst h
  unfold nth ixI
  rw [if_pos (by omega), if_pos (by omega)]
  simp [h2]
@[simp] theorem nth_0 {α : Type} (a : α) (xs : List α) : nth (a :: xs) 0 = some a := nth_nat (n := 0) rfl (by simp)
@[simp] theorem nth_1 {α : Type} (a b : α) (xs : List α) : nth (a :: b :: xs) 1 = some b := nth_nat (n := 1) rfl (by simp)
@[simp] theorem nth_2 {α : Type} (a b c : α) (xs : List α) : nth (a :: b :: c :: xs) 2 = some c := nth_nat (n := 2) rfl (by simp)
@[simp] theorem nth_3 {α : Type} (a b c d : α) (xs : List α) : nth (a :: b :: c :: d :: xs) 3 = some d := nth_nat (n := 3) rfl (by simp)
@[simp] theorem nth_4 {α : Type} (a b c d e : α) (xs : List α) : nth (a :: b :: c :: d :: e :: xs) 4 = some e := nth_nat (n := 4) rfl (by simp)
theorem nth_neg1 {α : Type} (xs : List α) (a : α) : nth (xs ++ [a]) (-1) = some a := by
  unfold nth ixI
  rw [if_neg (by omega), if_pos (by simp; omega)]
  have e : (-1 + ((xs ++ [a]).length : Int)).toNat = xs.length := by simp; omega
  simp only [Option.bind_some, e]
  simp
@[simp] theorem dOp_addI (a b : Int) : dOp .add (.int a) (.int b) = some (.v (.int (a + b))) := no_rfl rfl
@[simp] theorem dOp_subI (a b : Int) : dOp .sub (.int a) (.int b) = some (.v (.int (a - b))) := no_rfl rfl
theorem dOp_addS {a b : List Nat} (h : a.length + b.length ≤ lim) : dOp .add (.str a) (.str b) = some (.v (.str (a ++ b))) := if_pos h
theorem dOp_addL {a b : List D} (h : a.length + b.length ≤ lim) : dOp .add (.lst a) (.lst b) = some (.o (.lst (a ++ b))) := if_pos h
theorem dOp_addT {a b : List D} (h : a.length + b.length ≤ lim) : dOp .add (.tup a) (.tup b) = some (.v (.tup (a ++ b))) := if_pos h
theorem dOp_mod {a b : Int} (h : 0 < b) : dOp .mod (.int a) (.int b) = some (.v (.int (a % b))) := if_pos h
theorem dOp_fdiv {a b : Int} (h : 0 < b) (h2 : b < 1073741824) : dOp .fdiv (.int a) (.int b) = some (.v (.int (a / b))) := if_pos ⟨h, h2⟩
theorem dOp_mulR {a b : Int} (h : smallI b = true) : dOp .mul (.int a) (.int b) = some (.v (.int (a * b))) := if_pos (by rw [h, Bool.or_true])
@[simp] theorem dBi_lenS (s : List Nat) : dBi .len [.str s] = some (.v (.int s.length)) := no_rfl rfl
@[simp] theorem dBi_lenL (s : List D) : dBi .len [.lst s] = some (.v (.int s.length)) := no_rfl rfl
@[simp] theorem dBi_lenT (s : List D) : dBi .len [.tup s] = some (.v (.int s.length)) := no_rfl rfl
@[simp] theorem dBi_int (i : Int) : dBi .int [.int i] = some (.v (.int i)) := no_rfl rfl
@[simp] theorem dBi_listK (l : List D) : dBi .list [.kl l] = some (.o (.lst l)) := no_rfl rfl
@[simp] theorem dBi_listL (l : List D) : dBi .list [.lst l] = some (.o (.lst l)) := no_rfl rfl
theorem allB_map {α : Type} (p : α → Bool) : ∀ l : List α, allB (l.map fun x => .bl (p x)) = some (l.map p)
  | [] => rfl
  | x :: l => by
    show ((allB (l.map _)).map (p x :: ·)) = _
    rw [allB_map p l]
    rfl
@[simp] theorem dBi_all {α : Type} (p : α → Bool) (l : List α) : dBi .all [.lst (l.map fun x => .bl (p x))] = some (.v (.bl (l.all p))) := by
  show ((allB (l.map _)).map _) = _
  rw [allB_map]
  show some (Rv.v (.bl ((l.map p).all id))) = _
  rw [List.all_map]
  rfl
theorem allS_map {α : Type} (p : α → List Nat) : ∀ l : List α, allS (l.map fun x => .str (p x)) = some (l.map p)
  | [] => rfl
  | x :: l => by
    show ((allS (l.map _)).map (p x :: ·)) = _
    rw [allS_map p l]
    rfl
theorem joinS_nil : ∀ l : List (List Nat), joinS [] l = l.flatten
  | [] => rfl
  | [x] => by simp [joinS]
  | x :: y :: l => by
    show x ++ [] ++ joinS [] (y :: l) = _
    rw [joinS_nil (y :: l), List.append_nil]
    rfl
theorem dSm_join {α : Type} (p : α → List Nat) (l : List α) (h : (l.map fun x => (p x).length).sum ≤ lim) : dSm .join (.str []) [.lst (l.map fun x => .str (p x))] = some (.v (.str (l.map p).flatten)) := by
  show (allS (l.map _)).bind _ = _
  rw [allS_map]
  show (if ((l.map p).map (·.length)).sum + (l.map p).length * 0 ≤ lim then some (Rv.v (.str (joinS [] (l.map p)))) else none) = _
  rw [if_pos (by rw [Nat.mul_zero, Nat.add_zero, List.map_map]; exact h), joinS_nil]
theorem dSm_joinC {α : Type} (p : α → Nat) (l : List α) (h : l.length ≤ lim) : dSm .join (.str []) [.lst (l.map fun x => .str [p x])] = some (.v (.str (l.map p))) := by
  have e : ∀ l : List α, (l.map fun x => [p x].length).sum = l.length ∧ (l.map fun x => [p x]).flatten = l.map p := fun l => by
    induction l with
    | nil => exact ⟨rfl, rfl⟩
    | cons x l ih => 
      rw [List.map_cons, List.sum_cons, ih.1, List.map_cons, List.flatten_cons, ih.2]
      exact ⟨by simp; omega, rfl⟩
  rw [dSm_join (fun x => [p x]) l (by rw [(e l).1]; exact h), (e l).2]
theorem dSm_index {s : List Nat} {c : Nat} (h : s.contains c = true) : dSm .index (.str s) [.str [c]] = some (.v (.int (s.idxOf c))) := if_pos h
@[simp] theorem dCut_strLo (s : List Nat) (i : Nat) : dCut (.str s) (some (i : Int)) none = some (.v (.str (s.drop i))) := by
  show some (Rv.v (.str (cut s _ _))) = _
  unfold cut sIx
  dsimp only
  rw [if_neg (by omega), List.take_of_length_le (by simp)]
  congr 3
  by_cases h : i ≤ s.length
  · rw [show min (i : Int).toNat s.length = i by simp; omega]
  · rw [show min (i : Int).toNat s.length = s.length by simp; omega, List.drop_eq_nil_of_le (Nat.le_refl _), List.drop_eq_nil_of_le (by omega)]
@[simp] theorem dCut_str1 (s : List Nat) : dCut (.str s) (some 1) none = some (.v (.str s.tail)) := by
  have := dCut_strLo s 1
  rwa [List.drop_one] at this
@[simp] theorem dCut_strHi (s : List Nat) (i : Nat) : dCut (.str s) none (some (i : Int)) = some (.v (.str (s.take i))) := by
  show some (Rv.v (.str (cut s _ _))) = _
  unfold cut sIx
  dsimp only
  rw [if_neg (by omega), List.drop_zero, Nat.sub_zero]
  congr 3
  by_cases h : i ≤ s.length
  · rw [show min (i : Int).toNat s.length = i by simp; omega]
  · rw [show min (i : Int).toNat s.length = s.length by simp; omega, List.take_of_length_le (Nat.le_refl _), List.take_of_length_le (by omega)]
/-! places in the world -/
def drf : Option Own → Nat → D
  | some (.lst ds), _ => .lst ds
  | some (.dct kvs), _ => .dct kvs
  | _, n => .ref n
@[simp] theorem deref_ref (n : Nat) : deref w (.ref n) = drf w[n]? n := by
  show (match w[n]? with
    | some (.lst ds) => D.lst ds
    | some (.dct kvs) => .dct kvs
    | _ => .ref n) = _
  unfold drf
  cases w[n]? with
  | none => rfl
  | some o => cases o <;> rfl
@[simp] theorem drf_lst (ds : List D) (n : Nat) : drf (some (.lst ds)) n = .lst ds := no_rfl rfl
@[simp] theorem drf_dct (ds : List (D × D)) (n : Nat) : drf (some (.dct ds)) n = .dct ds := no_rfl rfl
@[simp] theorem drf_ins (c : Nat) (ds : List (Nat × D)) (n : Nat) : drf (some (.ins c ds)) n = .ref n := no_rfl rfl
def fldO (c f : Nat) : Option Own → Option D
  | some (.ins e fs) => if e = c then lookF fs f else none
  | _ => none
@[simp] theorem fldOf_ref (c f n : Nat) : fldOf w c f (.ref n) = fldO c f w[n]? := by
  show (match w[n]? with
    | some (.ins e fs) => if e = c then lookF fs f else none
    | _ => none) = _
  unfold fldO
  cases w[n]? with
  | none => rfl
  | some o => cases o <;> rfl
@[simp] theorem fldO_ins (c f : Nat) (fs : List (Nat × D)) : fldO c f (some (.ins c fs)) = lookF fs f := if_pos rfl
@[simp] theorem fldOf_ins (c f : Nat) (fs : List (Nat × D)) : fldOf w c f (.ins c fs) = lookF fs f := if_pos rfl
@[simp] theorem lookF_cons (a : Nat) (v : D) (r : List (Nat × D)) (x : Nat) : lookF ((a, v) :: r) x = if a == x then some v else lookF r x := no_rfl rfl
@[simp] theorem putFs_nil (x : Nat) (y : D) : putFs [] x y = [(x, y)] := no_rfl rfl
@[simp] theorem putFs_cons (a : Nat) (v : D) (r : List (Nat × D)) (x : Nat) (y : D) : putFs ((a, v) :: r) x y = if a == x then (x, y) :: r else (a, v) :: putFs r x y := no_rfl rfl
def clsO (c : Nat) : Option Own → Bool
  | some (.ins e _) => e == c
  | _ => false
@[simp] theorem isCls_ref (c n : Nat) : isCls w c (.ref n) = clsO c w[n]? := by
  show (match w[n]? with
    | some (.ins e _) => e == c
    | _ => false) = _
  unfold clsO
  cases w[n]? with
  | none => rfl
  | some o => cases o <;> rfl
@[simp] theorem clsO_ins (c e : Nat) (fs : List (Nat × D)) : clsO c (some (.ins e fs)) = (e == c) := no_rfl rfl
@[simp] theorem isCls_ins (c e : Nat) (fs : List (Nat × D)) : isCls w c (.ins e fs) = (e == c) := no_rfl rfl
def stW3 (n : Nat) (ρ : Env) (w : Wd) : Option Own → RS
  | some o' => .nx ρ (w.set n o')
  | none => .bad
@[simp] theorem stW3_some (n : Nat) (o : Own) : stW3 n ρ w (some o) = .nx ρ (w.set n o) := no_rfl rfl
def stW2 (n : Nat) (x v : D) (ρ : Env) (w : Wd) : Option Own → RS
  | some o => stW3 n ρ w (stO o x v)
  | none => .bad
@[simp] theorem stW2_some (n : Nat) (x v : D) (o : Own) : stW2 n x v ρ w (some o) = stW3 n ρ w (stO o x v) := no_rfl rfl
@[simp] theorem stW_eq (n : Nat) (x v : D) : stW n x v ρ w = stW2 n x v ρ w w[n]? := by
  unfold stW stW2 stW3
  cases w[n]? with
  | none => rfl
  | some o => cases stO o x v <;> rfl
def stF2 (c n f : Nat) (v : D) (ρ : Env) (w : Wd) : Option Own → RS
  | some (.ins c' fs) => if c' = c ∧ fs.length < 1000 then .nx ρ (w.set n (.ins c' (putFs fs f v))) else .bad
  | _ => .bad
@[simp] theorem stF_eq (c n f : Nat) (v : D) : stF c n f v ρ w = stF2 c n f v ρ w w[n]? := by
  unfold stF stF2
  cases w[n]? with
  | none => rfl
  | some o => cases o <;> rfl
@[simp] theorem stF2_ins (c n f : Nat) (v : D) (fs : List (Nat × D)) : stF2 c n f v ρ w (some (.ins c fs)) = if fs.length < 1000 then .nx ρ (w.set n (.ins c (putFs fs f v))) else .bad := by
  unfold stF2; simp
@[simp] theorem kSetS_eq (c f : Nat) (fs : List (Nat × D)) (v : D) (r : Env) : kSetS c f (.o (.ins c fs) :: r) v w = if fs.length < 1000 then .nx (.o (.ins c (putFs fs f v)) :: r) w else .bad := by
  unfold kSetS; simp
@[simp] theorem stO_lst (ds : List D) (i : Int) (v : D) : stO (.lst ds) (.int i) v = (setN ds i v).map Own.lst := no_rfl rfl
theorem setN_nat {ds : List D} {i : Int} {n : Nat} {v : D} (h : i = n) (h2 : n < ds.length) : setN ds i v = some (ds.set n v) := by
  subst h
  unfold setN ixI
  rw [if_pos (by omega), if_pos (by omega)]
  rfl
@[simp] theorem setN_0 (a v : D) (xs : List D) : setN (a :: xs) 0 v = some (v :: xs) := setN_nat (n := 0) rfl (by simp)
@[simp] theorem setN_1 (a b v : D) (xs : List D) : setN (a :: b :: xs) 1 v = some (a :: v :: xs) := setN_nat (n := 1) rfl (by simp)
@[simp] theorem setN_2 (a b c v : D) (xs : List D) : setN (a :: b :: c :: xs) 2 v = some (a :: b :: v :: xs) := setN_nat (n := 2) rfl (by simp)
@[simp] theorem setN_3 (a b c d v : D) (xs : List D) : setN (a :: b :: c :: d :: xs) 3 v = some (a :: b :: c :: v :: xs) := setN_nat (n := 3) rfl (by simp)
def kLcR2 (o : Option D) (r : List D) (w : Wd) : R (List D) := .ok (match o with
    | some y => y :: r
    | none => r) w
def kLcR (f : D → M (Option D)) (xs : List D) (o : Option D) (w : Wd) : R (List D) := (lcGo f xs w).bd (kLcR2 o)
theorem lcGo_cons (f : D → M (Option D)) (x : D) (xs : List D) : lcGo f (x :: xs) w = (f x w).bd (kLcR f xs) := by
  refine (bd_app _ _).trans ?_
  congr 1
  funext o w1
  exact bd_app _ _
@[simp] theorem lcGo_nil (f : D → M (Option D)) : lcGo f [] w = .ok [] w := no_rfl rfl
@[simp] theorem kLcR_eq (f : D → M (Option D)) (xs : List D) (o : Option D) : kLcR f xs o w = (lcGo f xs w).bd (kLcR2 o) := no_rfl rfl
@[simp] theorem kLcR2_s (y : D) (r : List D) : kLcR2 (some y) r w = .ok (y :: r) w := no_rfl rfl
@[simp] theorem kLcR2_n (r : List D) : kLcR2 none r w = .ok r w := no_rfl rfl
def isLO : Option Own → Bool
  | some (.lst _) => true
  | _ => false
@[simp] theorem isLO_lst (l : List D) : isLO (some (.lst l)) = true := no_rfl rfl
theorem isL_eq (n : Nat) : isL n w = isLO w[n]? := rfl
def apWO (n : Nat) (v : D) (ρ : Env) (w : Wd) : Option Own → RS
  | some (.lst ds) => if ds.length < lim then .nx ρ (w.set n (.lst (ds ++ [v]))) else .bad
  | _ => .bad
@[simp] theorem apWO_lst (n : Nat) (v : D) (ds : List D) : apWO n v ρ w (some (.lst ds)) = if ds.length < lim then .nx ρ (w.set n (.lst (ds ++ [v]))) else .bad := no_rfl rfl
def kApW (n : Nat) (ρ : Env) (v : D) (w : Wd) : RS := apWO n v ρ w w[n]?
@[simp] theorem kApW_eq (n : Nat) (v : D) : kApW n ρ v w = apWO n v ρ w w[n]? := no_rfl rfl
@[simp] theorem kApR_eq {n : Nat} {e : E} (h : isLO w[n]? = true) : kApR G e ρ (.ref n) w = (ev G e ρ w).dv.st ρ (kApW n ρ) := by
  rw [kApR_of h]
  refine congrArg (R.st _ _) ?_
  funext v w1
  unfold apW kApW apWO
  cases w1[n]? with
  | none => rfl
  | some o => cases o <;> rfl
/-- a comprehension without effects: x is kept as y -/
theorem lcGo_pure {f : D → M (Option D)} {α : Type} {i : α → D} {p : α → Bool} {g : α → D} : ∀ {xs : List α} {w : Wd}, (∀ x ∈ xs, f (i x) w = .ok (if p x then some (g x) else none) w) → lcGo f (xs.map i) w = .ok ((xs.filter p).map g) w
  | [], w, h => rfl
  | x :: xs, w, h => by
    have h1 := h x List.mem_cons_self
    have h2 := lcGo_pure (xs := xs) (w := w) fun y m => h y (List.mem_cons_of_mem _ m)
    rw [List.map_cons]
    unfold lcGo
    rw [bd_app, h1, rbd_ok, bd_app, h2, rbd_ok, List.filter_cons]
    cases p x <;> rfl
theorem lcGo_map {f : D → M (Option D)} {α : Type} {i : α → D} {g : α → D} {xs : List α} {w : Wd} (h : ∀ x ∈ xs, f (i x) w = .ok (some (g x)) w) : lcGo f (xs.map i) w = .ok (xs.map g) w := by
  have := lcGo_pure (f := f) (i := i) (p := fun _ => true) (g := g) (xs := xs) (w := w) (by simpa using h)
  rwa [List.filter_eq_self.mpr (by simp)] at this
theorem kLc_pure {tg : Tg} {cnd : Ot} {elt : E} {α : Type} {i : α → D} {p : α → Bool} {g : α → D} {xs : List α} (hl : xs.length ≤ lim) (h : ∀ x ∈ xs, lcB G tg cnd elt ρ (i x) w = .ok (if p x then some (g x) else none) w) :
    kLc G tg cnd elt ρ (xs.map i) w = .ok (.o (.lst ((xs.filter p).map g))) w := kLc_of (by rwa [List.length_map]) (lcGo_pure h)
theorem kLc_map {tg : Tg} {cnd : Ot} {elt : E} {α : Type} {i : α → D} {g : α → D} {xs : List α} (hl : xs.length ≤ lim) (h : ∀ x ∈ xs, lcB G tg cnd elt ρ (i x) w = .ok (some (g x)) w) :
    kLc G tg cnd elt ρ (xs.map i) w = .ok (.o (.lst (xs.map g))) w := kLc_of (by rwa [List.length_map]) (lcGo_map h)
@[simp] theorem lcB_nm (i : Nat) (cnd : Ot) (elt : E) (x : D) : lcB G (.nm i) cnd elt ρ x w = (evc G cnd ((ρ.set i .u).set i (.v x)) w).bd (kLcC G elt ((ρ.set i .u).set i (.v x))) := no_rfl rfl
@[simp] theorem lcB_tp2 (i j : Nat) (cnd : Ot) (elt : E) (x y : D) : lcB G (.tp [i, j]) cnd elt ρ (.tup [x, y]) w = (evc G cnd ((((ρ.set i .u).set j .u).set i (.v x)).set j (.v y)) w).bd (kLcC G elt ((((ρ.set i .u).set j .u).set i (.v x)).set j (.v y))) := no_rfl rfl
end
end My

set_option Elab.async false
set_option linter.all false
set_option maxRecDepth 100000
/-! S1: tables.py, draws. -/
namespace My
def isOf (cs s : List Nat) : Bool := s.all fun c => decide (c ∈ cs)
theorem is_of_non (k : Nat) (d : D) (w : Wd) : den PG (k + 2) f.is_of [.non, d] w = .ok (.v (.bl false)) w := by
  rw [run_is_of]; simp [b_is_of]
theorem is_of_int (k : Nat) (i : Int) (d : D) (w : Wd) : den PG (k + 2) f.is_of [.int i, d] w = .ok (.v (.bl false)) w := by
  rw [run_is_of]; simp [b_is_of]
theorem is_of_bl (k : Nat) (i : Bool) (d : D) (w : Wd) : den PG (k + 2) f.is_of [.bl i, d] w = .ok (.v (.bl false)) w := by
  rw [run_is_of]; simp [b_is_of]
theorem is_of_lst (k : Nat) (i : List D) (d : D) (w : Wd) : den PG (k + 2) f.is_of [.lst i, d] w = .ok (.v (.bl false)) w := by
  rw [run_is_of]; simp [b_is_of]
theorem is_of_tup (k : Nat) (i : List D) (d : D) (w : Wd) : den PG (k + 2) f.is_of [.tup i, d] w = .ok (.v (.bl false)) w := by
  rw [run_is_of]; simp [b_is_of]
theorem is_of_str (k : Nat) (s cs : List Nat) (w : Wd) (hs : s.length ≤ lim) : den PG (k + 2) f.is_of [.str s, .str cs] w = .ok (.v (.bl (isOf cs s))) w := by
  rw [run_is_of]; simp [b_is_of]
  rw [kLc_map (g := fun c => .bl (decide (c ∈ cs))) hs (by simp [e_is_of_1])]
  simp [isOf]
def notStr : D → Bool
  | .non => true
  | .bl _ => true
  | .int _ => true
  | .lst _ => true
  | .tup _ => true
  | _ => false
theorem is_of_not (k : Nat) {x : D} (d : D) (w : Wd) (h : notStr x = true) : den PG (k + 2) f.is_of [x, d] w = .ok (.v (.bl false)) w := by
  cases x <;> first | exact is_of_non k _ w | exact is_of_int k _ _ w | exact is_of_bl k _ _ w | exact is_of_lst k _ _ w | exact is_of_tup k _ _ w | cases h
def isTable (s : List Nat) : Bool := isOf K03 s && decide (s.length = 6)
theorem is_table_str (k : Nat) (s : List Nat) (w : Wd) (hs : s.length ≤ lim) : den PG (k + 3) f.is_table [.str s] w = .ok (.v (.bl (isTable s))) w := by
  rw [run_is_table]; simp [b_is_table, is_of_str, hs]
  unfold isTable
  cases h : isOf K03 s <;> simp [ABC]
  omega
theorem is_table_not (k : Nat) {x : D} (w : Wd) (h : notStr x = true) : den PG (k + 3) f.is_table [x] w = .ok (.v (.bl false)) w := by
  rw [run_is_table]; simp [b_is_table, is_of_not, h]
def keyOf (t : List Nat) (c : Nat) : Nat := t.getD (c - 97) 0
theorem gd0 : PG.gds.getD 0 [] = [(.str [97], .int 0), (.str [98], .int 1), (.str [99], .int 2), (.str [100], .int 3), (.str [101], .int 4), (.str [102], .int 5)] := rfl
theorem place {c : Nat} (h : c ∈ ABC) : lookD (PG.gds.getD 0 []) (.str [c]) = some (.int ((c - 97 : Nat) : Int)) := by
  simp only [ABC, List.mem_cons, List.not_mem_nil, or_false] at h
  rcases h with rfl | rfl | rfl | rfl | rfl | rfl <;> rfl
theorem key_of_ok (k : Nat) (t : List Nat) (c : Nat) (w : Wd) (ht : t.length = 6) (hc : c ∈ ABC) : den PG (k + 2) f.key_of [.str t, .str [c]] w = .ok (.v (.str [keyOf t c])) w := by
  rw [run_key_of]; simp [b_key_of]
  rw [← List.getD_eq_getElem?_getD, place hc]
  have : c - 97 < t.length := by
    simp only [ABC, List.mem_cons, List.not_mem_nil, or_false] at hc
    omega
  simp [nth_nat rfl this, keyOf, this]
theorem check_items_str (k : Nat) (s : List Nat) (w : Wd) (hs : s.length ≤ lim) : den PG (k + 3) f.check_items [.str s] w = if isOf ABC s then .ok (.v .non) w else .exc 4 [] w := by
  rw [run_check_items]; simp [b_check_items, is_of_str, hs]
  cases h : isOf ABC s <;> simp
  rfl
theorem check_items_not (k : Nat) {x : D} (w : Wd) (h : notStr x = true) : den PG (k + 3) f.check_items [x] w = .exc 4 [] w := by
  rw [run_check_items]; simp [b_check_items, is_of_not, h]
  rfl
theorem check_table_str (k : Nat) (s : List Nat) (w : Wd) (hs : s.length ≤ lim) : den PG (k + 4) f.check_table [.str s] w = if isTable s then .ok (.v .non) w else .exc 2 [] w := by
  rw [run_check_table]; simp [b_check_table, is_table_str, hs]
  cases h : isTable s <;> simp
  rfl
theorem check_table_not (k : Nat) {x : D} (w : Wd) (h : notStr x = true) : den PG (k + 4) f.check_table [x] w = .exc 2 [] w := by
  rw [run_check_table]; simp [b_check_table, is_table_not, h]
  rfl
end My

set_option Elab.async false
set_option linter.all false
set_option maxRecDepth 100000
/-! S2: draws. -/
namespace My
def Dr (d : Own) : Prop := ∃ (cells : List Int) (a : Nat) (b s : Int), d = .lst [.lst (cells.map D.int), .int a, .int b, .int s] ∧ 0 ≤ b
theorem draw_ok (k : Nat) {d : Own} (ws : Wd) (h : Dr d) (m : Int) (h1 : 0 < m) (h2 : m < 1000) :
    ∃ (r : Nat) (d' : Own), den PG (k + 2) f._law_draw [.ref 0, .int m] (d :: ws) = .ok (.v (.int r)) (d' :: ws) ∧ (r : Int) < m ∧ Dr d' := by
  obtain ⟨cells, a, b, s, rfl, hb⟩ := h
  rw [run__law_draw]
  have p1 : dOp .pow (.int 10) (.int 18) = some (.v (.int 1000000000000000000)) := rfl
  by_cases hb0 : b = 0
  · subst hb0
    by_cases ha : a < cells.length
    · have hn : nth (cells.map D.int) (a : Int) = some (.int cells[a]) := by
        rw [nth_nat (n := a) rfl (by simpa using ha)]; simp
      by_cases hc : cells[a] < 1000000000000000000
      · refine ⟨(((s * 48271 + cells[a] * 69621 + 11) % 2147483647 * 16807) % 2147483629 % m).toNat, _, ?_, ?_, ⟨cells, a + 1, 0, (s * 48271 + cells[a] * 69621 + 11) % 2147483647, rfl, by omega⟩⟩
        · have hr : ((((s * 48271 + cells[a] * 69621 + 11) % 2147483647 * 16807) % 2147483629 % m).toNat : Int) = ((s * 48271 + cells[a] * 69621 + 11) % 2147483647 * 16807) % 2147483629 % m := by
            have := Int.emod_nonneg (((s * 48271 + cells[a] * 69621 + 11) % 2147483647 * 16807) % 2147483629) (b := m) (by omega)
            omega
          simp [b__law_draw, ha, hn, p1, hc, dOp_mulR, smallI, dOp_mod, h1, hr]
        · have := Int.emod_lt_of_pos (((s * 48271 + cells[a] * 69621 + 11) % 2147483647 * 16807) % 2147483629) h1
          omega
      · refine ⟨(cells[a] % m).toNat, _, ?_, ?_, ⟨cells, a + 1, cells[a] / m, s, rfl, Int.ediv_nonneg (by omega) (by omega)⟩⟩
        · have hr : ((cells[a] % m).toNat : Int) = cells[a] % m := by
            have := Int.emod_nonneg cells[a] (b := m) (by omega)
            omega
          have hp : 0 < cells[a] := by omega
          have hm : m < 1073741824 := by omega
          simp [b__law_draw, ha, hn, p1, hc, dOp_mulR, smallI, dOp_mod, dOp_fdiv, h1, hr, hp, hm]
        · have := Int.emod_lt_of_pos cells[a] h1
          omega
    · refine ⟨(((s * 48271 + 7) % 2147483647 * 16807) % 2147483629 % m).toNat, _, ?_, ?_, ⟨cells, a, 0, (s * 48271 + 7) % 2147483647, rfl, by omega⟩⟩
      · have hr : ((((s * 48271 + 7) % 2147483647 * 16807) % 2147483629 % m).toNat : Int) = ((s * 48271 + 7) % 2147483647 * 16807) % 2147483629 % m := by
          have := Int.emod_nonneg (((s * 48271 + 7) % 2147483647 * 16807) % 2147483629) (b := m) (by omega)
          omega
        simp [b__law_draw, ha, p1, dOp_mulR, smallI, dOp_mod, h1, hr]
      · have := Int.emod_lt_of_pos (((s * 48271 + 7) % 2147483647 * 16807) % 2147483629) h1
        omega
  · refine ⟨(b % m).toNat, _, ?_, ?_, ⟨cells, a, b / m, s, rfl, Int.ediv_nonneg (by omega) (by omega)⟩⟩
    · have hr : ((b % m).toNat : Int) = b % m := by
        have := Int.emod_nonneg b (b := m) (by omega)
        omega
      have hp : 0 < b := by omega
      have hm : m < 1073741824 := by omega
      simp [b__law_draw, hb0, dOp_mod, dOp_fdiv, h1, hr, hp, hm]
    · have := Int.emod_lt_of_pos b h1
      omega
end My

set_option Elab.async false
set_option linter.all false
set_option maxRecDepth 100000
/-! S3: comprehensions that draw; tables, texts of draws; two places of a world. -/
namespace My
theorem lcGo_draw {α β : Type} {f : D → M (Option D)} {i : α → D} {g : β → D} {Q : β → Prop} {ws : Wd} : ∀ {xs : List α} {d : Own}, Dr d → (∀ x ∈ xs, ∀ d, Dr d → ∃ (y : β) (d' : Own), f (i x) (d :: ws) = .ok (some (g y)) (d' :: ws) ∧ Dr d' ∧ Q y) →
    ∃ (zs : List β) (d' : Own), lcGo f (xs.map i) (d :: ws) = .ok (zs.map g) (d' :: ws) ∧ Dr d' ∧ zs.length = xs.length ∧ ∀ z ∈ zs, Q z
  | [], d, hd, h => ⟨[], d, rfl, hd, rfl, by simp⟩
  | x :: xs, d, hd, h => by
    obtain ⟨y, d1, e1, h1, q1⟩ := h x List.mem_cons_self d hd
    obtain ⟨zs, d2, e2, h2, l2, q2⟩ := lcGo_draw (xs := xs) h1 fun x m => h x (List.mem_cons_of_mem _ m)
    refine ⟨y :: zs, d2, ?_, h2, by simp [l2], by simpa using ⟨q1, q2⟩⟩
    rw [List.map_cons]
    unfold lcGo
    rw [bd_app, e1, rbd_ok, bd_app, e2, rbd_ok]
    rfl
theorem lcGo_drawF {α : Type} {f : D → M (Option D)} {i : α → D} {ws : Wd} : ∀ {xs : List α} {d : Own}, Dr d → (∀ x ∈ xs, ∀ d, Dr d → ∃ (b : Bool) (d' : Own), f (i x) (d :: ws) = .ok (if b then some (i x) else none) (d' :: ws) ∧ Dr d') →
    ∃ (zs : List α) (d' : Own), lcGo f (xs.map i) (d :: ws) = .ok (zs.map i) (d' :: ws) ∧ Dr d' ∧ zs.Sublist xs
  | [], d, hd, h => ⟨[], d, rfl, hd, List.Sublist.refl _⟩
  | x :: xs, d, hd, h => by
    obtain ⟨b, d1, e1, h1⟩ := h x List.mem_cons_self d hd
    obtain ⟨zs, d2, e2, h2, l2⟩ := lcGo_drawF (xs := xs) h1 fun x m => h x (List.mem_cons_of_mem _ m)
    refine ⟨if b then x :: zs else zs, d2, ?_, h2, by cases b <;> simp [l2]⟩
    rw [List.map_cons]
    unfold lcGo
    rw [bd_app, e1, rbd_ok, bd_app, e2, rbd_ok]
    cases b <;> rfl
theorem rngD_eq {j : Int} {n : Nat} (h : j = n) : rngD 0 j = (List.range n).map fun (i : Nat) => .int i := by
  subst h
  unfold rngD
  rw [show ((n : Int) - 0).toNat = n by omega]
  congr 1
  funext i
  rw [Int.zero_add]
theorem getD_mem {α : Type} {l : List α} {i : Nat} {a : α} (h : i < l.length) : l.getD i a ∈ l := by
  rw [List.getD_eq_getElem?_getD, List.getElem?_eq_getElem h]
  exact List.getElem_mem h
theorem lim_eq : lim = 16777216 := rfl
theorem law_table_ok (k : Nat) {d : Own} (ws : Wd) (h : Dr d) :
    ∃ (t : List Nat) (d' : Own), den PG (k + 3) f._law_table [.ref 0] (d :: ws) = .ok (.v (.str t)) (d' :: ws) ∧ isTable t = true ∧ Dr d' := by
  rw [run__law_table]
  obtain ⟨r, d1, e1, h1, hd1⟩ := draw_ok k ws h 5 (by decide) (by decide)
  have hm : ∃ m : Nat, nth [D.int 2, D.int 2, D.int 3, D.int 4, D.int 1] (r : Int) = some (.int m) ∧ 0 < m ∧ m ≤ 4 := by
    have : r < 5 := by omega
    match r, this with
    | 0, _ => exact ⟨2, rfl, by decide, by decide⟩
    | 1, _ => exact ⟨2, rfl, by decide, by decide⟩
    | 2, _ => exact ⟨3, rfl, by decide, by decide⟩
    | 3, _ => exact ⟨4, rfl, by decide, by decide⟩
    | 4, _ => exact ⟨1, rfl, by decide, by decide⟩
  obtain ⟨m, em, hm0, hm4⟩ := hm
  obtain ⟨zs, d2, e2, hd2, hl, hz⟩ := lcGo_draw (f := lcB (PG.gx (den PG (k + 2))) (.nm 2) .no e__law_table_1 [.v (.ref 0), .v (.int m), .u])
    (i := fun (i : Nat) => .int i) (g := fun (c : Nat) => .str [c]) (Q := fun c => c ∈ K03) (ws := ws) (xs := List.range 6) hd1 fun x _ d hd => by
      obtain ⟨r, d1, e1, h1, hd1⟩ := draw_ok k ws hd m (by omega) (by omega)
      have hr : r < K03.length := by show r < 4; omega
      exact ⟨K03[r], d1, by simp [e__law_table_1, e1, nth_nat rfl hr], hd1, List.getElem_mem hr⟩
  refine ⟨zs, d2, ?_, ?_, hd2⟩
  · simp [b__law_table, e1, em]
    rw [kR1_of (by decide) (by decide)]
    simp
    rw [rngD_eq (j := 6) (n := 6) rfl, kLc_of (by simp [lim_eq]) e2]
    simp [dSm_joinC (fun c => c) zs (by rw [hl, lim_eq]; decide)]
  · unfold isTable isOf
    simp [hl]
    exact hz
/-- two places of a world -/
def W2 (w : Wd) (i j : Nat) (a b : Own) : Wd := (w.set i a).set j b
structure In2 (w : Wd) (i j : Nat) : Prop where
  hi : i < w.length
  hj : j < w.length
  ne : i ≠ j
theorem W2_i {w : Wd} {i j : Nat} {a b : Own} (h : In2 w i j) : (W2 w i j a b)[i]? = some a := by
  unfold W2
  rw [List.getElem?_set_ne h.ne.symm, List.getElem?_set_self h.hi]
theorem W2_j {w : Wd} {i j : Nat} {a b : Own} (h : In2 w i j) : (W2 w i j a b)[j]? = some b := by
  unfold W2
  rw [List.getElem?_set_self (by rw [List.length_set]; exact h.hj)]
theorem W2_si {w : Wd} {i j : Nat} {a b c : Own} (h : In2 w i j) : (W2 w i j a b).set i c = W2 w i j c b := by
  unfold W2
  rw [List.set_comm _ _ h.ne.symm, List.set_set]
theorem W2_sj {w : Wd} {i j : Nat} {a b c : Own} : (W2 w i j a b).set j c = W2 w i j a c := by
  unfold W2
  rw [List.set_set]
theorem W2_len {w : Wd} {i j : Nat} {a b : Own} : (W2 w i j a b).length = w.length := by simp [W2]
theorem W2_ex {w : Wd} {i j : Nat} {a b : Own} (ha : w[i]? = some a) (hb : w[j]? = some b) : w = W2 w i j a b := by
  unfold W2
  have e1 : w.set i a = w := by
    obtain ⟨h, e⟩ := List.getElem?_eq_some_iff.mp ha
    rw [← e, List.set_getElem_self]
  have e2 : w.set j b = w := by
    obtain ⟨h, e⟩ := List.getElem?_eq_some_iff.mp hb
    rw [← e, List.set_getElem_self]
  rw [e1, e2]
end My

set_option Elab.async false
set_option linter.all false
set_option maxRecDepth 100000
/-! S4: streams and walkers. -/
namespace My
def stO_ (s : List Nat) : Own := .ins 12 [(0, .str s)]
def oc : Option Nat → D
  | none => .non
  | some c => .str [c]
@[simp] theorem oc_none : oc none = .non := rfl
@[simp] theorem oc_some (c : Nat) : oc (some c) = .str [c] := rfl
def wkO (st : Nat) (t : List Nat) (n : Int) (key : D) (over : Bool) (held : D) : Own := .ins 14 [(4, .ref st), (5, .str t), (3, .int n), (2, key), (6, .bl over), (7, held)]
section
variable {w : Wd} {wk st : Nat} {k : Nat} {t : List Nat} {n : Int} {key held : D} {over : Bool} {s : List Nat} {a : Own} {ρ : Env}
@[simp] theorem cls_st : clsO 12 (some (stO_ s)) = true := rfl
@[simp] theorem cls_wk : clsO 14 (some (wkO st t n key over held)) = true := rfl
@[simp] theorem fld_st : fldO 12 0 (some (stO_ s)) = some (.str s) := rfl
@[simp] theorem fld_wk4 : fldO 14 4 (some (wkO st t n key over held)) = some (.ref st) := rfl
@[simp] theorem fld_wk5 : fldO 14 5 (some (wkO st t n key over held)) = some (.str t) := rfl
@[simp] theorem fld_wk3 : fldO 14 3 (some (wkO st t n key over held)) = some (.int n) := rfl
@[simp] theorem fld_wk2 : fldO 14 2 (some (wkO st t n key over held)) = some key := rfl
@[simp] theorem fld_wk6 : fldO 14 6 (some (wkO st t n key over held)) = some (.bl over) := rfl
@[simp] theorem fld_wk7 : fldO 14 7 (some (wkO st t n key over held)) = some held := rfl
@[simp] theorem put_st {x : Nat} {s' : List Nat} : stF2 12 x 0 (.str s') ρ w (some (stO_ s)) = .nx ρ (w.set x (stO_ s')) := rfl
@[simp] theorem put_wk7 {x : Nat} {v : D} : stF2 14 x 7 v ρ w (some (wkO st t n key over held)) = .nx ρ (w.set x (wkO st t n key over v)) := rfl
@[simp] theorem put_wk6 {x : Nat} {v : Bool} : stF2 14 x 6 (.bl v) ρ w (some (wkO st t n key over held)) = .nx ρ (w.set x (wkO st t n key v held)) := rfl
@[simp] theorem put_wk2 {x : Nat} {v : D} : stF2 14 x 2 v ρ w (some (wkO st t n key over held)) = .nx ρ (w.set x (wkO st t n v over held)) := rfl
theorem kAuF_wk {x : Nat} {G : Gx} {e : E} (h : w[x]? = some (wkO st t n key over held)) : kAuF G 14 3 e ρ (.ref x) w = (ev G e ρ w).dv.st ρ (auW 14 x 3 n ρ) := kAuF_of h rfl
theorem auW_wk {x : Nat} {j : Int} (h : w[x]? = some (wkO st t n key over held)) : auW 14 x 3 n ρ (.int j) w = .nx ρ (w.set x (wkO st t (n + j) key over held)) := auW_of h (by simp)
theorem stream_left (h : w[st]? = some (stO_ s)) : den PG (k + 2) f.Stream_left [.ref st] w = .ok (.v (.str s)) w := by
  rw [run_Stream_left]
  simp [b_Stream_left, h]
theorem stream_take {c : Nat} (h : w[st]? = some (stO_ (c :: s))) : den PG (k + 2) f.Stream_take [.ref st] w = .ok (.v (.str [c])) (w.set st (stO_ s)) := by
  rw [run_Stream_take]
  simp [b_Stream_take, h]
theorem stream_take0 (h : w[st]? = some (stO_ [])) : den PG (k + 2) f.Stream_take [.ref st] w = .exc 5 [] w := by
  rw [run_Stream_take]
  simp [b_Stream_take, h]
  rfl
theorem stream_leftW (hw : In2 w wk st) : den PG (k + 2) f.Stream_left [.ref st] (W2 w wk st a (stO_ s)) = .ok (.v (.str s)) (W2 w wk st a (stO_ s)) := stream_left (W2_j hw)
theorem stream_takeW {c : Nat} (hw : In2 w wk st) : den PG (k + 2) f.Stream_take [.ref st] (W2 w wk st a (stO_ (c :: s))) = .ok (.v (.str [c])) (W2 w wk st a (stO_ s)) := (stream_take (W2_j hw)).trans (by rw [W2_sj])
/-- what is next, what is left -/
def tk (h : Option Nat) (s : List Nat) : Option Nat × List Nat := match h with
  | some c => (some c, s)
  | none => (s.head?, s.tail)
theorem taken_ok (hw : In2 w wk st) (held : Option Nat) :
    den PG (k + 3) f.Walker_taken [.ref wk] (W2 w wk st (wkO st t n key over (oc held)) (stO_ s)) = .ok (.v (oc (tk held s).1)) (W2 w wk st (wkO st t n key over .non) (stO_ (tk held s).2)) := by
  rw [run_Walker_taken]
  cases held with
  | some c => simp [b_Walker_taken, W2_i hw, W2_si hw, tk]
  | none =>
    cases s with
    | nil => simp [b_Walker_taken, W2_i hw, W2_j hw, W2_si hw, tk, stream_leftW hw]
    | cons c s => simp [b_Walker_taken, W2_i hw, W2_j hw, W2_si hw, tk, stream_leftW hw, stream_takeW hw]
/-- the walker's next item of a group -/
structure Wk where
  over : Bool
  held : Option Nat
  s : List Nat
def nxt (t : List Nat) (key : Nat) (x : Wk) : Option Nat × Wk := if x.over then (none, x) else match (tk x.held x.s).1 with
  | none => (none, ⟨true, none, (tk x.held x.s).2⟩)
  | some c => if keyOf t c = key then (some c, ⟨false, none, (tk x.held x.s).2⟩) else (none, ⟨true, some c, (tk x.held x.s).2⟩)
def Wk.all (x : Wk) : List Nat := x.held.toList ++ x.s
theorem tk_mem {h : Option Nat} {s : List Nat} {c : Nat} (e : (tk h s).1 = some c) : c ∈ h.toList ++ s := by
  cases h with
  | some d => cases e; simp
  | none =>
    cases s with
    | nil => cases e
    | cons d s => cases e; simp
/-- the world of a walker -/
def ww (w : Wd) (wk st : Nat) (t : List Nat) (n : Int) (key : D) (x : Wk) : Wd := W2 w wk st (wkO st t n key x.over (oc x.held)) (stO_ x.s)
theorem next_of_ok (hw : In2 w wk st) (ht : t.length = 6) (g : Nat) (x : Wk) (hx : ∀ c ∈ x.all, c ∈ ABC) :
    den PG (k + 4) f.Walker_next_of [.ref wk, .str [g]] (ww w wk st t n key x) = .ok (.v (oc (nxt t g x).1)) (ww w wk st t n key (nxt t g x).2) := by
  rw [run_Walker_next_of]
  obtain ⟨over, held, s⟩ := x
  cases over with
  | true => simp [b_Walker_next_of, W2_i hw, ww, nxt]
  | false =>
    cases e : (tk held s).1 with
    | none => simp [b_Walker_next_of, W2_i hw, W2_si hw, ww, nxt, taken_ok hw, e]
    | some c =>
      have hc : c ∈ ABC := hx c (tk_mem e)
      by_cases hk : keyOf t c = g
      · simp [b_Walker_next_of, W2_i hw, W2_si hw, ww, nxt, taken_ok hw, e, key_of_ok, ht, hc, hk]
      · simp [b_Walker_next_of, W2_i hw, W2_si hw, ww, nxt, taken_ok hw, e, key_of_ok, ht, hc, hk]
end
end My

set_option Elab.async false
set_option linter.all false
set_option maxRecDepth 100000
/-! S5: a walker asks, a handle reads. -/
namespace My
def ofL (l : List Nat) : Wk := ⟨true, l.head?, l.tail⟩
theorem ofL_all (l : List Nat) : (ofL l).all = l := by cases l <;> rfl
theorem tk_all (h : Option Nat) (s : List Nat) : tk h s = ((h.toList ++ s).head?, (h.toList ++ s).tail) := by cases h <;> rfl
theorem nxt_nil {t : List Nat} {g : Nat} {x : Wk} (h : x.over = false) (e : x.all = []) : nxt t g x = (none, ⟨true, none, []⟩) := by
  unfold nxt; rw [h, tk_all]; unfold Wk.all at e; rw [e]; rfl
theorem nxt_in {t : List Nat} {g c : Nat} {l : List Nat} {x : Wk} (h : x.over = false) (e : x.all = c :: l) (hk : keyOf t c = g) : nxt t g x = (some c, ⟨false, none, l⟩) := by
  unfold nxt; rw [h, tk_all]; unfold Wk.all at e; rw [e]; simp [hk]
theorem nxt_out {t : List Nat} {g c : Nat} {l : List Nat} {x : Wk} (h : x.over = false) (e : x.all = c :: l) (hk : keyOf t c ≠ g) : nxt t g x = (none, ⟨true, some c, l⟩) := by
  unfold nxt; rw [h, tk_all]; unfold Wk.all at e; rw [e]; simp [hk]
theorem nxt_over {t : List Nat} {g : Nat} {x : Wk} (h : x.over = true) : nxt t g x = (none, x) := by
  unfold nxt; rw [h]; rfl
def skip (t : List Nat) (g : Nat) (x : Wk) : Wk := if x.over then x else ofL (x.all.dropWhile fun c => decide (keyOf t c = g))
section
variable {w : Wd} {wk st : Nat} {k : Nat} {t : List Nat} {n : Int} {key held : D} {over : Bool} {s : List Nat} {a : Own} {ρ : Env}
theorem ww_i {x : Wk} (hw : In2 w wk st) : (ww w wk st t n key x)[wk]? = some (wkO st t n key x.over (oc x.held)) := W2_i hw
theorem ww_j {x : Wk} (hw : In2 w wk st) : (ww w wk st t n key x)[st]? = some (stO_ x.s) := W2_j hw
theorem ask_test (hw : In2 w wk st) (x : Wk) : evT (PG.gx (den PG k)) t_Walker_ask_1 [.v (.ref wk), .u] (ww w wk st t n key x) = .ok (!x.over) (ww w wk st t n key x) := by
  simp [t_Walker_ask_1, ww_i hw]
theorem ask_turn (hw : In2 w wk st) (ht : t.length = 6) (g : Nat) (x : Wk) (hx : ∀ c ∈ x.all, c ∈ ABC) :
    evSs (PG.gx (den PG (k + 4))) w_Walker_ask_1 [.v (.ref wk), .u] (ww w wk st t n (.str [g]) x) = .nx [.v (.ref wk), .u] (ww w wk st t n (.str [g]) (nxt t g x).2) := by
  simp [w_Walker_ask_1, ww_i hw, next_of_ok hw ht g x hx]
theorem skip_loop (hw : In2 w wk st) (ht : t.length = 6) (g : Nat) : ∀ (m : Nat) (x : Wk), x.all.length ≤ m → (∀ c ∈ x.all, c ∈ ABC) → (x.over = false → key = .str [g]) →
    wGo (PG.gx (den PG (k + 4))) t_Walker_ask_1 w_Walker_ask_1 [.v (.ref wk), .u] (ww w wk st t n key x) = .nx [.v (.ref wk), .u] (ww w wk st t n key (skip t g x)) := by
  have stop : ∀ x : Wk, x.over = true → wGo (PG.gx (den PG (k + 4))) t_Walker_ask_1 w_Walker_ask_1 [.v (.ref wk), .u] (ww w wk st t n key x) = .nx [.v (.ref wk), .u] (ww w wk st t n key x) := fun x h =>
    wGo_stop (by rw [ask_test hw x, h]; rfl)
  intro m
  induction m with
  | zero =>
    intro x hl hx hk
    cases ho : x.over with
    | true => rw [stop x ho]; unfold skip; rw [ho]; rfl
    | false =>
      have e : x.all = [] := List.length_eq_zero_iff.mp (by omega)
      obtain rfl := hk ho
      have hT := ask_test (k := k + 4) (t := t) (n := n) (key := .str [g]) hw x
      rw [ho] at hT
      rw [wGo_step hT (ask_turn hw ht g x hx), nxt_nil ho e, stop _ rfl]
      unfold skip; rw [ho, e]; rfl
  | succ m ih =>
    intro x hl hx hk
    cases ho : x.over with
    | true => rw [stop x ho]; unfold skip; rw [ho]; rfl
    | false =>
      obtain rfl := hk ho
      have hT := ask_test (k := k + 4) (t := t) (n := n) (key := .str [g]) hw x
      rw [ho] at hT
      rw [wGo_step hT (ask_turn hw ht g x hx)]
      cases e : x.all with
      | nil => rw [nxt_nil ho e, stop _ rfl]; unfold skip; rw [ho, e]; rfl
      | cons c l =>
        rw [e] at hl hx
        by_cases hg : keyOf t c = g
        · rw [nxt_in ho e hg, ih ⟨false, none, l⟩ (by simpa [Wk.all] using hl) (fun c m => hx c (by simpa [Wk.all] using Or.inr m)) (fun _ => rfl)]
          unfold skip; rw [ho, e]; simp [Wk.all, hg]
        · rw [nxt_out ho e hg, stop _ rfl]
          unfold skip; rw [ho, e]; simp [hg, ofL]
def hdO (wk : Nat) (g : Nat) (n : Int) : D := .ins 13 [(1, .ref wk), (2, .str [g]), (3, .int n)]
def hdW (wk : Nat) (g : Nat) (n : Int) : Own := .ins 13 [(1, .ref wk), (2, .str [g]), (3, .int n)]
@[simp] theorem frz_hdW {g : Nat} : (hdW wk g n).frz = hdO wk g n := rfl
/-- what a walker does when it is asked -/
theorem ask_ok (hw : In2 w wk st) (ht : t.length = 6) (g : Nat) (x : Wk) (hx : ∀ c ∈ x.all, c ∈ ABC) (hk : x.over = false → key = .str [g]) :
    den PG (k + 5) f.Walker_ask [.ref wk] (ww w wk st t n key x) = match (skip t g x).all with
      | [] => .exc 5 [] (ww w wk st t n key ⟨true, none, []⟩)
      | c :: l => .ok (.o (hdW wk (keyOf t c) (n + 1))) (ww w wk st t (n + 1) (.str [keyOf t c]) ⟨false, some c, l⟩) := by
  rw [run_Walker_ask]
  simp only [b_Walker_ask, evSs_cons, evS_whl]
  rw [skip_loop (m := x.all.length) hw ht g x (Nat.le_refl _) hx hk]
  have ho : (skip t g x).over = true := by unfold skip; cases h : x.over <;> simp [h, ofL]
  have hy : ∀ c ∈ (skip t g x).all, c ∈ ABC := fun c m => by
    unfold skip at m
    split at m
    · exact hx c m
    · rw [ofL_all] at m
      exact hx c ((List.dropWhile_sublist _).mem m)
  generalize skip t g x = y at ho hy
  obtain ⟨over, held, s⟩ := y
  cases ho
  have h2 := taken_ok (k := k + 1) (t := t) (n := n) (key := key) (over := true) (s := s) hw held
  rw [tk_all] at h2
  cases e : held.toList ++ s with
  | nil =>
    rw [e] at h2
    simp [Wk.all, e, ww, h2, W2_i hw]
    rfl
  | cons c l =>
    rw [e] at h2
    have hc : c ∈ ABC := hy c (by unfold Wk.all; rw [e]; simp)
    simp [Wk.all, e, ww, h2, W2_i hw, W2_si hw, key_of_ok, ht, hc, kAuF_wk (W2_i hw), auW_wk (W2_i hw), run_Handle__init__, b_Handle__init__, hdW]
end
end My

set_option Elab.async false
set_option linter.all false
set_option maxRecDepth 100000
/-! S6: a handle reads; walk, walk_late. -/
namespace My
section
variable {w : Wd} {wk st : Nat} {k : Nat} {t : List Nat} {n : Int} {key held : D} {over : Bool} {s : List Nat} {a : Own} {ρ : Env}
@[simp] theorem fld_hd1 {g : Nat} : fldOf w 13 1 (hdO wk g n) = some (.ref wk) := rfl
@[simp] theorem fld_hd2 {g : Nat} : fldOf w 13 2 (hdO wk g n) = some (.str [g]) := rfl
@[simp] theorem fld_hd3 {g : Nat} : fldOf w 13 3 (hdO wk g n) = some (.int n) := rfl
@[simp] theorem cls_hd {g : Nat} : isCls w 13 (hdO wk g n) = true := by simp [hdO]
@[simp] theorem deref_hd {g : Nat} : deref w (hdO wk g n) = hdO wk g n := rfl
@[simp] theorem isNon_hd {g : Nat} : isNon (hdO wk g n) = false := no_rfl rfl
/-- the group's rest -/
def rst (t : List Nat) (g : Nat) (l : List Nat) : List Nat := l.takeWhile fun c => decide (keyOf t c = g)
def rem (t : List Nat) (g : Nat) (l : List Nat) : List Nat := l.dropWhile fun c => decide (keyOf t c = g)
theorem rest_turn (hw : In2 w wk st) (ht : t.length = 6) (g c : Nat) (x : Wk) (hx : ∀ c ∈ x.all, c ∈ ABC) (found : List Nat) (hl : found.length + 1 ≤ lim) :
    evSs (PG.gx (den PG (k + 4))) w_Handle_rest_1 [.v (hdO wk g n), .v (.str found), .v (.str [c])] (ww w wk st t n key x) = .nx [.v (hdO wk g n), .v (.str (found ++ [c])), .v (oc (nxt t g x).1)] (ww w wk st t n key (nxt t g x).2) := by
  simp [w_Handle_rest_1, ww_i hw, next_of_ok hw ht g x hx, dOp_addS (a := found) (b := [c]) hl]
theorem rest_loop (hw : In2 w wk st) (ht : t.length = 6) (g : Nat) : ∀ (l : List Nat) (c : Nat) (found : List Nat), (∀ c ∈ l, c ∈ ABC) → found.length + 1 + l.length ≤ lim →
    wGo (PG.gx (den PG (k + 4))) t_Handle_rest_1 w_Handle_rest_1 [.v (hdO wk g n), .v (.str found), .v (.str [c])] (ww w wk st t n key ⟨false, none, l⟩) = .nx [.v (hdO wk g n), .v (.str (found ++ c :: rst t g l)), .v .non] (ww w wk st t n key (ofL (rem t g l))) := by
  have stop : ∀ (found : List Nat) (x : Wk), wGo (PG.gx (den PG (k + 4))) t_Handle_rest_1 w_Handle_rest_1 [.v (hdO wk g n), .v (.str found), .v .non] (ww w wk st t n key x) = .nx [.v (hdO wk g n), .v (.str found), .v .non] (ww w wk st t n key x) := fun found x =>
    wGo_stop (by simp [t_Handle_rest_1])
  intro l
  induction l with
  | nil =>
    intro c found hl hm
    rw [wGo_step (w1 := ww w wk st t n key ⟨false, none, []⟩) (by simp [t_Handle_rest_1]) (rest_turn hw ht g c _ (by simpa [Wk.all] using hl) found (by simp at hm; omega)), nxt_nil rfl rfl]
    rw [oc_none, stop]; rfl
  | cons d l ih =>
    intro c found hl hm
    rw [wGo_step (w1 := ww w wk st t n key ⟨false, none, d :: l⟩) (by simp [t_Handle_rest_1]) (rest_turn hw ht g c _ (by simpa [Wk.all] using hl) found (by simp at hm; omega))]
    by_cases hg : keyOf t d = g
    · rw [nxt_in (l := l) rfl rfl hg, oc_some, ih d _ (fun c m => hl c (List.mem_cons_of_mem _ m)) (by simp at hm ⊢; omega)]
      simp [rst, rem, hg]
    · rw [nxt_out (l := l) rfl rfl hg, oc_none, stop]
      simp [rst, rem, hg, ofL]
theorem rest_ok (hw : In2 w wk st) (ht : t.length = 6) (g : Nat) (x : Wk) (hx : ∀ c ∈ x.all, c ∈ ABC) (hl : x.all.length ≤ lim) :
    den PG (k + 5) f.Handle_rest [hdO wk g n] (ww w wk st t n key x) = if x.over then .ok (.v (.str [])) (ww w wk st t n key x) else .ok (.v (.str (rst t g x.all))) (ww w wk st t n key (ofL (rem t g x.all))) := by
  rw [run_Handle_rest]
  have stop : ∀ (found : List Nat) (x : Wk), wGo (PG.gx (den PG (k + 4))) t_Handle_rest_1 w_Handle_rest_1 [.v (hdO wk g n), .v (.str found), .v .non] (ww w wk st t n key x) = .nx [.v (hdO wk g n), .v (.str found), .v .non] (ww w wk st t n key x) := fun found x =>
    wGo_stop (by simp [t_Handle_rest_1])
  have hn := next_of_ok (k := k) (n := n) (key := key) hw ht g x hx
  cases ho : x.over with
  | true =>
    rw [nxt_over ho] at hn
    simp [b_Handle_rest, ww_i hw, hn, stop]
  | false =>
    cases e : x.all with
    | nil =>
      rw [nxt_nil ho e] at hn
      simp [b_Handle_rest, ww_i hw, hn, stop, rst, rem, ofL]
    | cons c l =>
      rw [e] at hx hl
      by_cases hg : keyOf t c = g
      · rw [nxt_in ho e hg] at hn
        simp only [List.length_cons] at hl
        simp [b_Handle_rest, ww_i hw, hn, rest_loop hw ht g l c [] (fun c m => hx c (List.mem_cons_of_mem _ m)) (by simp; omega), rst, rem, hg]
      · rw [nxt_out ho e hg] at hn
        simp [b_Handle_rest, ww_i hw, hn, stop, rst, rem, hg, ofL]
theorem rest_spent {m : Int} (hw : In2 w wk st) (g : Nat) (x : Wk) (hm : m ≠ n) :
    den PG (k + 2) f.Handle_rest [hdO wk g m] (ww w wk st t n key x) = .ok (.v (.str [])) (ww w wk st t n key x) := by
  rw [run_Handle_rest]
  simp [b_Handle_rest, ww_i hw, hm]
end
end My

set_option Elab.async false
set_option linter.all false
set_option maxRecDepth 100000
/-! S7: walk, walk_late. -/
namespace My
/-- groups of neighbours -/
def grp (t : List Nat) : List Nat → List (Nat × List Nat)
  | [] => []
  | c :: l => match grp t l with
    | [] => [(keyOf t c, [c])]
    | (g, xs) :: r => if keyOf t c = g then (g, c :: xs) :: r else (keyOf t c, [c]) :: (g, xs) :: r
theorem grp_cons (t : List Nat) : ∀ (l : List Nat) (c : Nat), grp t (c :: l) = (keyOf t c, c :: rst t (keyOf t c) l) :: grp t (rem t (keyOf t c) l)
  | [], c => rfl
  | d :: l, c => by
    have ih := grp_cons t l d
    by_cases h : keyOf t d = keyOf t c
    · rw [grp, ih]
      simp [rst, rem, h]
    · rw [grp, ih]
      have h' : ¬ keyOf t c = keyOf t d := fun e => h e.symm
      simp [rst, rem, h, h', ih]
def pr (p : Nat × List Nat) : D := .tup [.str [p.1], .str p.2]
theorem rem_le (t : List Nat) (g : Nat) (l : List Nat) : (rem t g l).length ≤ l.length := (List.dropWhile_sublist _).length_le
theorem rem_mem {t : List Nat} {g c : Nat} {l : List Nat} (h : c ∈ rem t g l) : c ∈ l := (List.dropWhile_sublist _).mem h
section
variable {w : Wd} {wk st : Nat} {k : Nat} {t : List Nat} {n : Int} {key held : D} {over : Bool} {s : List Nat} {a : Own} {ρ : Env}
theorem walk_loop (hw : In2 w wk st) (ht : t.length = 6) (a0 a1 : D) : ∀ (m : Nat) (x : Wk) (n : Int) (key : D) (found : List D) (h : Slot), x.over = true → x.all.length ≤ m → (∀ c ∈ x.all, c ∈ ABC) → found.length + x.all.length < lim →
    ∃ n' key' h' x', wGo (PG.gx (den PG (k + 6))) t_walk_1 w_walk_1 [.v a0, .v a1, .v (.ref wk), .o (.lst found), h] (ww w wk st t n key x) = .nx [.v a0, .v a1, .v (.ref wk), .o (.lst (found ++ (grp t x.all).map pr)), h'] (ww w wk st t n' key' x') := by
  intro m
  induction m with
  | zero =>
    intro x n key found h ho hl hx hf
    have e : x.all = [] := List.length_eq_zero_iff.mp (by omega)
    have ha := ask_ok (k := k + 1) (n := n) (key := key) hw ht 0 x hx (fun z => by rw [ho] at z; cases z)
    have hs : (skip t 0 x).all = [] := by unfold skip; rw [ho]; exact e
    rw [hs] at ha
    refine ⟨n, key, h, ⟨true, none, []⟩, ?_⟩
    rw [wGo_brk (w1 := ww w wk st t n key x) (by simp [t_walk_1]) (by simp [w_walk_1, ww_i hw, ha, gx_sub]; exact ⟨rfl, rfl⟩), e]
    simp [grp]
  | succ m ih =>
    intro x n key found h ho hl hx hf
    have ha := ask_ok (k := k + 1) (n := n) (key := key) hw ht 0 x hx (fun z => by rw [ho] at z; cases z)
    have hs : (skip t 0 x).all = x.all := by unfold skip; rw [ho]; rfl
    rw [hs] at ha
    cases e : x.all with
    | nil =>
      rw [e] at ha
      refine ⟨n, key, h, ⟨true, none, []⟩, ?_⟩
      rw [wGo_brk (w1 := ww w wk st t n key x) (by simp [t_walk_1]) (by simp [w_walk_1, ww_i hw, ha, gx_sub]; exact ⟨rfl, rfl⟩)]
      simp [grp]
    | cons c l =>
      rw [e] at ha hl hx hf
      have hr := rest_ok (k := k + 1) (n := n + 1) (key := .str [keyOf t c]) hw ht (keyOf t c) ⟨false, some c, l⟩ (by simpa [Wk.all] using hx) (by simp [Wk.all] at hf ⊢; omega)
      simp only [Wk.all, Option.toList_some, List.singleton_append] at hr
      have e1 : rst t (keyOf t c) (c :: l) = c :: rst t (keyOf t c) l := by simp [rst]
      have e2 : rem t (keyOf t c) (c :: l) = rem t (keyOf t c) l := by simp [rem]
      rw [e1, e2] at hr
      have hlen := rem_le t (keyOf t c) l
      obtain ⟨n', key', h', x', q⟩ := ih (ofL (rem t (keyOf t c) l)) (n + 1) (.str [keyOf t c]) (found ++ [pr (keyOf t c, c :: rst t (keyOf t c) l)]) (.v (hdO wk (keyOf t c) (n + 1))) rfl (by rw [ofL_all]; simp at hl; omega) (by rw [ofL_all]; exact fun d m => hx d (List.mem_cons_of_mem _ (rem_mem m))) (by rw [ofL_all]; simp at hf ⊢; omega)
      refine ⟨n', key', h', x', ?_⟩
      rw [wGo_step (w1 := ww w wk st t n key x) (by simp [t_walk_1]) (by
        simp [w_walk_1, ww_i hw, ha]
        rw [evS_app (ds := found) rfl (by simp at hf; omega)]
        simp [hr]
        exact ⟨rfl, rfl⟩)]
      refine q.trans ?_
      rw [ofL_all, grp_cons]
      simp [pr]
/-- two new objects -/
theorem W2_new (w : Wd) (a b a' b' : Own) : W2 (w ++ [b, a]) (w.length + 1) w.length a' b' = w ++ [b', a'] := by
  unfold W2
  rw [List.set_append_right _ _ (by omega), List.set_append_right _ _ (by omega)]
  rw [show w.length + 1 - w.length = 1 by omega, Nat.sub_self]
  rfl
theorem In2_new (w : Wd) (a b : Own) : In2 (w ++ [b, a]) (w.length + 1) w.length := ⟨by simp, by simp, by omega⟩
theorem walker_new {k : Nat} (w : Wd) (s t : List Nat) (hs : isOf ABC s = true) (hl : s.length ≤ lim) :
    ev (PG.gx (den PG (k + 5))) (.al (.mk 15 14 (.cons (.al (.mk 4 12 (.cons (.var 0) .nil))) (.cons (.var 1) .nil)))) (.v (.str s) :: .v (.str t) :: ρ) w = .ok (.v (.ref (w.length + 1))) (ww (w ++ [stO_ s, wkO w.length t 0 .non true .non]) (w.length + 1) w.length t 0 .non ⟨true, none, s⟩) := by
  have e : ww (w ++ [stO_ s, wkO w.length t 0 .non true .non]) (w.length + 1) w.length t 0 .non ⟨true, none, s⟩ = w ++ [stO_ s, wkO w.length t 0 .non true .non] := W2_new _ _ _ _ _
  rw [e]
  simp [run_Stream__init__, b_Stream__init__, run_Walker__init__, b_Walker__init__, check_items_str, hl, hs]
  exact ⟨rfl, rfl⟩
theorem stream_new {k : Nat} (w : Wd) (s : List Nat) (hs : isOf ABC s = true) (hl : s.length ≤ lim) : den PG (k + 5) f.Stream__init__ [.str s] w = .ok (.o (stO_ s)) w := by
  rw [run_Stream__init__]
  simp [b_Stream__init__, check_items_str, hl, hs, stO_]
theorem mem_of_isOf {s : List Nat} (h : isOf ABC s = true) : ∀ c ∈ s, c ∈ ABC := by
  unfold isOf at h
  simpa using h
theorem walk_ok (k : Nat) (w : Wd) (s t : List Nat) (hs : isOf ABC s = true) (ht : isTable t = true) (hl : s.length < lim) :
    ∃ e, den PG (k + 7) f.walk [.str s, .str t] w = .ok (.o (.lst ((grp t s).map pr))) (w ++ e) := by
  have ht6 : t.length = 6 := by unfold isTable at ht; simp at ht; exact ht.2
  have htl : t.length ≤ lim := by rw [ht6, lim_eq]; decide
  obtain ⟨n', key', h', x', q⟩ := walk_loop (k := k) (In2_new w (wkO w.length t 0 .non true .non) (stO_ s)) ht6 (.str s) (.str t) s.length ⟨true, none, s⟩ 0 .non [] .u rfl (Nat.le_refl _) (mem_of_isOf hs) (by simpa [Wk.all] using hl)
  refine ⟨[stO_ x'.s, wkO w.length t n' key' x'.over (oc x'.held)], ?_⟩
  rw [run_walk]
  have hn := walker_new (ρ := [.u, .u, .u]) (k := k + 1) w s t hs (Nat.le_of_lt hl)
  rw [List.nil_append] at q
  simp [b_walk, check_items_str, check_table_str, hs, ht, Nat.le_of_lt hl, htl, -ev_al, hn, q]
  exact ⟨rfl, W2_new _ _ _ _ _⟩
end
end My

set_option Elab.async false
set_option linter.all false
set_option maxRecDepth 100000
/-! S8: handles_of, walk_late. -/
namespace My
section
variable {w : Wd} {wk st : Nat} {k : Nat} {t : List Nat} {n : Int} {key held : D} {over : Bool} {s : List Nat} {a : Own} {ρ : Env}
/-- handles of groups, numbered -/
def hds (wk : Nat) (t : List Nat) : Int → List (Nat × List Nat) → List D
  | _, [] => []
  | n, p :: r => hdO wk p.1 (n + 1) :: hds wk t (n + 1) r
theorem handles_loop (hw : In2 w wk st) (ht : t.length = 6) (a0 a1 : D) : ∀ (m : Nat) (x : Wk) (n : Int) (g : Nat) (found : List D), (skip t g x).all.length ≤ m → (∀ c ∈ x.all, c ∈ ABC) → (x.over = false → key = .str [g]) → found.length + (skip t g x).all.length < lim →
    ∃ key', wGo (PG.gx (den PG (k + 6))) t_handles_of_1 w_handles_of_1 [.v a0, .v a1, .v (.ref wk), .o (.lst found)] (ww w wk st t n key x) =
      .nx [.v a0, .v a1, .v (.ref wk), .o (.lst (found ++ hds wk t n (grp t (skip t g x).all)))] (ww w wk st t (n + (grp t (skip t g x).all).length) key' ⟨true, none, []⟩) := by
  intro m
  induction m generalizing key with
  | zero =>
    intro x n g found hl hx hk hf
    have e : (skip t g x).all = [] := List.length_eq_zero_iff.mp (by omega)
    have ha := ask_ok (k := k + 1) (n := n) (key := key) hw ht g x hx hk
    rw [e] at ha
    refine ⟨key, ?_⟩
    rw [wGo_brk (w1 := ww w wk st t n key x) (by simp [t_handles_of_1]) (by
      simp [w_handles_of_1]
      rw [evS_app (ds := found) rfl (by rw [e] at hf; simpa using hf)]
      simp [ww_i hw, ha, gx_sub]; exact ⟨rfl, rfl⟩), e]
    simp [grp, hds]
  | succ m ih =>
    intro x n g found hl hx hk hf
    have ha := ask_ok (k := k + 1) (n := n) (key := key) hw ht g x hx hk
    have hm : ∀ c ∈ (skip t g x).all, c ∈ ABC := fun c m => by
      unfold skip at m
      split at m
      · exact hx c m
      · rw [ofL_all] at m
        exact hx c (rem_mem m)
    cases e : (skip t g x).all with
    | nil =>
      rw [e] at ha
      refine ⟨key, ?_⟩
      rw [wGo_brk (w1 := ww w wk st t n key x) (by simp [t_handles_of_1]) (by
        simp [w_handles_of_1]
        rw [evS_app (ds := found) rfl (by rw [e] at hf; simpa using hf)]
        simp [ww_i hw, ha, gx_sub]; exact ⟨rfl, rfl⟩)]
      simp [grp, hds]
    | cons c l =>
      rw [e] at ha hl hf hm
      have hlen := rem_le t (keyOf t c) l
      have e2 : (skip t (keyOf t c) ⟨false, some c, l⟩).all = rem t (keyOf t c) l := by
        unfold skip
        rw [if_neg (by simp), ofL_all]
        simp [Wk.all, rem]
      obtain ⟨key', q⟩ := ih (key := .str [keyOf t c]) ⟨false, some c, l⟩ (n + 1) (keyOf t c) (found ++ [hdO wk (keyOf t c) (n + 1)]) (by rw [e2]; simp at hl; omega) (by simpa [Wk.all] using hm) (fun _ => rfl) (by rw [e2]; simp at hf ⊢; omega)
      refine ⟨key', ?_⟩
      rw [wGo_step (w1 := ww w wk st t n key x) (by simp [t_handles_of_1]) (by
        simp [w_handles_of_1]
        rw [evS_app (ds := found) rfl (by simp at hf; omega)]
        simp [ww_i hw, ha]
        exact ⟨rfl, rfl⟩)]
      refine q.trans ?_
      rw [e2, grp_cons]
      simp [hds]
      congr 1
      omega
theorem handles_ok (k : Nat) (w : Wd) (s t : List Nat) (hs : isOf ABC s = true) (ht6 : t.length = 6) (hl : s.length < lim) :
    ∃ key' W, W = ww (w ++ [stO_ s, wkO w.length t 0 .non true .non]) (w.length + 1) w.length t (grp t s).length key' ⟨true, none, []⟩ ∧ den PG (k + 7) f.handles_of [.str s, .str t] w = .ok (.o (.lst (hds (w.length + 1) t 0 (grp t s)))) W := by
  have e : (skip t 0 ⟨true, none, s⟩).all = s := rfl
  obtain ⟨key', q⟩ := handles_loop (k := k) (key := .non) (In2_new w (wkO w.length t 0 .non true .non) (stO_ s)) ht6 (.str s) (.str t) s.length ⟨true, none, s⟩ 0 0 [] (by rw [e]; exact Nat.le_refl _) (mem_of_isOf hs) (fun z => by cases z) (by rw [e]; simpa using hl)
  refine ⟨key', _, rfl, ?_⟩
  rw [run_handles_of]
  have hn := walker_new (ρ := [.u, .u]) (k := k + 1) w s t hs (Nat.le_of_lt hl)
  rw [List.nil_append, e, Int.zero_add] at q
  simp [b_handles_of, -ev_al, hn, q]
theorem rests_ok (hw : In2 w wk st) (ht : t.length = 6) (ρ : Env) (hρ : ρ.length = 3) : ∀ (l : List (Nat × List Nat)) (m : Int), m + l.length ≤ n →
    ∃ ys, lcGo (lcB (PG.gx (den PG (k + 6))) (.nm 2) .no e_walk_late_1 ρ) (hds wk t m l) (ww w wk st t n key ⟨true, none, []⟩) = .ok ys (ww w wk st t n key ⟨true, none, []⟩) ∧ ys = l.map fun p => pr (p.1, [])
  | [], m, _ => ⟨_, rfl, rfl⟩
  | p :: r, m, h => by
    obtain ⟨ys, e1, e2⟩ := rests_ok hw ht ρ hρ r (m + 1) (by simp at h; omega)
    match ρ, hρ with
    | [s0, s1, s2], _ =>
    refine ⟨_, ?_, rfl⟩
    unfold hds
    have hr : den PG (k + 6) f.Handle_rest [hdO wk p.1 (m + 1)] (ww w wk st t n key ⟨true, none, []⟩) = .ok (.v (.str [])) (ww w wk st t n key ⟨true, none, []⟩) := by
      by_cases hm : m + 1 = n
      · rw [hm]
        exact rest_ok (k := k + 1) hw ht p.1 ⟨true, none, []⟩ (by simp [Wk.all]) (by simp [Wk.all])
      · exact rest_spent hw p.1 _ hm
    have h1 : lcB (PG.gx (den PG (k + 6))) (.nm 2) .no e_walk_late_1 [s0, s1, s2] (hdO wk p.1 (m + 1)) (ww w wk st t n key ⟨true, none, []⟩) = .ok (some (pr (p.1, []))) (ww w wk st t n key ⟨true, none, []⟩) := by
      simp [e_walk_late_1, hr, pr]
    rw [lcGo_cons, h1]
    simp [e1, e2]
theorem walk_late_ok (k : Nat) (w : Wd) (s t : List Nat) (hs : isOf ABC s = true) (ht : isTable t = true) (hl : s.length < lim) :
    ∃ e, den PG (k + 8) f.walk_late [.str s, .str t] w = .ok (.o (.lst ((grp t s).map fun p => pr (p.1, [])))) (w ++ e) := by
  have ht6 : t.length = 6 := by unfold isTable at ht; simp at ht; exact ht.2
  have htl : t.length ≤ lim := by rw [ht6, lim_eq]; decide
  obtain ⟨key', W, hW, q⟩ := handles_ok k w s t hs ht6 hl
  have hin := In2_new w (wkO w.length t 0 .non true .non) (stO_ s)
  obtain ⟨ys, e1, e2⟩ := rests_ok (k := k + 1) (n := (grp t s).length) (key := key') hin ht6 [.v (.str s), .v (.str t), .u] rfl (grp t s) 0 (by omega)
  refine ⟨[stO_ [], wkO w.length t (grp t s).length key' true .non], ?_⟩
  rw [run_walk_late]
  have hlen : ∀ (l : List (Nat × List Nat)) (m : Int), (hds (w.length + 1) t m l).length = l.length := fun l => by
    induction l with
    | nil => intro m; rfl
    | cons p r ih => intro m; simp [hds, ih]
  have hg : ∀ l : List Nat, (grp t l).length ≤ l.length := fun l => by
    induction l with
    | nil => exact Nat.le_refl _
    | cons c l ih =>
      rw [grp]
      split
      · simp
      · rename_i h
        rw [h] at ih
        split <;> simp at ih ⊢ <;> omega
  subst hW
  simp [b_walk_late, check_items_str, check_table_str, hs, ht, Nat.le_of_lt hl, htl, q]
  rw [kLc_of (by rw [hlen]; have := hg s; omega) e1, e2]
  simp
  exact W2_new _ _ _ _ _
end
end My

set_option Elab.async false
set_option linter.all false
set_option maxRecDepth 100000
/-! S9: the laws' own groups. -/
namespace My
def gadd (acc : List (Nat × List Nat)) (g : Nat) (xs : List Nat) : List (Nat × List Nat) := match acc.getLast? with
  | some p => if p.1 = g then acc.dropLast ++ [(g, p.2 ++ xs)] else acc ++ [(g, xs)]
  | none => [(g, xs)]
def gfold (t : List Nat) (acc : List (Nat × List Nat)) (l : List Nat) : List (Nat × List Nat) := l.foldl (fun a i => gadd a (keyOf t i) [i]) acc
theorem gadd_last (acc : List (Nat × List Nat)) (g h : Nat) (xs ys : List Nat) : gadd (acc ++ [(h, ys)]) g xs = if h = g then acc ++ [(g, ys ++ xs)] else acc ++ [(h, ys), (g, xs)] := by
  unfold gadd
  rw [List.getLast?_append]
  simp
theorem gfold_last (t : List Nat) : ∀ (l : List Nat) (acc : List (Nat × List Nat)) (g : Nat) (xs : List Nat), gfold t (acc ++ [(g, xs)]) l = acc ++ (g, xs ++ rst t g l) :: grp t (rem t g l)
  | [], acc, g, xs => by simp [gfold, rst, rem, grp]
  | c :: l, acc, g, xs => by
    unfold gfold
    rw [List.foldl_cons, gadd_last]
    by_cases h : g = keyOf t c
    · subst h
      rw [if_pos rfl]
      have := gfold_last t l acc (keyOf t c) (xs ++ [c])
      unfold gfold at this
      rw [this]
      simp [rst, rem]
    · rw [if_neg h]
      have := gfold_last t l (acc ++ [(g, xs)]) (keyOf t c) [c]
      unfold gfold at this
      rw [List.append_assoc] at this
      rw [show acc ++ [(g, xs), (keyOf t c, [c])] = acc ++ ([(g, xs)] ++ [(keyOf t c, [c])]) from rfl, this]
      have h' : ¬ keyOf t c = g := fun e => h e.symm
      have e1 : rst t g (c :: l) = [] := by simp [rst, h']
      have e2 : rem t g (c :: l) = c :: l := by simp [rem, h']
      rw [e1, e2, grp_cons]
      simp
theorem gfold_nil (t l : List Nat) : gfold t [] l = grp t l := by
  cases l with
  | nil => rfl
  | cons c l =>
    have := gfold_last t l [] (keyOf t c) [c]
    rw [List.nil_append] at this
    rw [grp_cons]
    exact this
/-- what a program keeps of an item: the turned one -/
def gkeep (t keeps turns drops : List Nat) (c : Nat) : Option Nat := if c ∈ keeps then (if keyOf t (keyOf turns c) ∈ drops then none else some (keyOf turns c)) else none
theorem idx_ABC {c : Nat} (h : c ∈ ABC) : ABC.idxOf c = c - 97 := by
  simp only [ABC, List.mem_cons, List.not_mem_nil, or_false] at h
  rcases h with rfl | rfl | rfl | rfl | rfl | rfl <;> rfl
theorem sub_ABC {c : Nat} (h : c ∈ ABC) : c - 97 < 6 := by
  simp only [ABC, List.mem_cons, List.not_mem_nil, or_false] at h
  omega
theorem nth_key {t : List Nat} {c : Nat} (ht : t.length = 6) (hc : c ∈ ABC) : nth t ((c - 97 : Nat) : Int) = some (keyOf t c) := by
  have h := sub_ABC hc
  rw [nth_nat rfl (by omega)]
  unfold keyOf
  rw [List.getD_eq_getElem?_getD, List.getElem?_eq_getElem (by omega)]
  rfl
theorem keyOf_mem {t : List Nat} {c : Nat} (ht : t.length = 6) (hc : c ∈ ABC) : keyOf t c ∈ t := by
  have h := sub_ABC hc
  exact getD_mem (by omega)
theorem setN_neg1 (xs : List D) (a v : D) : setN (xs ++ [a]) (-1) v = some (xs ++ [v]) := by
  unfold setN ixI
  rw [if_neg (by omega), if_pos (by simp; omega)]
  have e : (-1 + ((xs ++ [a]).length : Int)).toNat = xs.length := by simp; omega
  rw [e]
  simp
theorem stR_neg1 {xs : List D} {a v : D} {i : Nat} {ρ : Env} {w : Wd} : stR (.lst (xs ++ [a])) (.int (-1)) v i ρ w = .nx (ρ.set i (.o (.lst (xs ++ [v])))) w := stR_of (by rw [stO_lst, setN_neg1]; rfl)
def partsD (t keeps turns drops : List Nat) (r : D) : D := .lst [.str t, r, .str keeps, .str turns, .str drops]
section
variable {w : Wd} {k : Nat} {t keeps turns drops : List Nat} {r : D} {ρ : Env}
abbrev lgE (P a1 : Slot) (acc : List (Nat × List Nat)) (j3 j4 j5 : Slot) : Env := [P, a1, .o (.lst (acc.map pr)), j3, j4, j5]
theorem lg_out (G : Gx) {c : Nat} (hk : c ∉ keeps) (a1 : Slot) (acc : List (Nat × List Nat)) (j4 j5 : Slot) :
    evSs G l__law_groups_1 (lgE (.v (partsD t keeps turns drops r)) a1 acc (.v (.str [c])) j4 j5) w = .nx (lgE (.v (partsD t keeps turns drops r)) a1 acc (.v (.str [c])) j4 j5) w := by
  simp [l__law_groups_1, partsD, hk]
theorem lg_drop (G : Gx) {c : Nat} (ht : t.length = 6) (hu : turns.length = 6) (hc : c ∈ ABC) (hu2 : keyOf turns c ∈ ABC) (hk : c ∈ keeps) (hd : keyOf t (keyOf turns c) ∈ drops) (a1 : Slot) (acc : List (Nat × List Nat)) (j4 j5 : Slot) :
    evSs G l__law_groups_1 (lgE (.v (partsD t keeps turns drops r)) a1 acc (.v (.str [c])) j4 j5) w = .nx (lgE (.v (partsD t keeps turns drops r)) a1 acc (.v (.str [c])) (.v (.str [keyOf turns c])) (.v (.str [keyOf t (keyOf turns c)]))) w := by
  simp [l__law_groups_1, partsD, hk, dSm_index, hc, idx_ABC hc, nth_key, hu, hu2, ht, idx_ABC hu2, hd]
theorem lg_new (G : Gx) {c : Nat} (ht : t.length = 6) (hu : turns.length = 6) (hc : c ∈ ABC) (hu2 : keyOf turns c ∈ ABC) (hk : c ∈ keeps) (hd : keyOf t (keyOf turns c) ∉ drops) (a1 : Slot) (acc : List (Nat × List Nat)) (j4 j5 : Slot) (h1 : acc.length < lim) (h2 : (acc.map fun p => p.2.length).sum < lim) :
    evSs G l__law_groups_1 (lgE (.v (partsD t keeps turns drops r)) a1 acc (.v (.str [c])) j4 j5) w = .nx (lgE (.v (partsD t keeps turns drops r)) a1 (gadd acc (keyOf t (keyOf turns c)) [keyOf turns c]) (.v (.str [c])) (.v (.str [keyOf turns c])) (.v (.str [keyOf t (keyOf turns c)]))) w := by
  rcases List.eq_nil_or_concat acc with rfl | ⟨ac, p, rfl⟩
  · simp [l__law_groups_1, partsD, hk, dSm_index, hc, idx_ABC hc, nth_key, hu, hu2, ht, idx_ABC hu2, hd]
    rw [evS_app (ds := []) rfl (by decide)]
    simp [gadd, pr]
  · obtain ⟨g, xs⟩ := p
    rw [List.concat_eq_append] at h1 h2 ⊢
    rw [gadd_last]
    simp only [List.map_append, List.map_cons, List.map_nil, List.sum_append, List.sum_cons, List.sum_nil] at h2
    have hx : xs.length + [keyOf turns c].length ≤ lim := by simp; omega
    by_cases hg : g = keyOf t (keyOf turns c)
    · subst hg
      simp [l__law_groups_1, partsD, hk, dSm_index, hc, idx_ABC hc, nth_key, hu, hu2, ht, idx_ABC hu2, hd, nth_neg1, pr, dOp_addS hx, stR_neg1]
    · simp [l__law_groups_1, partsD, hk, dSm_index, hc, idx_ABC hc, nth_key, hu, hu2, ht, idx_ABC hu2, hd, nth_neg1, pr, hg]
      rw [evS_app (ds := (ac.map pr ++ [.tup [.str [g], .str xs]])) (by simp [pr]) (by simpa using h1)]
      simp [pr, hg]
theorem gadd_len (acc : List (Nat × List Nat)) (g : Nat) (xs : List Nat) : (gadd acc g xs).length ≤ acc.length + 1 := by
  rcases List.eq_nil_or_concat acc with rfl | ⟨ac, p, rfl⟩
  · simp [gadd]
  · rw [List.concat_eq_append, gadd_last]
    split <;> simp
theorem gadd_sum (acc : List (Nat × List Nat)) (g : Nat) (xs : List Nat) : ((gadd acc g xs).map fun p => p.2.length).sum = (acc.map fun p => p.2.length).sum + xs.length := by
  rcases List.eq_nil_or_concat acc with rfl | ⟨ac, p, rfl⟩
  · simp [gadd]
  · rw [List.concat_eq_append, gadd_last]
    split <;> simp <;> omega
theorem lg_loop (G : Gx) (ht : t.length = 6) (hu : turns.length = 6) (ha : ∀ c ∈ turns, c ∈ ABC) (a1 : Slot) : ∀ (l : List Nat) (acc : List (Nat × List Nat)) (j3 j4 j5 : Slot), (∀ c ∈ l, c ∈ ABC) → acc.length + l.length < lim → (acc.map fun p => p.2.length).sum + l.length < lim →
    ∃ j3' j4' j5', forGo (.nm 3) (evSs G l__law_groups_1) (l.map fun c => .str [c]) (lgE (.v (partsD t keeps turns drops r)) a1 acc j3 j4 j5) w =
      .nx (lgE (.v (partsD t keeps turns drops r)) a1 (gfold t acc (l.filterMap (gkeep t keeps turns drops))) j3' j4' j5') w
  | [], acc, j3, j4, j5, hl, h1, h2 => ⟨j3, j4, j5, rfl⟩
  | c :: l, acc, j3, j4, j5, hl, h1, h2 => by
    have hc : c ∈ ABC := hl c List.mem_cons_self
    have hl' : ∀ c ∈ l, c ∈ ABC := fun c m => hl c (List.mem_cons_of_mem _ m)
    have hu2 : keyOf turns c ∈ ABC := ha _ (keyOf_mem hu hc)
    rw [List.map_cons]
    simp only [List.length_cons] at h1 h2
    by_cases hk : c ∈ keeps
    · by_cases hd : keyOf t (keyOf turns c) ∈ drops
      · obtain ⟨j3', j4', j5', q⟩ := lg_loop G ht hu ha a1 l acc (.v (.str [c])) (.v (.str [keyOf turns c])) (.v (.str [keyOf t (keyOf turns c)])) hl' (by omega) (by omega)
        refine ⟨j3', j4', j5', ?_⟩
        rw [forGo_step (ρ1 := lgE _ a1 acc _ j4 j5) rfl (lg_drop G ht hu hc hu2 hk hd a1 acc j4 j5), q]
        simp [gkeep, hk, hd]
      · have g1 := gadd_len acc (keyOf t (keyOf turns c)) [keyOf turns c]
        have g2 := gadd_sum acc (keyOf t (keyOf turns c)) [keyOf turns c]
        simp only [List.length_singleton] at g2
        obtain ⟨j3', j4', j5', q⟩ := lg_loop G ht hu ha a1 l (gadd acc (keyOf t (keyOf turns c)) [keyOf turns c]) (.v (.str [c])) (.v (.str [keyOf turns c])) (.v (.str [keyOf t (keyOf turns c)])) hl' (by omega) (by omega)
        refine ⟨j3', j4', j5', ?_⟩
        rw [forGo_step (ρ1 := lgE _ a1 acc _ j4 j5) rfl (lg_new G ht hu hc hu2 hk hd a1 acc j4 j5 (by omega) (by omega)), q]
        simp [gkeep, hk, hd, gfold]
    · obtain ⟨j3', j4', j5', q⟩ := lg_loop G ht hu ha a1 l acc (.v (.str [c])) j4 j5 hl' (by omega) (by omega)
      refine ⟨j3', j4', j5', ?_⟩
      rw [forGo_step (ρ1 := lgE _ a1 acc _ j4 j5) rfl (lg_out G hk a1 acc j4 j5), q]
      simp [gkeep, hk]
/-- the groups of a program -/
def gs (t keeps turns drops s : List Nat) : List (Nat × List Nat) := grp t (s.filterMap (gkeep t keeps turns drops))
theorem law_groups_ok (ht : t.length = 6) (hu : turns.length = 6) (ha : ∀ c ∈ turns, c ∈ ABC) (s : List Nat) (hs : ∀ c ∈ s, c ∈ ABC) (hl : s.length < lim) :
    den PG (k + 2) f._law_groups [partsD t keeps turns drops r, .str s] w = .ok (.o (.lst ((gs t keeps turns drops s).map pr))) w := by
  rw [run__law_groups]
  obtain ⟨j3', j4', j5', q⟩ := lg_loop (w := w) (keeps := keeps) (drops := drops) (r := r) (PG.gx (den PG (k + 1))) ht hu ha (.v (.str s)) s [] .u .u .u hs (by simpa using hl) (by simpa using hl)
  simp only [lgE, List.map_nil] at q
  simp [b__law_groups, q, gfold_nil, gs]
end
end My

set_option Elab.async false
set_option linter.all false
set_option maxRecDepth 100000
/-! S10: values alike. -/
namespace My
section
variable {w : Wd}
inductive LikeOk : Nat → D → Prop
  | non (n : Nat) : LikeOk n .non
  | bl (n : Nat) (b : Bool) : LikeOk n (.bl b)
  | int (n : Nat) (b : Int) : LikeOk n (.int b)
  | str (n : Nat) (b : List Nat) : LikeOk n (.str b)
  | tup (n : Nat) (ds : List D) : (∀ x ∈ ds, LikeOk n x) → ds.length ≤ lim → LikeOk (n + 1) (.tup ds)
  | lst (n : Nat) (ds : List D) : (∀ x ∈ ds, LikeOk n x) → ds.length ≤ lim → LikeOk (n + 1) (.lst ds)
theorem like_loop (k : Nat) (d : D) (ds : List D) (hd : ∀ i, dIdx d (.int i) = nth ds i) (hw : deref w d = d) (h : ∀ x ∈ ds, den PG k f._law_like [x, x] w = .ok (.v (.bl true)) w) : ∀ (l : List Nat) (j : Slot), (∀ i ∈ l, i < ds.length) →
    ∃ j', forGo (.nm 2) (evSs (PG.gx (den PG k)) l__law_like_1) (l.map fun (i : Nat) => .int i) [.v d, .v d, j] w = .nx [.v d, .v d, j'] w
  | [], j, _ => ⟨j, rfl⟩
  | i :: l, j, hl => by
    have hi := hl i List.mem_cons_self
    obtain ⟨j', q⟩ := like_loop k d ds hd hw h l (.v (.int i)) fun x m => hl x (List.mem_cons_of_mem _ m)
    refine ⟨j', ?_⟩
    have hn : nth ds (i : Int) = some ds[i] := nth_nat rfl hi
    have hc := h ds[i] (List.getElem_mem hi)
    have ht : evSs (PG.gx (den PG k)) l__law_like_1 [.v d, .v d, .v (.int i)] w = .nx [.v d, .v d, .v (.int i)] w := by
      simp [l__law_like_1, hd, hw, hn, hc]
    rw [List.map_cons, forGo_step (ρ1 := [.v d, .v d, .v (.int i)]) rfl ht, q]
theorem like_seq (k : Nat) (d : D) (ds : List D) (hd : d = .tup ds ∨ d = .lst ds) (hl : ds.length ≤ lim) (h : ∀ x ∈ ds, den PG (k + 1) f._law_like [x, x] w = .ok (.v (.bl true)) w) : den PG (k + 2) f._law_like [d, d] w = .ok (.v (.bl true)) w := by
  rw [run__law_like]
  have hb : ((ds.length : Nat) : Int) < 2 ^ 62 := by rw [lim_eq] at hl; omega
  have hr : kR1 (.int ((ds.length : Nat) : Int)) w = .ok ((List.range ds.length).map fun (i : Nat) => .int i) w := by
    rw [kR1_of (by omega) hb, rngD_eq rfl]
  rcases hd with rfl | rfl
  · obtain ⟨j', q⟩ := like_loop (w := w) (k + 1) (.tup ds) ds (fun i => rfl) rfl h (List.range ds.length) .u (by simp)
    simp [b__law_like, isTy, hr, q]
  · obtain ⟨j', q⟩ := like_loop (w := w) (k + 1) (.lst ds) ds (fun i => rfl) rfl h (List.range ds.length) .u (by simp)
    simp [b__law_like, isTy, hr, q]
theorem like_refl : ∀ (n k : Nat) (d : D), LikeOk n d → den PG (k + n + 2) f._law_like [d, d] w = .ok (.v (.bl true)) w := by
  intro n k d h
  induction h generalizing k with
  | non n => rw [run__law_like]; simp [b__law_like]
  | bl n b => rw [run__law_like]; simp [b__law_like, isTy]
  | int n b => rw [run__law_like]; simp [b__law_like, isTy]
  | str n b => rw [run__law_like]; simp [b__law_like, isTy]
  | tup n ds h1 h2 ih => exact like_seq (k + (n + 1)) _ ds (.inl rfl) h2 fun x m => by rw [show k + (n + 1) + 1 = k + n + 2 by omega]; exact ih x m k
  | lst n ds h1 h2 ih => exact like_seq (k + (n + 1)) _ ds (.inr rfl) h2 fun x m => by rw [show k + (n + 1) + 1 = k + n + 2 by omega]; exact ih x m k
end
end My

set_option Elab.async false
set_option linter.all false
set_option maxRecDepth 100000
/-! S11: refusals; k14's own defs. -/
namespace My
section
variable {w : Wd} {k : Nat} {st : Nat} {s : List Nat}
def BadIt (x : D) : Prop := notStr x = true ∨ ∃ s, x = .str s ∧ s.length ≤ lim ∧ isOf ABC s = false
def BadTb (x : D) : Prop := notStr x = true ∨ ∃ s, x = .str s ∧ s.length ≤ lim ∧ isTable s = false
theorem check_items_bad (k : Nat) {x : D} (w : Wd) (h : BadIt x) : den PG (k + 3) f.check_items [x] w = .exc 4 [] w := by
  rcases h with h | ⟨s, rfl, h1, h2⟩
  · exact check_items_not k w h
  · rw [check_items_str k s w h1, h2]; rfl
theorem check_table_bad (k : Nat) {x : D} (w : Wd) (h : BadTb x) : den PG (k + 4) f.check_table [x] w = .exc 2 [] w := by
  rcases h with h | ⟨s, rfl, h1, h2⟩
  · exact check_table_not k w h
  · rw [check_table_str k s w h1, h2]; rfl
theorem walk_badI {x y : D} (h : BadIt x) : den PG (k + 4) f.walk [x, y] w = .exc 4 [] w := by
  rw [run_walk]; simp [b_walk, check_items_bad, h]
theorem walk_late_badI {x y : D} (h : BadIt x) : den PG (k + 4) f.walk_late [x, y] w = .exc 4 [] w := by
  rw [run_walk_late]; simp [b_walk_late, check_items_bad, h]
theorem walk_badT {y : D} (hs : isOf ABC s = true) (hl : s.length ≤ lim) (h : BadTb y) : den PG (k + 5) f.walk [.str s, y] w = .exc 2 [] w := by
  rw [run_walk]; simp [b_walk, check_items_str, hs, hl, check_table_bad, h]
theorem walk_late_badT {y : D} (hs : isOf ABC s = true) (hl : s.length ≤ lim) (h : BadTb y) : den PG (k + 5) f.walk_late [.str s, y] w = .exc 2 [] w := by
  rw [run_walk_late]; simp [b_walk_late, check_items_str, hs, hl, check_table_bad, h]
theorem stream_bad {x : D} (h : BadIt x) : den PG (k + 5) f.Stream__init__ [x] w = .exc 4 [] w := by
  rw [run_Stream__init__]; simp [b_Stream__init__, check_items_bad, h]
theorem told_items {x y : D} (h : BadIt x) (i : Int) : den PG (k + 7) f._law_told_k14 [x, y, .int i] w = .ok (.v (.str [105, 116, 101, 109, 115])) w := by
  rw [run__law_told_k14]
  by_cases h0 : i = 0
  · subst h0; simp [b__law_told_k14, walk_badI h, gx_sub]
  · by_cases h1 : i = 1
    · subst h1; simp [b__law_told_k14, walk_late_badI h, gx_sub]
    · simp [b__law_told_k14, stream_bad h, gx_sub, h0, h1]
theorem told_table {y : D} (hs : isOf ABC s = true) (hl : s.length ≤ lim) (h : BadTb y) (i : Int) (hi : i = 0 ∨ i = 1) : den PG (k + 7) f._law_told_k14 [.str s, y, .int i] w = .ok (.v (.str [116, 97, 98, 108, 101])) w := by
  rw [run__law_told_k14]
  rcases hi with rfl | rfl
  · simp [b__law_told_k14, walk_badT hs hl h, gx_sub]
  · simp [b__law_told_k14, walk_late_badT hs hl h, gx_sub]
theorem taken14 {c : Nat} (h : w[st]? = some (stO_ (c :: s))) : den PG (k + 3) f._law_taken_k14 [.ref st] w = .ok (.v (.str [c])) (w.set st (stO_ s)) := by
  rw [run__law_taken_k14]
  simp [b__law_taken_k14, stream_take h, h]
theorem taken14_0 (h : w[st]? = some (stO_ [])) : den PG (k + 3) f._law_taken_k14 [.ref st] w = .ok (.v (.str [101, 109, 112, 116, 121])) w := by
  rw [run__law_taken_k14]
  simp [b__law_taken_k14, stream_take0 h, h, gx_sub]
end
end My

set_option Elab.async false
set_option linter.all false
set_option maxRecDepth 100000
/-! S12: the start of a law; a text of draws. -/
namespace My
theorem law_begin_ok (k : Nat) (l : List D) (w : Wd) : den PG (k + 2) f._law_begin [.kl l] w = .ok (.o (.lst [.lst l, .int 0, .int 0, .int 7])) w := by
  rw [run__law_begin]; simp [b__law_begin]
  rfl
theorem dr_begin (ns : List Int) : Dr (.lst [.lst (ns.map D.int), .int 0, .int 0, .int 7]) := ⟨ns, 0, 0, 7, rfl, by decide⟩
theorem gkeep_id (t : List Nat) : ∀ (s : List Nat), (∀ c ∈ s, c ∈ ABC) → s.filterMap (gkeep t ABC ABC []) = s
  | [], _ => rfl
  | c :: s, h => by
    have hc := h c List.mem_cons_self
    have e : keyOf ABC c = c := by
      simp only [ABC, List.mem_cons, List.not_mem_nil, or_false] at hc
      rcases hc with rfl | rfl | rfl | rfl | rfl | rfl <;> rfl
    rw [List.filterMap_cons]
    simp only [gkeep, hc, if_true, e, List.not_mem_nil, if_false]
    rw [gkeep_id t s fun c m => h c (List.mem_cons_of_mem _ m)]
theorem like_pr (l : List (Nat × List Nat)) (h : l.length ≤ lim) : LikeOk 2 (.lst (l.map pr)) := .lst 1 _ (fun x m => by
  obtain ⟨p, _, rfl⟩ := List.mem_map.mp m
  exact .tup 0 _ (fun y m => by simp at m; rcases m with rfl | rfl <;> exact .str _ _) (by rw [lim_eq]; simp)) (by simpa using h)
theorem grp_le (t l : List Nat) : (grp t l).length ≤ l.length := by
  induction l with
  | nil => exact Nat.le_refl _
  | cons c l ih =>
    rw [grp]
    split
    · simp
    · rename_i h
      rw [h] at ih
      split <;> simp at ih ⊢ <;> omega
/-- a text of draws: the comprehension of the laws -/
theorem text_draw {k : Nat} {e : E} {i : Nat} {ρ : Env} {ws : Wd} {cs : List Nat} (m : Int) (hm : m = cs.length) (h0 : 0 < m) (hm2 : m < 1000)
    (he : ∀ (x : Nat) (d d1 : Own) (r : Nat), den PG (k + 2) f._law_draw [.ref 0, .int m] (d :: ws) = .ok (.v (.int r)) (d1 :: ws) → ∀ h : r < cs.length, lcB (PG.gx (den PG (k + 2))) (.nm i) .no e ρ (.int x) (d :: ws) = .ok (some (.str [cs[r]])) (d1 :: ws))
    {d : Own} (hd : Dr d) (n : Nat) (hn : n ≤ lim) :
    ∃ (s : List Nat) (d' : Own), kLc (PG.gx (den PG (k + 2))) (.nm i) .no e ρ (rngD 0 n) (d :: ws) = .ok (.o (.lst (s.map fun c => .str [c]))) (d' :: ws) ∧ Dr d' ∧ s.length = n ∧ ∀ c ∈ s, c ∈ cs := by
  obtain ⟨zs, d2, e2, hd2, hl, hz⟩ := lcGo_draw (f := lcB (PG.gx (den PG (k + 2))) (.nm i) .no e ρ)
    (i := fun (i : Nat) => .int i) (g := fun (c : Nat) => .str [c]) (Q := fun c => c ∈ cs) (ws := ws) (xs := List.range n) hd fun x _ d hd => by
      obtain ⟨r, d1, e1, h1, hd1⟩ := draw_ok k ws hd m h0 hm2
      have hr : r < cs.length := by omega
      exact ⟨cs[r], d1, he x d d1 r e1 hr, hd1, List.getElem_mem hr⟩
  refine ⟨zs, d2, ?_, hd2, by simpa using hl, hz⟩
  rw [rngD_eq (j := n) (n := n) rfl, kLc_of (by simpa using hn) e2]
theorem kR1_nat {w : Wd} (n : Nat) (h : n ≤ lim) : kR1 (.int n) w = .ok (rngD 0 n) w := kR1_of (by omega) (by rw [lim_eq] at h; omega)
end My

set_option Elab.async false
set_option linter.all false
set_option maxRecDepth 100000
/-! S13: sort_items; sorting by keys. -/
namespace My
/-- a sublist of 0..3 picks out in this order -/
def sortIt (t s : List Nat) : List Nat := K03.flatMap fun k => s.filter fun c => decide (keyOf t c = k)
section
variable {w : Wd} {k : Nat} {t s : List Nat}
theorem si_turn (ht : t.length = 6) (hs : ∀ c ∈ s, c ∈ ABC) (key : Nat) (found : List Nat) (hl : found.length + s.length ≤ lim) (j4 : Slot) :
    evSs (PG.gx (den PG (k + 2))) l_sort_items_1 [.v (.str s), .v (.str t), .v (.str found), .v (.str [key]), j4] w = .nx [.v (.str s), .v (.str t), .v (.str (found ++ s.filter fun c => decide (keyOf t c = key))), .v (.str [key]), j4] w := by
  have h : kLc (PG.gx (den PG (k + 2))) (.nm 4) c_sort_items_1 e_sort_items_1 [.v (.str s), .v (.str t), .v (.str found), .v (.str [key]), j4] (s.map fun c => .str [c]) w = .ok (.o (.lst ((s.filter fun c => decide (keyOf t c = key)).map fun c => .str [c]))) w := by
    refine kLc_pure (by omega) fun c hc => ?_
    have := hs c hc
    by_cases h : keyOf t c = key
    · simp [c_sort_items_1, e_sort_items_1, key_of_ok, ht, this, h]
    · simp [c_sort_items_1, e_sort_items_1, key_of_ok, ht, this, h]
  have hf := List.length_filter_le (fun c => decide (keyOf t c = key)) s
  simp [l_sort_items_1, h, dSm_joinC (fun c => c) (s.filter fun c => decide (keyOf t c = key)) (by omega), dOp_addS (a := found) (b := s.filter fun c => decide (keyOf t c = key)) (by omega)]
theorem si_loop (ht : t.length = 6) (hs : ∀ c ∈ s, c ∈ ABC) : ∀ (ks : List Nat) (found : List Nat) (j3 j4 : Slot), found.length + ks.length * s.length ≤ lim →
    ∃ j3' j4', forGo (.nm 3) (evSs (PG.gx (den PG (k + 2))) l_sort_items_1) (ks.map fun c => .str [c]) [.v (.str s), .v (.str t), .v (.str found), j3, j4] w = .nx [.v (.str s), .v (.str t), .v (.str (found ++ ks.flatMap fun key => s.filter fun c => decide (keyOf t c = key))), j3', j4'] w
  | [], found, j3, j4, h => ⟨j3, j4, by simp⟩
  | key :: ks, found, j3, j4, h => by
    rw [List.length_cons, Nat.succ_mul] at h
    have hf := List.length_filter_le (fun c => decide (keyOf t c = key)) s
    obtain ⟨j3', j4', q⟩ := si_loop ht hs ks (found ++ s.filter fun c => decide (keyOf t c = key)) (.v (.str [key])) j4 (by rw [List.length_append]; omega)
    refine ⟨j3', j4', ?_⟩
    rw [List.map_cons, forGo_step (ρ1 := [.v (.str s), .v (.str t), .v (.str found), .v (.str [key]), j4]) rfl (si_turn ht hs key found (by omega) j4), q]
    simp
theorem sort_items_ok (hs : isOf ABC s = true) (ht : isTable t = true) (hl : s.length ≤ 1000) : den PG (k + 5) f.sort_items [.str s, .str t] w = .ok (.v (.str (sortIt t s))) w := by
  have ht6 : t.length = 6 := by unfold isTable at ht; simp at ht; exact ht.2
  have htl : t.length ≤ lim := by rw [ht6, lim_eq]; decide
  have hsl : s.length ≤ lim := by rw [lim_eq]; omega
  obtain ⟨j3, j4, q⟩ := si_loop (w := w) (k := k + 2) ht6 (mem_of_isOf hs) K03 [] .u .u (by show 0 + 4 * s.length ≤ lim; rw [lim_eq]; omega)
  rw [run_sort_items]
  simp [b_sort_items, check_items_str, check_table_str, hs, ht, hsl, htl, q, sortIt]
theorem sort_items_badI {x y : D} (h : BadIt x) : den PG (k + 4) f.sort_items [x, y] w = .exc 4 [] w := by
  rw [run_sort_items]; simp [b_sort_items, check_items_bad, h]
theorem sort_items_badT {y : D} (hs : isOf ABC s = true) (hl : s.length ≤ lim) (h : BadTb y) : den PG (k + 5) f.sort_items [.str s, y] w = .exc 2 [] w := by
  rw [run_sort_items]; simp [b_sort_items, check_items_str, hs, hl, check_table_bad, h]
end
/-! plain: rows (key, place), sorted -/
theorem flat_perm {α : Type} (f : α → Nat) : ∀ (ks : List Nat) (l : List α), ks.Nodup → (∀ x ∈ l, f x ∈ ks) → (ks.flatMap fun k => l.filter fun x => decide (f x = k)).Perm l
  | [], l, _, h => by
    cases l with
    | nil => exact .refl _
    | cons x l => exact absurd (h x List.mem_cons_self) (by simp)
  | k :: ks, l, hn, h => by
    rw [List.nodup_cons] at hn
    rw [List.flatMap_cons]
    have e : (ks.flatMap fun k' => l.filter fun x => decide (f x = k')) = ks.flatMap fun k' => (l.filter fun x => !decide (f x = k)).filter fun x => decide (f x = k') := by
      refine congrArg List.flatten (List.map_congr_left fun k' hk' => ?_)
      rw [List.filter_filter]
      refine List.filter_congr fun x _ => ?_
      by_cases hx : f x = k'
      · have : ¬ k' = k := fun z => hn.1 (z ▸ hk')
        simp [hx, this]
      · simp [hx]
    rw [e]
    refine (List.Perm.append_left _ (flat_perm f ks _ hn.2 fun x hx => ?_)).trans (List.filter_append_perm (fun x => decide (f x = k)) l)
    rw [List.mem_filter] at hx
    have := h x hx.1
    simp only [Bool.not_eq_true', decide_eq_false_iff_not] at hx
    exact (List.mem_cons.mp this).resolve_left hx.2
def rowD (p : Nat × Nat) : D := .tup [.str [p.1], .int p.2]
def leP (a b : Nat × Nat) : Bool := decide (a.1 < b.1 ∨ a.1 = b.1 ∧ a.2 ≤ b.2)
theorem ltL_1 (a b : Nat) : ltL [a] [b] = decide (a < b) := by
  show (if a = b then ltL [] [] else decide (a < b)) = _
  by_cases h : a = b
  · rw [if_pos h]
    show false = _
    simp; omega
  · rw [if_neg h]
theorem leP_D (a b : Nat × Nat) : leP a b = leS (rowD a) (rowD b) := by
  show _ = (!(ltL [b.1] [a.1] || ([a.1] == [b.1] && decide ((b.2 : Int) < a.2))))
  unfold leP
  rw [ltL_1, Bool.eq_iff_iff]
  simp only [decide_eq_true_eq, Bool.not_eq_true', Bool.or_eq_false_iff, decide_eq_false_iff_not, Bool.and_eq_false_iff, beq_eq_false_iff_ne, ne_eq, List.cons.injEq, and_true]
  omega
theorem rows_sorted {ks : List Nat} (hk : ks.Pairwise (· < ·)) {l : List (Nat × Nat)} (hl : l.Pairwise fun a b => a.2 < b.2) (hm : ∀ x ∈ l, x.1 ∈ ks) : (l.map rowD).mergeSort leS = (ks.flatMap fun k => l.filter fun x => decide (x.1 = k)).map rowD := by
  rw [← List.map_mergeSort (fun a _ b _ => leP_D a b)]
  congr 1
  have hn : ks.Nodup := hk.imp fun h => by omega
  refine List.Perm.eq_of_pairwise (le := fun a b => leP a b = true) (fun a b _ _ h1 h2 => ?_) ?_ ?_ ((List.mergeSort_perm l _).trans (flat_perm (·.1) ks l hn hm).symm)
  · unfold leP at h1 h2
    simp only [decide_eq_true_eq] at h1 h2
    exact Prod.ext (by omega) (by omega)
  · exact List.pairwise_mergeSort (fun a b c h1 h2 => by unfold leP at *; simp only [decide_eq_true_eq] at *; omega) (fun a b => by unfold leP; simp only [Bool.or_eq_true, decide_eq_true_eq]; omega) l
  · rw [List.pairwise_flatMap]
    refine ⟨fun k _ => ?_, hk.imp fun {a b} hab x hx y hy => ?_⟩
    · refine ((hl.filter _).imp_of_mem fun {a b} ha hb h => ?_)
      rw [List.mem_filter] at ha hb
      simp only [decide_eq_true_eq] at ha hb
      unfold leP
      simp only [decide_eq_true_eq]
      omega
    · rw [List.mem_filter] at hx hy
      simp only [decide_eq_true_eq] at hx hy
      unfold leP
      simp only [decide_eq_true_eq]
      omega
end My

set_option Elab.async false
set_option linter.all false
set_option maxRecDepth 100000
/-! S14: the laws' own walker. -/
namespace My
def hs : Option Nat → D
  | none => .str []
  | some c => .str [c]
@[simp] theorem hs_none : hs none = .str [] := no_rfl rfl
@[simp] theorem hs_some (c : Nat) : hs (some c) = .str [c] := no_rfl rfl
@[simp] theorem deref_hs {w : Wd} (o : Option Nat) : deref w (hs o) = hs o := by cases o <;> rfl
def srO (s : List Nat) : Own := .lst (s.map fun c => .str [c])
def loO (t : List Nat) (held : D) (n : Int) (over : Bool) (key : D) : Own := .dct [(.str [116, 97, 98, 108, 101], .str t), (.str [104, 101, 108, 100], held), (.str [110, 117, 109, 98, 101, 114], .int n), (.str [111, 118, 101, 114], .bl over), (.str [107, 101, 121], key)]
section
variable {w : Wd} {sd sr : Nat} {k : Nat} {t : List Nat} {n : Int} {key held : D} {over : Bool} {s : List Nat} {a : Own} {ρ : Env}
def loD (t : List Nat) (held : D) (n : Int) (over : Bool) (key : D) : D := .dct [(.str [116, 97, 98, 108, 101], .str t), (.str [104, 101, 108, 100], held), (.str [110, 117, 109, 98, 101, 114], .int n), (.str [111, 118, 101, 114], .bl over), (.str [107, 101, 121], key)]
def srD (s : List Nat) : D := .lst (s.map fun c => .str [c])
@[simp] theorem drf_lo {x : Nat} : drf (some (loO t held n over key)) x = loD t held n over key := no_rfl rfl
@[simp] theorem drf_sr {x : Nat} : drf (some (srO s)) x = srD s := no_rfl rfl
@[simp] theorem lo_table : dIdx (loD t held n over key) (.str [116, 97, 98, 108, 101]) = some (.str t) := no_rfl rfl
@[simp] theorem lo_held : dIdx (loD t held n over key) (.str [104, 101, 108, 100]) = some held := no_rfl rfl
@[simp] theorem lo_number : dIdx (loD t held n over key) (.str [110, 117, 109, 98, 101, 114]) = some (.int n) := no_rfl rfl
@[simp] theorem lo_over : dIdx (loD t held n over key) (.str [111, 118, 101, 114]) = some (.bl over) := no_rfl rfl
@[simp] theorem lo_key : dIdx (loD t held n over key) (.str [107, 101, 121]) = some key := no_rfl rfl
@[simp] theorem st_held {v : D} : stO (loO t held n over key) (.str [104, 101, 108, 100]) v = some (loO t v n over key) := no_rfl rfl
@[simp] theorem st_number {v : Int} : stO (loO t held n over key) (.str [110, 117, 109, 98, 101, 114]) (.int v) = some (loO t held v over key) := no_rfl rfl
@[simp] theorem st_over {v : Bool} : stO (loO t held n over key) (.str [111, 118, 101, 114]) (.bl v) = some (loO t held n v key) := no_rfl rfl
@[simp] theorem st_key {v : D} : stO (loO t held n over key) (.str [107, 101, 121]) v = some (loO t held n over v) := no_rfl rfl
@[simp] theorem len_sr : dBi .len [srD s] = some (.v (.int s.length)) := no_rfl (by show some (Rv.v (.int (s.map _).length)) = _; rw [List.length_map])
def lw (w : Wd) (sd sr : Nat) (t : List Nat) (n : Int) (key : D) (x : Wk) : Wd := W2 w sd sr (loO t (hs x.held) n x.over key) (srO x.s)
theorem lw_i {x : Wk} (hw : In2 w sd sr) : (lw w sd sr t n key x)[sd]? = some (loO t (hs x.held) n x.over key) := W2_i hw
theorem lw_j {x : Wk} (hw : In2 w sd sr) : (lw w sd sr t n key x)[sr]? = some (srO x.s) := W2_j hw
theorem law_new_ok : den PG (k + 2) f._law_new_k15 [.str t] w = .ok (.o (loO t (.str []) 0 true (.str []))) w := by
  rw [run__law_new_k15]
  simp [b__law_new_k15, stR, stO, keyOk, putD, lim, D.eqv]
  rfl
@[simp] theorem kPop2_eq {n : Nat} {c : Nat} {s : List Nat} (h : w[n]? = some (srO (c :: s))) : popAt n (.int 0) w = .ok (.v (.str [c])) (w.set n (srO s)) := by
  unfold popAt
  rw [h]
  rfl
def kPop (n : Nat) (k : D) (w : Wd) : R Rv := popAt n k w
def kPopR (G : Gx) (e : E) (ρ : Env) (x : D) (w : Wd) : R Rv := match x with
  | .ref n => if isLst w n then (ev G e ρ w).dv.bd (kPop n) else .bad
  | _ => .bad
theorem ev_popR0 {G : Gx} (a e : E) : ev G (.popR0 a e) ρ w = (ev G a ρ w).dv.bd (kPopR G e ρ) := by
  refine (bd_app _ _).trans ?_
  rw [val_app]
  refine congrArg (R.bd _) ?_
  funext x w1
  unfold kPopR
  cases x <;> try rfl
  dsimp only
  split
  · refine (bd_app _ _).trans ?_
    rw [val_app]
    rfl
  · rfl
theorem kPopR_of {G : Gx} {n : Nat} {e : E} {c : Nat} {s : List Nat} (h : w[n]? = some (srO (c :: s))) (he : (ev G e ρ w) = .ok (.v (.int 0)) w) : kPopR G e ρ (.ref n) w = .ok (.v (.str [c])) (w.set n (srO s)) := by
  have hi : isLst w n = true := by unfold isLst; rw [h]; rfl
  show (if isLst w n then (ev G e ρ w).dv.bd (kPop n) else .bad) = _
  rw [if_pos hi, he]
  exact kPop2_eq h
theorem pull_ok (hw : In2 w sd sr) (held : Option Nat) :
    den PG (k + 2) f._law_pull [.ref sd, .ref sr] (W2 w sd sr (loO t (hs held) n over key) (srO s)) = .ok (.v (hs (tk held s).1)) (W2 w sd sr (loO t (.str []) n over key) (srO (tk held s).2)) := by
  rw [run__law_pull]
  cases held with
  | some c => simp [b__law_pull, W2_i hw, W2_j hw, W2_si hw, tk]
  | none =>
    cases s with
    | nil => simp [b__law_pull, W2_i hw, W2_j hw, W2_si hw, tk]
    | cons c s =>
      simp [b__law_pull, W2_i hw, W2_j hw, W2_si hw, tk, ev_popR0]
      rw [kPopR_of (W2_j hw) (by simp)]
      simp [W2_sj]
theorem further_ok (hw : In2 w sd sr) (ht : t.length = 6) (g : Nat) (x : Wk) (hx : ∀ c ∈ x.all, c ∈ ABC) (hk : x.over = false → key = .str [g]) :
    den PG (k + 3) f._law_further [.ref sd, .ref sr] (lw w sd sr t n key x) = .ok (.v (hs (nxt t g x).1)) (lw w sd sr t n key (nxt t g x).2) := by
  rw [run__law_further]
  obtain ⟨over, held, s⟩ := x
  cases over with
  | true => simp [b__law_further, W2_i hw, lw, nxt]
  | false =>
    obtain rfl := hk rfl
    cases e : (tk held s).1 with
    | none => simp [b__law_further, W2_i hw, W2_si hw, lw, nxt, pull_ok hw, e]
    | some c =>
      have hc : c ∈ ABC := hx c (tk_mem e)
      by_cases hk : keyOf t c = g
      · simp [b__law_further, W2_i hw, W2_si hw, lw, nxt, pull_ok hw, e, dSm_index, idx_ABC hc, nth_key ht hc, hc, hk]
      · simp [b__law_further, W2_i hw, W2_si hw, lw, nxt, pull_ok hw, e, dSm_index, idx_ABC hc, nth_key ht hc, hc, hk]
end
end My

set_option Elab.async false
set_option linter.all false
set_option maxRecDepth 100000
/-! S15: the laws' own walker asks and reads; handles take. -/
namespace My
section
variable {w : Wd} {sd sr wk st : Nat} {k : Nat} {t : List Nat} {n : Int} {key held : D} {over : Bool} {s : List Nat} {a : Own} {ρ : Env}
theorem lask_test (hw : In2 w sd sr) (x : Wk) (j : Slot) : evT (PG.gx (den PG k)) t__law_ask_1 [.v (.ref sd), .v (.ref sr), j] (lw w sd sr t n key x) = .ok (!x.over) (lw w sd sr t n key x) := by
  simp [t__law_ask_1, lw_i hw]
theorem lask_turn (hw : In2 w sd sr) (ht : t.length = 6) (g : Nat) (x : Wk) (hx : ∀ c ∈ x.all, c ∈ ABC) (hk : x.over = false → key = .str [g]) (j : Slot) :
    evSs (PG.gx (den PG (k + 3))) w__law_ask_1 [.v (.ref sd), .v (.ref sr), j] (lw w sd sr t n key x) = .nx [.v (.ref sd), .v (.ref sr), j] (lw w sd sr t n key (nxt t g x).2) := by
  simp [w__law_ask_1, further_ok hw ht g x hx hk]
theorem lskip_loop (hw : In2 w sd sr) (ht : t.length = 6) (g : Nat) (j : Slot) : ∀ (m : Nat) (x : Wk), x.all.length ≤ m → (∀ c ∈ x.all, c ∈ ABC) → (x.over = false → key = .str [g]) →
    wGo (PG.gx (den PG (k + 3))) t__law_ask_1 w__law_ask_1 [.v (.ref sd), .v (.ref sr), j] (lw w sd sr t n key x) = .nx [.v (.ref sd), .v (.ref sr), j] (lw w sd sr t n key (skip t g x)) := by
  have stop : ∀ x : Wk, x.over = true → wGo (PG.gx (den PG (k + 3))) t__law_ask_1 w__law_ask_1 [.v (.ref sd), .v (.ref sr), j] (lw w sd sr t n key x) = .nx [.v (.ref sd), .v (.ref sr), j] (lw w sd sr t n key x) := fun x h =>
    wGo_stop (by rw [lask_test hw x, h]; rfl)
  intro m
  induction m with
  | zero =>
    intro x hl hx hk
    cases ho : x.over with
    | true => rw [stop x ho]; unfold skip; rw [ho]; rfl
    | false =>
      have e : x.all = [] := List.length_eq_zero_iff.mp (by omega)
      have hT := lask_test (k := k + 3) (t := t) (n := n) (key := key) hw x j
      rw [ho] at hT
      rw [wGo_step hT (lask_turn hw ht g x hx hk j), nxt_nil ho e, stop _ rfl]
      unfold skip; rw [ho, e]; rfl
  | succ m ih =>
    intro x hl hx hk
    cases ho : x.over with
    | true => rw [stop x ho]; unfold skip; rw [ho]; rfl
    | false =>
      have hT := lask_test (k := k + 3) (t := t) (n := n) (key := key) hw x j
      rw [ho] at hT
      rw [wGo_step hT (lask_turn hw ht g x hx hk j)]
      cases e : x.all with
      | nil => rw [nxt_nil ho e, stop _ rfl]; unfold skip; rw [ho, e]; rfl
      | cons c l =>
        rw [e] at hl hx
        by_cases hg : keyOf t c = g
        · rw [nxt_in ho e hg, ih ⟨false, none, l⟩ (by simpa [Wk.all] using hl) (fun c m => hx c (by simpa [Wk.all] using Or.inr m)) (fun _ => hk ho)]
          unfold skip; rw [ho, e]; simp [Wk.all, hg]
        · rw [nxt_out ho e hg, stop _ rfl]
          unfold skip; rw [ho, e]; simp [hg, ofL]
theorem law_ask_ok (hw : In2 w sd sr) (ht : t.length = 6) (g : Nat) (x : Wk) (hx : ∀ c ∈ x.all, c ∈ ABC) (hk : x.over = false → key = .str [g]) :
    den PG (k + 4) f._law_ask [.ref sd, .ref sr] (lw w sd sr t n key x) = match (skip t g x).all with
      | [] => .ok (.v .non) (lw w sd sr t n key ⟨true, none, []⟩)
      | c :: l => .ok (.o (.lst [.int (n + 1), .str [keyOf t c]])) (lw w sd sr t (n + 1) (.str [keyOf t c]) ⟨false, some c, l⟩) := by
  rw [run__law_ask]
  simp only [b__law_ask, evSs_cons, evS_whl]
  rw [lskip_loop (m := x.all.length) hw ht g .u x (Nat.le_refl _) hx hk]
  have ho : (skip t g x).over = true := by unfold skip; cases h : x.over <;> simp [h, ofL]
  have hy : ∀ c ∈ (skip t g x).all, c ∈ ABC := fun c m => by
    unfold skip at m
    split at m
    · exact hx c m
    · rw [ofL_all] at m
      exact hx c ((List.dropWhile_sublist _).mem m)
  generalize skip t g x = y at ho hy
  obtain ⟨over, held, s⟩ := y
  cases ho
  have h2 := pull_ok (k := k + 1) (t := t) (n := n) (key := key) (over := true) (s := s) hw held
  rw [tk_all] at h2
  cases e : held.toList ++ s with
  | nil =>
    rw [e] at h2
    simp [Wk.all, e, lw, h2, W2_i hw]
  | cons c l =>
    rw [e] at h2
    have hc : c ∈ ABC := hy c (by unfold Wk.all; rw [e]; simp)
    simp [Wk.all, e, lw, h2, W2_i hw, W2_si hw, dSm_index, idx_ABC hc, nth_key ht hc, hc]
theorem law_taken_ok (hw : In2 w sd sr) (ht : t.length = 6) (g : Nat) (x : Wk) (hx : ∀ c ∈ x.all, c ∈ ABC) (hk : x.over = false → key = .str [g]) :
    den PG (k + 4) f._law_taken_k15 [.ref sd, .ref sr, .int n] (lw w sd sr t n key x) = .ok (.v (hs (nxt t g x).1)) (lw w sd sr t n key (nxt t g x).2) := by
  rw [run__law_taken_k15]
  simp [b__law_taken_k15, lw_i hw, further_ok hw ht g x hx hk]
theorem law_taken_no {m : Int} (hw : In2 w sd sr) (x : Wk) (hm : m ≠ n) :
    den PG (k + 4) f._law_taken_k15 [.ref sd, .ref sr, .int m] (lw w sd sr t n key x) = .ok (.v (.str [])) (lw w sd sr t n key x) := by
  rw [run__law_taken_k15]
  simp [b__law_taken_k15, lw_i hw, hm]
theorem lrest_loop (hw : In2 w sd sr) (ht : t.length = 6) (g : Nat) : ∀ (l : List Nat) (c : Nat) (found : List Nat), (∀ c ∈ l, c ∈ ABC) → found.length + 1 + l.length ≤ lim →
    wGo (PG.gx (den PG (k + 4))) t__law_rest_1 w__law_rest_1 [.v (.ref sd), .v (.ref sr), .v (.int n), .v (.str found), .v (.str [c])] (lw w sd sr t n (.str [g]) ⟨false, none, l⟩) = .nx [.v (.ref sd), .v (.ref sr), .v (.int n), .v (.str (found ++ c :: rst t g l)), .v (.str [])] (lw w sd sr t n (.str [g]) (ofL (rem t g l))) := by
  have stop : ∀ (found : List Nat) (x : Wk), wGo (PG.gx (den PG (k + 4))) t__law_rest_1 w__law_rest_1 [.v (.ref sd), .v (.ref sr), .v (.int n), .v (.str found), .v (.str [])] (lw w sd sr t n (.str [g]) x) = .nx [.v (.ref sd), .v (.ref sr), .v (.int n), .v (.str found), .v (.str [])] (lw w sd sr t n (.str [g]) x) := fun found x =>
    wGo_stop (by simp [t__law_rest_1])
  have turn : ∀ (c : Nat) (x : Wk) (found : List Nat), (∀ c ∈ x.all, c ∈ ABC) → found.length + 1 ≤ lim → evSs (PG.gx (den PG (k + 4))) w__law_rest_1 [.v (.ref sd), .v (.ref sr), .v (.int n), .v (.str found), .v (.str [c])] (lw w sd sr t n (.str [g]) x) =
      .nx [.v (.ref sd), .v (.ref sr), .v (.int n), .v (.str (found ++ [c])), .v (hs (nxt t g x).1)] (lw w sd sr t n (.str [g]) (nxt t g x).2) := fun c x found hx hl => by
    simp [w__law_rest_1, law_taken_ok hw ht g x hx (fun _ => rfl), dOp_addS (a := found) (b := [c]) hl]
  intro l
  induction l with
  | nil =>
    intro c found hl hm
    rw [wGo_step (w1 := lw w sd sr t n (.str [g]) ⟨false, none, []⟩) (by simp [t__law_rest_1]) (turn c _ found (by simpa [Wk.all] using hl) (by simp at hm; omega)), nxt_nil rfl rfl]
    rw [hs_none, stop]; rfl
  | cons d l ih =>
    intro c found hl hm
    rw [wGo_step (w1 := lw w sd sr t n (.str [g]) ⟨false, none, d :: l⟩) (by simp [t__law_rest_1]) (turn c _ found (by simpa [Wk.all] using hl) (by simp at hm; omega))]
    by_cases hg : keyOf t d = g
    · rw [nxt_in (l := l) rfl rfl hg, hs_some, ih d _ (fun c m => hl c (List.mem_cons_of_mem _ m)) (by simp at hm ⊢; omega)]
      simp [rst, rem, hg]
    · rw [nxt_out (l := l) rfl rfl hg, hs_none, stop]
      simp [rst, rem, hg, ofL]
theorem law_rest_ok (hw : In2 w sd sr) (ht : t.length = 6) (g : Nat) (x : Wk) (hx : ∀ c ∈ x.all, c ∈ ABC) (hl : x.all.length ≤ lim) :
    den PG (k + 5) f._law_rest [.ref sd, .ref sr, .int n] (lw w sd sr t n (.str [g]) x) = if x.over then .ok (.v (.str [])) (lw w sd sr t n (.str [g]) x) else .ok (.v (.str (rst t g x.all))) (lw w sd sr t n (.str [g]) (ofL (rem t g x.all))) := by
  rw [run__law_rest]
  have stop : ∀ (found : List Nat) (x : Wk), wGo (PG.gx (den PG (k + 4))) t__law_rest_1 w__law_rest_1 [.v (.ref sd), .v (.ref sr), .v (.int n), .v (.str found), .v (.str [])] (lw w sd sr t n (.str [g]) x) = .nx [.v (.ref sd), .v (.ref sr), .v (.int n), .v (.str found), .v (.str [])] (lw w sd sr t n (.str [g]) x) := fun found x =>
    wGo_stop (by simp [t__law_rest_1])
  have hn := law_taken_ok (k := k) (n := n) (key := .str [g]) hw ht g x hx (fun _ => rfl)
  cases ho : x.over with
  | true =>
    rw [nxt_over ho] at hn
    simp [b__law_rest, hn, stop]
  | false =>
    cases e : x.all with
    | nil =>
      rw [nxt_nil ho e] at hn
      simp [b__law_rest, hn, stop, rst, rem, ofL]
    | cons c l =>
      rw [e] at hx hl
      by_cases hg : keyOf t c = g
      · rw [nxt_in ho e hg] at hn
        simp only [List.length_cons] at hl
        simp [b__law_rest, hn, lrest_loop hw ht g l c [] (fun c m => hx c (List.mem_cons_of_mem _ m)) (by simp; omega), rst, rem, hg]
      · rw [nxt_out ho e hg] at hn
        simp [b__law_rest, hn, stop, rst, rem, hg, ofL]
theorem law_rest_no {m : Int} (hw : In2 w sd sr) (x : Wk) (hm : m ≠ n) :
    den PG (k + 5) f._law_rest [.ref sd, .ref sr, .int m] (lw w sd sr t n key x) = .ok (.v (.str [])) (lw w sd sr t n key x) := by
  rw [run__law_rest]
  have stop : wGo (PG.gx (den PG (k + 4))) t__law_rest_1 w__law_rest_1 [.v (.ref sd), .v (.ref sr), .v (.int m), .v (.str []), .v (.str [])] (lw w sd sr t n key x) = .nx [.v (.ref sd), .v (.ref sr), .v (.int m), .v (.str []), .v (.str [])] (lw w sd sr t n key x) :=
    wGo_stop (by simp [t__law_rest_1])
  simp [b__law_rest, law_taken_no hw x hm, stop]
/-! the program's side -/
theorem handle_item (hw : In2 w wk st) (ht : t.length = 6) (g : Nat) (x : Wk) (hx : ∀ c ∈ x.all, c ∈ ABC) :
    den PG (k + 6) f._law_item [hdO wk g n] (ww w wk st t n key x) = .ok (.v (hs (nxt t g x).1)) (ww w wk st t n key (nxt t g x).2) := by
  rw [run__law_item]
  have hn := next_of_ok (k := k) (n := n) (key := key) hw ht g x hx
  cases e : (nxt t g x).1 with
  | none =>
    rw [e] at hn
    have : den PG (k + 5) f.Handle_take [hdO wk g n] (ww w wk st t n key x) = .exc 6 [] (ww w wk st t n key (nxt t g x).2) := by
      rw [run_Handle_take]
      simp [b_Handle_take, ww_i hw, hn]
      rfl
    simp [b__law_item, this, gx_sub]
  | some c =>
    rw [e] at hn
    have : den PG (k + 5) f.Handle_take [hdO wk g n] (ww w wk st t n key x) = .ok (.v (.str [c])) (ww w wk st t n key (nxt t g x).2) := by
      rw [run_Handle_take]
      simp [b_Handle_take, ww_i hw, hn]
    simp [b__law_item, this]
theorem handle_item_no {m : Int} (hw : In2 w wk st) (g : Nat) (x : Wk) (hm : m ≠ n) :
    den PG (k + 6) f._law_item [hdO wk g m] (ww w wk st t n key x) = .ok (.v (.str [])) (ww w wk st t n key x) := by
  rw [run__law_item]
  have : den PG (k + 5) f.Handle_take [hdO wk g m] (ww w wk st t n key x) = .exc 6 [] (ww w wk st t n key x) := by
    rw [run_Handle_take]
    simp [b_Handle_take, ww_i hw, hm]
    rfl
  simp [b__law_item, this, gx_sub]
theorem asked_ok (hw : In2 w wk st) (ht : t.length = 6) (g : Nat) (x : Wk) (hx : ∀ c ∈ x.all, c ∈ ABC) (hk : x.over = false → key = .str [g]) :
    den PG (k + 6) f._law_asked [.ref wk] (ww w wk st t n key x) = match (skip t g x).all with
      | [] => .ok (.v .non) (ww w wk st t n key ⟨true, none, []⟩)
      | c :: l => .ok (.v (hdO wk (keyOf t c) (n + 1))) (ww w wk st t (n + 1) (.str [keyOf t c]) ⟨false, some c, l⟩) := by
  rw [run__law_asked]
  have ha := ask_ok (k := k) (n := n) (key := key) hw ht g x hx hk
  cases e : (skip t g x).all with
  | nil =>
    rw [e] at ha
    simp [b__law_asked, ww_i hw, ha, gx_sub]
  | cons c l =>
    rw [e] at ha
    simp [b__law_asked, ww_i hw, ha]
end
end My

set_option Elab.async false
set_option linter.all false
set_option maxRecDepth 100000
/-! S16: programs. -/
namespace My
section
variable {G : Gx} {ρ : Env} {w w' : Wd} {k : Nat}
/-! chained comparisons -/
def kChn3 (c' : Cm) (y z : D) (w : Wd) : R Rv := oB (dCmp c' y z) w
def kChnB (G : Gx) (c' : Cm) (d : E) (ρ : Env) (y : D) (w : Wd) : Option Bool → R Rv
  | some true => (ev G d ρ w).dv.bd (kChn3 c' y)
  | some false => .ok (.v (.bl false)) w
  | none => .bad
@[simp] theorem kChn3_eq (c' : Cm) (y z : D) : kChn3 c' y z w = oB (dCmp c' y z) w := no_rfl rfl
@[simp] theorem kChnB_t (c' : Cm) (d : E) (y : D) : kChnB G c' d ρ y w (some true) = (ev G d ρ w).dv.bd (kChn3 c' y) := no_rfl rfl
@[simp] theorem kChnB_f (c' : Cm) (d : E) (y : D) : kChnB G c' d ρ y w (some false) = .ok (.v (.bl false)) w := no_rfl rfl
def kChn2 (G : Gx) (c c' : Cm) (d : E) (ρ : Env) (x y : D) (w : Wd) : R Rv := kChnB G c' d ρ y w (dCmp c x y)
def kChn (G : Gx) (c : Cm) (b : E) (c' : Cm) (d : E) (ρ : Env) (x : D) (w : Wd) : R Rv := (ev G b ρ w).dv.bd (kChn2 G c c' d ρ x)
@[simp] theorem kChn2_eq (c c' : Cm) (d : E) (x y : D) : kChn2 G c c' d ρ x y w = kChnB G c' d ρ y w (dCmp c x y) := no_rfl rfl
@[simp] theorem kChn_eq (c : Cm) (b : E) (c' : Cm) (d : E) (x : D) : kChn G c b c' d ρ x w = (ev G b ρ w).dv.bd (kChn2 G c c' d ρ x) := no_rfl rfl
@[simp] theorem ev_chn (a : E) (c : Cm) (b : E) (c' : Cm) (d : E) : ev G (.chn a c b c' d) ρ w = (ev G a ρ w).dv.bd (kChn G c b c' d ρ) := by
  refine (bd_app _ _).trans ?_
  rw [val_app]
  refine congrArg (R.bd _) ?_
  funext x w1
  refine (bd_app _ _).trans ?_
  rw [val_app]
  unfold kChn
  refine congrArg (R.bd _) ?_
  funext y w2
  unfold kChn2
  cases h : dCmp c x y with
  | none => rfl
  | some b =>
    cases b with
    | false => rfl
    | true =>
      refine (bd_app _ _).trans ?_
      rw [val_app]
      refine congrArg (R.bd _) ?_
      funext z w3
      exact bl_app _
/-! membership in written tuples -/
theorem dIn_tup {x : List Nat} {ds : List D} (h : ds.all (D.plain 59) = true) : dIn (.str x) (.tup ds) = some (ds.any fun y => y.eqv (.str x)) := by
  show (if D.plain 60 (.str x) && ds.all (D.plain 59) then _ else none) = _
  rw [h]
  rfl
@[simp] theorem eqv_strs (a b : List Nat) : D.eqv (.str a) (.str b) = decide (a = b) := by
  show (a == b) = _
  rw [beq_dec]
/-! sorted characters -/
def asc (s : List Nat) : List Nat := s.mergeSort fun a b => decide (a ≤ b)
theorem chars_sort (l : List Nat) : (l.map fun c => D.str [c]).mergeSort leS = (asc l).map fun c => .str [c] := by
  unfold asc
  rw [List.map_mergeSort]
  intro a _ b _
  show decide (a ≤ b) = !ltL [b] [a]
  rw [ltL_1, Bool.eq_iff_iff]
  simp
theorem asc_len (s : List Nat) : (asc s).length = s.length := List.length_mergeSort s
theorem asc_mem {s : List Nat} {c : Nat} : c ∈ asc s ↔ c ∈ s := (List.mergeSort_perm s _).mem_iff
theorem ascending_ok {s : List Nat} (h : s.length < 64) : den PG (k + 2) f.ascending [.str s] w = .ok (.v (.str (asc s))) w := by
  rw [run_ascending]
  have e : dBi .sorted [.str s] = some (.o (.lst ((asc s).map fun c => .str [c]))) := by
    show (if s.length < 64 then some (Rv.o (.lst ((chars s).mergeSort leS))) else none) = _
    rw [if_pos h]
    unfold chars
    rw [chars_sort]
  have hj := dSm_joinC (fun c => c) (asc s) (by rw [asc_len, lim_eq]; omega)
  simp [b_ascending, e, hj]
def isSome' (cs s : List Nat) (m : Nat) : Bool := isOf cs s && decide (m ≤ s.length) && s.all fun c => decide (s.count c = 1)
theorem is_some_str {s cs : List Nat} {m : Nat} (hs : s.length ≤ lim) : den PG (k + 3) f.is_some [.str s, .str cs, .int m] w = .ok (.v (.bl (isSome' cs s m))) w := by
  rw [run_is_some]
  have h : kLc (PG.gx (den PG (k + 2))) (.nm 3) .no e_is_some_1 [.v (.str s), .v (.str cs), .v (.int m), .u] (s.map fun c => .str [c]) w = .ok (.o (.lst (s.map fun c => .bl (decide (s.count c = 1))))) w :=
    kLc_map hs fun c _ => by
      have : dSm .count (.str s) [.str [c]] = some (.v (.int (s.count c))) := rfl
      simp [e_is_some_1, this]
      omega
  unfold isSome'
  cases h1 : isOf cs s with
  | false => simp [b_is_some, is_of_str, hs, h1]
  | true =>
    by_cases h2 : m ≤ s.length
    · have h3 : ¬ s.length < m := by omega
      simp [b_is_some, is_of_str, hs, h1, h2, h3, h]
    · have h3 : s.length < m := by omega
      simp [b_is_some, is_of_str, hs, h1, h2, h3]
/-! readings -/
inductive Rd where
  | items | count | first (n : Nat) | last | late | only (ks : List Nat) (r : Rd) | within (t : List Nat) (r : Rd)
def wItems : List Nat := [105, 116, 101, 109, 115]
def wCount : List Nat := [99, 111, 117, 110, 116]
def wFirst : List Nat := [102, 105, 114, 115, 116]
def wLast : List Nat := [108, 97, 115, 116]
def wLate : List Nat := [108, 97, 116, 101]
def wOnly : List Nat := [111, 110, 108, 121]
def wWithin : List Nat := [119, 105, 116, 104, 105, 110]
def Rd.d : Rd → D
  | .items => .tup [.str [105, 116, 101, 109, 115]]
  | .count => .tup [.str [99, 111, 117, 110, 116]]
  | .first n => .tup [.str [102, 105, 114, 115, 116], .int n]
  | .last => .tup [.str [108, 97, 115, 116]]
  | .late => .tup [.str [108, 97, 116, 101]]
  | .only ks r => .tup [.str [111, 110, 108, 121], .str ks, r.d]
  | .within t r => .tup [.str [119, 105, 116, 104, 105, 110], .str t, r.d]
def Rd.dep : Rd → Nat
  | .only _ r => r.dep + 1
  | .within _ r => r.dep + 1
  | _ => 0
def Rd.ok : Rd → Bool
  | .first n => decide (n ≤ 3)
  | .only ks r => isSome' K03 ks 1 && decide (ks.length ≤ 4) && r.ok
  | .within t r => isTable t && r.ok
  | _ => true
/-- the keys of all only's stand in ascending order -/
def Rd.srt : Rd → Bool
  | .only ks r => decide (ks.Sublist K03) && r.srt
  | .within _ r => r.srt
  | _ => true
@[simp] theorem gls4 : PG.gls[4]? = some (.int 2) := no_rfl rfl
theorem in_ow {x : List Nat} : dIn (.str x) (.tup [.str [111, 110, 108, 121], .str [119, 105, 116, 104, 105, 110]]) = some (decide ([111, 110, 108, 121] = x) || decide ([119, 105, 116, 104, 105, 110] = x)) := by
  rw [dIn_tup (by simp [D.plain])]
  simp
theorem in_plain {x : List Nat} : dIn (.str x) (.tup [.str [105, 116, 101, 109, 115], .str [99, 111, 117, 110, 116], .str [108, 97, 115, 116], .str [108, 97, 116, 101]]) = some (decide ([105, 116, 101, 109, 115] = x) || (decide ([99, 111, 117, 110, 116] = x) || (decide ([108, 97, 115, 116] = x) || decide ([108, 97, 116, 101] = x)))) := by
  rw [dIn_tup (by simp [D.plain])]
  simp
theorem is_plain_ok (r : Rd) (h : r.ok = true) (hd : r.dep = 0) : den PG (k + 2) f.is_plain [r.d] w = .ok (.v (.bl true)) w := by
  rw [run_is_plain]
  cases r with
  | items => simp [b_is_plain, Rd.d, in_plain]
  | count => simp [b_is_plain, Rd.d, in_plain]
  | last => simp [b_is_plain, Rd.d, in_plain]
  | late => simp [b_is_plain, Rd.d, in_plain]
  | first n =>
    simp only [Rd.ok, decide_eq_true_eq] at h
    have h1 : ¬ (3 < (n : Int)) := by omega
    have h2 : ¬ ((n : Int) < 0) := by omega
    simp [b_is_plain, Rd.d, in_plain, isTy, h1, h2]
  | only ks r => simp [Rd.dep] at hd
  | within t r => simp [Rd.dep] at hd
theorem check_plain (r : Rd) (n : Nat) (h : r.ok = true) (hd : r.dep = 0) : den PG (k + 4) f.check_reading [r.d, .int n] w = .ok (.v .non) w := by
  have hp := is_plain_ok (k := k + 1) (w := w) r h hd
  rw [run_check_reading]
  cases r with
  | items => simp only [Rd.d] at hp ⊢; simp [b_check_reading, isTy, in_ow, hp]
  | count => simp only [Rd.d] at hp ⊢; simp [b_check_reading, isTy, in_ow, hp]
  | last => simp only [Rd.d] at hp ⊢; simp [b_check_reading, isTy, in_ow, hp]
  | late => simp only [Rd.d] at hp ⊢; simp [b_check_reading, isTy, in_ow, hp]
  | first n => simp only [Rd.d] at hp ⊢; simp [b_check_reading, isTy, in_ow, hp]
  | only ks r => simp [Rd.dep] at hd
  | within t r => simp [Rd.dep] at hd
theorem check_reading_ok : ∀ (r : Rd) (n : Nat), r.ok = true → n + r.dep ≤ 2 → den PG (k + r.dep + 5) f.check_reading [r.d, .int n] w = .ok (.v .non) w := by
  intro r
  induction r with
  | only ks r ih =>
    intro n h hd
    simp only [Rd.ok, Bool.and_eq_true, decide_eq_true_eq] at h
    simp only [Rd.dep] at hd ⊢
    have h4 : ks.length ≤ lim := by rw [lim_eq]; omega
    have hn : ¬ (n : Int) = 2 := by omega
    have e1 : den PG (k + (r.dep + 1) + 4) f.check_reading [r.d, .int ((n : Int) + 1)] w = .ok (.v .non) w := ih (n + 1) h.2 (by omega)
    have e2 := is_some_str (w := w) (k := k + (r.dep + 1) + 1) (s := ks) (cs := K03) (m := 1) h4
    rw [h.1.1] at e2
    have e2' : den PG (k + (r.dep + 1) + 4) f.is_some [.str ks, .str K03, .int 1] w = .ok (.v (.bl true)) w := e2
    rw [run_check_reading]
    simp only [Rd.d]
    simp [b_check_reading, isTy, in_ow, hn, e1, e2']
  | within t r ih =>
    intro n h hd
    simp only [Rd.ok, Bool.and_eq_true, decide_eq_true_eq] at h
    simp only [Rd.dep] at hd ⊢
    have ht6 : t.length = 6 := by have := h.1; unfold isTable at this; simp at this; exact this.2
    have hn : ¬ (n : Int) = 2 := by omega
    have e1 : den PG (k + (r.dep + 1) + 4) f.check_reading [r.d, .int ((n : Int) + 1)] w = .ok (.v .non) w := ih (n + 1) h.2 (by omega)
    have e2 := is_table_str (k + (r.dep + 1) + 1) t w (by rw [ht6, lim_eq]; decide)
    rw [h.1] at e2
    have e2' : den PG (k + (r.dep + 1) + 4) f.is_table [.str t] w = .ok (.v (.bl true)) w := e2
    rw [run_check_reading]
    simp only [Rd.d]
    simp [b_check_reading, isTy, in_ow, hn, e1, e2']
  | _ => intro n h hd; exact check_plain (k := k + 1) _ n h rfl
/-- a made program -/
def prO (t : List Nat) (r : Rd) (keeps turns drops : List Nat) : Own := .ins 16 [(5, .str t), (14, r.d), (15, .str (asc keeps)), (16, .str turns), (17, .str (asc drops))]
def prD (t : List Nat) (r : Rd) (keeps turns drops : List Nat) : D := .ins 16 [(5, .str t), (14, r.d), (15, .str (asc keeps)), (16, .str turns), (17, .str (asc drops))]
@[simp] theorem frz_prO (t : List Nat) (r : Rd) (keeps turns drops : List Nat) : (prO t r keeps turns drops).frz = prD t r keeps turns drops := no_rfl rfl
section
variable {t keeps turns drops : List Nat} {r : Rd}
@[simp] theorem deref_pr : deref w (prD t r keeps turns drops) = prD t r keeps turns drops := no_rfl rfl
@[simp] theorem pr_table : fldOf w 16 5 (prD t r keeps turns drops) = some (.str t) := no_rfl rfl
@[simp] theorem pr_reading : fldOf w 16 14 (prD t r keeps turns drops) = some r.d := no_rfl rfl
@[simp] theorem pr_keeps : fldOf w 16 15 (prD t r keeps turns drops) = some (.str (asc keeps)) := no_rfl rfl
@[simp] theorem pr_turns : fldOf w 16 16 (prD t r keeps turns drops) = some (.str turns) := no_rfl rfl
@[simp] theorem pr_drops : fldOf w 16 17 (prD t r keeps turns drops) = some (.str (asc drops)) := no_rfl rfl
/-- parts that a program may have -/
structure GoodP (t : List Nat) (r : Rd) (keeps turns drops : List Nat) : Prop where
  ht : isTable t = true
  hr : r.ok = true
  hdep : r.dep ≤ 2
  hkeeps : isSome' ABC keeps 0 = true
  hturns : isOf ABC turns = true
  htlen : turns.length = 6
  hdrops : isSome' K03 drops 0 = true
/-- .. as the laws draw them -/
structure GoodS (t : List Nat) (r : Rd) (keeps turns drops : List Nat) : Prop extends GoodP t r keeps turns drops where
  sk : keeps.Sublist ABC
  sd : drops.Sublist K03
  sr : r.srt = true
theorem isSome_le {cs s : List Nat} {m : Nat} (h : isSome' cs s m = true) : s.length ≤ cs.length := by
  unfold isSome' isOf at h
  simp only [Bool.and_eq_true, List.all_eq_true, decide_eq_true_eq] at h
  have hn : s.Nodup := List.nodup_iff_count.mpr fun a => by
    by_cases ha : a ∈ s
    · rw [h.2 a ha]; exact Nat.le_refl _
    · rw [List.count_eq_zero_of_not_mem ha]; omega
  exact (List.Nodup.length_le_of_subset hn fun a ha => h.1.1 a ha)
theorem program_ok (G : GoodP t r keeps turns drops) : den PG (k + 10) f.Program__init__ [.str t, r.d, .str keeps, .str turns, .str drops] w = .ok (.o (prO t r keeps turns drops)) w := by
  have ht6 : t.length = 6 := by have := G.ht; unfold isTable at this; simp at this; exact this.2
  have e1 := is_table_str (k + 5) t w (by rw [ht6, lim_eq]; decide)
  rw [G.ht] at e1
  obtain ⟨m, hm⟩ : ∃ m, k + 8 = m + r.dep + 5 := ⟨k + 3 - r.dep, by have := G.hdep; omega⟩
  have e2 : den PG (k + 8) f.check_reading [r.d, .int 0] w = .ok (.v .non) w := by
    rw [hm]
    exact check_reading_ok r 0 G.hr (by have := G.hdep; omega)
  have hk := isSome_le G.hkeeps
  have hd := isSome_le G.hdrops
  have hk6 : keeps.length ≤ 6 := hk
  have hd4 : drops.length ≤ 4 := hd
  have e3 := is_some_str (w := w) (k := k + 5) (s := keeps) (cs := ABC) (m := 0) (by rw [lim_eq]; omega)
  rw [G.hkeeps] at e3
  have e3' : den PG (k + 8) f.is_some [.str keeps, .str ABC, .int 0] w = .ok (.v (.bl true)) w := e3
  have e4 := is_of_str (k + 6) turns ABC w (by rw [G.htlen, lim_eq]; decide)
  rw [G.hturns] at e4
  have e5 := is_some_str (w := w) (k := k + 5) (s := drops) (cs := K03) (m := 0) (by rw [lim_eq]; omega)
  rw [G.hdrops] at e5
  have e5' : den PG (k + 8) f.is_some [.str drops, .str K03, .int 0] w = .ok (.v (.bl true)) w := e5
  have e6 := ascending_ok (w := w) (k := k + 6) (s := keeps) (by omega)
  have e7 := ascending_ok (w := w) (k := k + 6) (s := drops) (by omega)
  have hl : ABC.length = 6 := rfl
  rw [run_Program__init__]
  simp [b_Program__init__, e1, e2, e3', e4, e5', e6, e7, G.htlen, hl]
  rfl
end
end
end My

set_option Elab.async false
set_option linter.all false
set_option maxRecDepth 100000
/-! S17: programs that the laws draw. -/
namespace My
section
variable {k : Nat} {ws : Wd} {d : Own}
theorem some_sub {cs s : List Nat} (hc : cs.Nodup) (h : s.Sublist cs) : isSome' cs s 0 = true := by
  unfold isSome' isOf
  simp only [Bool.and_eq_true, List.all_eq_true, decide_eq_true_eq]
  refine ⟨⟨fun c m => h.mem m, Nat.zero_le _⟩, fun c m => ?_⟩
  have hn := h.nodup hc
  have h1 := List.nodup_iff_count.mp hn c
  have h2 := List.count_pos_iff.mpr m
  omega
theorem law_some_go (cs : List Nat) (hcl : cs.length ≤ lim) (h : Dr d) (m : D) : ∃ (s : List Nat) (d' : Own),
    kLc (PG.gx (den PG (k + 2))) (.nm 4) c__law_some_1 e__law_some_1 [.v (.ref 0), .v (.str cs), .v m, .u, .u] (cs.map fun c => .str [c]) (d :: ws) = .ok (.o (.lst (s.map fun c => .str [c]))) (d' :: ws) ∧ s.Sublist cs ∧ Dr d' := by
  obtain ⟨zs, d', e, hd, hz⟩ := lcGo_drawF (f := lcB (PG.gx (den PG (k + 2))) (.nm 4) c__law_some_1 e__law_some_1 [.v (.ref 0), .v (.str cs), .v m, .u, .u]) (i := fun (c : Nat) => D.str [c]) (ws := ws) (xs := cs) h fun c _ d hd => by
    obtain ⟨r, d1, e1, h1, hd1⟩ := draw_ok k ws hd 2 (by decide) (by decide)
    refine ⟨decide (r = 0), d1, ?_, hd1⟩
    by_cases hr : r = 0
    · subst hr
      have e1' : den PG (k + 2) f._law_draw [.ref 0, .int 2] (d :: ws) = .ok (.v (.int 0)) (d1 :: ws) := e1
      simp [c__law_some_1, e__law_some_1, e1']
    · simp [c__law_some_1, e__law_some_1, e1, hr]
  exact ⟨zs, d', kLc_of (by simpa using hcl) e, hz, hd⟩
theorem law_some0 {cs : List Nat} (hc : cs.Nodup) (hl : cs.length ≤ lim) (h : Dr d) : ∃ (s : List Nat) (d' : Own), den PG (k + 3) f._law_some [.ref 0, .str cs, .int 0] (d :: ws) = .ok (.v (.str s)) (d' :: ws) ∧ isSome' cs s 0 = true ∧ s.Sublist cs ∧ Dr d' := by
  obtain ⟨s, d', e, hs, hd⟩ := law_some_go (k := k) (ws := ws) cs hl h (.int 0)
  refine ⟨s, d', ?_, some_sub hc hs, hs, hd⟩
  rw [run__law_some]
  have h2 := dSm_joinC (fun c => c) s (by have := hs.length_le; omega)
  have h3 : ¬ ((s.length : Int) < 0) := by omega
  simp [b__law_some, e, h2, h3]
theorem law_some1 (h : Dr d) : ∃ (s : List Nat) (d' : Own), den PG (k + 3) f._law_some [.ref 0, .str [48, 49, 50], .int 1] (d :: ws) = .ok (.v (.str s)) (d' :: ws) ∧ isSome' K03 s 1 = true ∧ s.length ≤ 4 ∧ s.Sublist K03 ∧ Dr d' := by
  obtain ⟨s, d', e, hs, hd⟩ := law_some_go (k := k) (ws := ws) [48, 49, 50] (by rw [lim_eq]; decide) h (.int 1)
  have hl := hs.length_le
  simp only [List.length_cons, List.length_nil] at hl
  have h2 := dSm_joinC (fun c => c) s (by rw [lim_eq]; omega)
  have hi := some_sub (cs := K03) (by decide) (hs.trans (by decide : [48, 49, 50].Sublist K03))
  rw [run__law_some]
  simp only [List.map_cons, List.map_nil] at e
  by_cases h0 : s = []
  · subst h0
    have h3 : ((0 : Nat) : Int) < 1 := by omega
    refine ⟨[48], d', ?_, by decide, by decide, by decide, hd⟩
    have h4 : dCut (.str [48, 49, 50]) none (some 1) = some (.v (.str [48])) := rfl
    simp only [List.map_nil] at e h2
    simp [b__law_some, e, h2, h4]
  · have h1 : 1 ≤ s.length := by
      rcases s with _ | ⟨a, s⟩
      · exact absurd rfl h0
      · simp
    have h3 : ¬ ((s.length : Int) < 1) := by omega
    refine ⟨s, d', by simp [b__law_some, e, h2, h3], ?_, by omega, hs.trans (by decide : [48, 49, 50].Sublist K03), hd⟩
    unfold isSome' at hi ⊢
    simp only [Bool.and_eq_true, decide_eq_true_eq] at hi ⊢
    exact ⟨⟨hi.1.1, h1⟩, hi.2⟩
theorem reading_low {n : Nat} {m : Int} {d1 : Own} (hd1 : Dr d1) (r : Nat) (hr : r ≤ 5 ∨ (r < 9 ∧ m < 1)) (e1 : den PG (k + 4) f._law_draw [.ref 0, .int 9] (d :: ws) = .ok (.v (.int r)) (d1 :: ws)) :
    ∃ (r : Rd) (d' : Own), den PG (k + 5) f._law_reading [.ref 0, .int m] (d :: ws) = .ok (.v r.d) (d' :: ws) ∧ r.ok = true ∧ r.dep = 0 ∧ r.srt = true ∧ Dr d' := by
  obtain ⟨r2, d2, e2, h2, hd2⟩ := draw_ok (k + 2) ws hd1 2 (by decide) (by decide)
  obtain ⟨r4, d4, e4, h4, hd4⟩ := draw_ok (k + 2) ws hd1 4 (by decide) (by decide)
  obtain ⟨r3, d3, e3, h3, hd3⟩ := draw_ok (k + 2) ws hd2 2 (by decide) (by decide)
  have pick : ∀ q : Nat, (q : Int) < 2 → ∃ r : Rd, nth [D.tup [.str [105, 116, 101, 109, 115]], .tup [.str [99, 111, 117, 110, 116]]] (q : Int) = some r.d ∧ r.ok = true ∧ r.dep = 0 ∧ r.srt = true := by
    intro q hq
    have : q < 2 := by omega
    match q, this with
    | 0, _ => exact ⟨.items, rfl, rfl, rfl, rfl⟩
    | 1, _ => exact ⟨.count, rfl, rfl, rfl, rfl⟩
  rw [run__law_reading]
  have h9 : r < 9 := by omega
  obtain ⟨p2, q2, o2, z2, y2⟩ := pick r2 h2
  obtain ⟨p3, q3, o3, z3, y3⟩ := pick r3 h3
  match r, h9 with
  | 0, _ => exact ⟨.items, d1, by simp only [Int.ofNat_zero] at e1; simp [b__law_reading, e1, Rd.d], rfl, rfl, rfl, hd1⟩
  | 1, _ => 
    have e1' : den PG (k + 4) f._law_draw [.ref 0, .int 9] (d :: ws) = .ok (.v (.int 1)) (d1 :: ws) := e1
    exact ⟨.items, d1, by simp [b__law_reading, e1', Rd.d], rfl, rfl, rfl, hd1⟩
  | 2, _ => 
    have e1' : den PG (k + 4) f._law_draw [.ref 0, .int 9] (d :: ws) = .ok (.v (.int 2)) (d1 :: ws) := e1
    exact ⟨.count, d1, by simp [b__law_reading, e1', Rd.d], rfl, rfl, rfl, hd1⟩
  | 3, _ => 
    have e1' : den PG (k + 4) f._law_draw [.ref 0, .int 9] (d :: ws) = .ok (.v (.int 3)) (d1 :: ws) := e1
    exact ⟨.first r4, d4, by simp [b__law_reading, e1', e4, Rd.d], by simp [Rd.ok]; omega, rfl, rfl, hd4⟩
  | 4, _ => 
    have e1' : den PG (k + 4) f._law_draw [.ref 0, .int 9] (d :: ws) = .ok (.v (.int 4)) (d1 :: ws) := e1
    exact ⟨.last, d1, by simp [b__law_reading, e1', Rd.d], rfl, rfl, rfl, hd1⟩
  | 5, _ => 
    have e1' : den PG (k + 4) f._law_draw [.ref 0, .int 9] (d :: ws) = .ok (.v (.int 5)) (d1 :: ws) := e1
    by_cases hr2 : r2 = 0
    · subst hr2
      have e2' : den PG (k + 4) f._law_draw [.ref 0, .int 2] (d1 :: ws) = .ok (.v (.int 0)) (d2 :: ws) := e2
      exact ⟨.late, d2, by simp [b__law_reading, e1', e2', Rd.d], rfl, rfl, rfl, hd2⟩
    · refine ⟨p3, d3, ?_, o3, z3, y3, hd3⟩
      by_cases hm : m < 1
      · simp [b__law_reading, e1', e2, hr2, e3, q3, hm]
      · simp [b__law_reading, e1', e2, hr2, e3, q3, hm]
  | 6, _ => 
    have e1' : den PG (k + 4) f._law_draw [.ref 0, .int 9] (d :: ws) = .ok (.v (.int 6)) (d1 :: ws) := e1
    have hm : m < 1 := by omega
    exact ⟨p2, d2, by simp [b__law_reading, e1', e2, q2, hm], o2, z2, y2, hd2⟩
  | 7, _ => 
    have e1' : den PG (k + 4) f._law_draw [.ref 0, .int 9] (d :: ws) = .ok (.v (.int 7)) (d1 :: ws) := e1
    have hm : m < 1 := by omega
    exact ⟨p2, d2, by simp [b__law_reading, e1', e2, q2, hm], o2, z2, y2, hd2⟩
  | 8, _ => 
    have e1' : den PG (k + 4) f._law_draw [.ref 0, .int 9] (d :: ws) = .ok (.v (.int 8)) (d1 :: ws) := e1
    have hm : m < 1 := by omega
    exact ⟨p2, d2, by simp [b__law_reading, e1', e2, q2, hm], o2, z2, y2, hd2⟩
theorem law_reading_ok : ∀ (n : Nat) {d : Own}, Dr d → ∃ (r : Rd) (d' : Own), den PG (k + n + 5) f._law_reading [.ref 0, .int n] (d :: ws) = .ok (.v r.d) (d' :: ws) ∧ r.ok = true ∧ r.dep ≤ n ∧ r.srt = true ∧ Dr d' := by
  intro n
  induction n with
  | zero =>
    intro d h
    obtain ⟨r, d1, e1, h1, hd1⟩ := draw_ok (k + 2) ws h 9 (by decide) (by decide)
    obtain ⟨p, d2, a, b, c, sr, hd2⟩ := reading_low (k := k) (n := 0) (m := 0) hd1 r (.inr ⟨by omega, by decide⟩) e1
    exact ⟨p, d2, a, b, by omega, sr, hd2⟩
  | succ n ih =>
    intro d h
    obtain ⟨r, d1, e1, h1, hd1⟩ := draw_ok (k + n + 3) ws h 9 (by decide) (by decide)
    by_cases h5 : r ≤ 5
    · obtain ⟨p, d2, a, b, c, sr, hd2⟩ := reading_low (k := k + n + 1) (n := 0) (m := ((n + 1 : Nat) : Int)) hd1 r (.inl h5) e1
      exact ⟨p, d2, a, b, by omega, sr, hd2⟩
    · have hn : ¬ ((n : Int) + 1 < 1) := by omega
      have hn2 : (n : Int) + 1 - 1 = n := by omega
      by_cases h6 : r = 6
      · subst h6
        have e1' : den PG (k + n + 5) f._law_draw [.ref 0, .int 9] (d :: ws) = .ok (.v (.int 6)) (d1 :: ws) := e1
        obtain ⟨s, d2, e2, o2, l2, s2, hd2⟩ := law_some1 (k := k + n + 2) (ws := ws) hd1
        obtain ⟨p, d3, e3, o3, l3, s3, hd3⟩ := ih hd2
        refine ⟨.only s p, d3, ?_, by simp [Rd.ok, o2, o3, l2], by simp only [Rd.dep]; omega, by simp [Rd.srt, s2, s3], hd3⟩
        show den PG (k + n + 6) _ _ _ = _
        rw [run__law_reading]
        simp [b__law_reading, e1', hn, hn2, e2, e3, Rd.d]
      · have h7 : ¬ (r : Int) = 6 := by omega
        have h7' : ¬ (r : Int) = 5 := by omega
        have h72 : 1 < (r : Int) := by omega
        have h73 : ¬ (r : Int) = 2 := by omega
        have h74 : ¬ (r : Int) = 3 := by omega
        have h75 : ¬ (r : Int) = 4 := by omega
        obtain ⟨t, d2, e2, o2, hd2⟩ := law_table_ok (k + n + 2) ws hd1
        obtain ⟨p, d3, e3, o3, l3, s3, hd3⟩ := ih hd2
        have e1' : den PG (k + n + 5) f._law_draw [.ref 0, .int 9] (d :: ws) = .ok (.v (.int r)) (d1 :: ws) := e1
        refine ⟨.within t p, d3, ?_, by simp [Rd.ok, o2, o3], by simp only [Rd.dep]; omega, s3, hd3⟩
        show den PG (k + n + 6) _ _ _ = _
        rw [run__law_reading]
        have g1 : ¬ r = 6 := h6
        have g2 : ¬ r = 5 := by omega
        have g3 : ¬ r = 2 := by omega
        have g4 : ¬ r = 3 := by omega
        have g5 : ¬ r = 4 := by omega
        have g6 : 1 < r := by omega
        simp [b__law_reading, e1', hn, hn2, e2, e3, Rd.d, h7, h7', h72, h73, h74, h75, g1, g2, g3, g4, g5, g6]
end
end My

set_option Elab.async false
set_option linter.all false
set_option maxRecDepth 100000
/-! S18: the parts that laws draw; programs made of them. -/
namespace My
section
variable {k : Nat} {ws : Wd} {d : Own}
theorem ABC_isOf : isOf ABC ABC = true := by decide
abbrev iKeeps : S := (.ife (.e (.cmp .eq (.call 3 (.cons (.var 0) (.cons (.cst (.int 2)) .nil))) (.cst (.int 0)))) (.cons (.asg 1 (.call 44 (.cons (.var 0) (.cons (.cst (.str ABC)) (.cons (.cst (.int 0)) .nil))))) .nil) .nil)
abbrev iTurns : S := (.ife (.e (.cmp .eq (.call 3 (.cons (.var 0) (.cons (.cst (.int 2)) .nil))) (.cst (.int 0)))) (.cons (.asg 2 (.sm .join (.cst (.str [])) (.lc (.nm 4) (.rng1 (.cst (.int 6))) .no e__law_parts_1))) .nil) .nil)
abbrev iDrops : S := (.ife (.e (.cmp .eq (.call 3 (.cons (.var 0) (.cons (.cst (.int 3)) .nil))) (.cst (.int 0)))) (.cons (.asg 3 (.call 44 (.cons (.var 0) (.cons (.cst (.str [48, 49, 50])) (.cons (.cst (.int 0)) .nil))))) .nil) .nil)
theorem if_keeps (h : Dr d) (b c e : Slot) : ∃ keeps d2, evS (PG.gx (den PG (k + 9))) iKeeps [.v (.ref 0), .v (.str ABC), b, c, e] (d :: ws) = .nx [.v (.ref 0), .v (.str keeps), b, c, e] (d2 :: ws) ∧ (isSome' ABC keeps 0 = true ∧ keeps.Sublist ABC) ∧ Dr d2 := by
  obtain ⟨r1, d1, e1, h1, hd1⟩ := draw_ok (k + 7) ws h 2 (by decide) (by decide)
  obtain ⟨s, d2, e2, o2, s2, hd2⟩ := law_some0 (k := k + 6) (ws := ws) (cs := ABC) (by decide) (by decide) hd1
  by_cases hr : r1 = 0
  · subst hr
    have e1' : den PG (k + 9) f._law_draw [.ref 0, .int 2] (d :: ws) = .ok (.v (.int 0)) (d1 :: ws) := e1
    exact ⟨s, d2, by simp [e1', e2], ⟨o2, s2⟩, hd2⟩
  · exact ⟨ABC, d1, by simp [e1, hr], ⟨by decide, by decide⟩, hd1⟩
theorem if_turns (h : Dr d) (a c e : Slot) : ∃ turns d2, evS (PG.gx (den PG (k + 9))) iTurns [.v (.ref 0), a, .v (.str ABC), c, e] (d :: ws) = .nx [.v (.ref 0), a, .v (.str turns), c, e] (d2 :: ws) ∧ (isOf ABC turns = true ∧ turns.length = 6) ∧ Dr d2 := by
  obtain ⟨r1, d1, e1, h1, hd1⟩ := draw_ok (k + 7) ws h 2 (by decide) (by decide)
  obtain ⟨s, d2, e2, hd2, hl, hs⟩ := text_draw (k := k + 7) (e := e__law_parts_1) (i := 4) (ρ := [.v (.ref 0), a, .v (.str ABC), c, e]) (ws := ws) (cs := ABC) 6 rfl (by decide) (by decide) (fun x d d1 r e h => by
    simp [e__law_parts_1, e, nth_nat rfl h]) hd1 6 (by decide)
  have h2 := dSm_joinC (fun c => c) s (by rw [hl, lim_eq]; decide)
  have k1 := kR1_nat (w := d1 :: ws) 6 (by decide)
  by_cases hr : r1 = 0
  · subst hr
    have e1' : den PG (k + 9) f._law_draw [.ref 0, .int 2] (d :: ws) = .ok (.v (.int 0)) (d1 :: ws) := e1
    have k1' : kR1 (.int 6) (d1 :: ws) = .ok (rngD 0 6) (d1 :: ws) := k1
    have e2' : kLc (PG.gx (den PG (k + 9))) (.nm 4) .no e__law_parts_1 [.v (.ref 0), a, .v (.str ABC), c, e] (rngD 0 6) (d1 :: ws) = _ := e2
    exact ⟨s, d2, by simp [e1', k1', e2', h2], ⟨by unfold isOf; simpa using hs, hl⟩, hd2⟩
  · exact ⟨ABC, d1, by simp [e1, hr], ⟨by decide, rfl⟩, hd1⟩
theorem if_drops (h : Dr d) (a b e : Slot) : ∃ drops d2, evS (PG.gx (den PG (k + 9))) iDrops [.v (.ref 0), a, b, .v (.str []), e] (d :: ws) = .nx [.v (.ref 0), a, b, .v (.str drops), e] (d2 :: ws) ∧ (isSome' K03 drops 0 = true ∧ drops.Sublist K03) ∧ Dr d2 := by
  obtain ⟨r1, d1, e1, h1, hd1⟩ := draw_ok (k + 7) ws h 3 (by decide) (by decide)
  obtain ⟨s, d2, e2, o2, s2, hd2⟩ := law_some0 (k := k + 6) (ws := ws) (cs := [48, 49, 50]) (by decide) (by decide) hd1
  by_cases hr : r1 = 0
  · subst hr
    have e1' : den PG (k + 9) f._law_draw [.ref 0, .int 3] (d :: ws) = .ok (.v (.int 0)) (d1 :: ws) := e1
    refine ⟨s, d2, by simp [e1', e2], ⟨?_, s2.trans (by decide : [48, 49, 50].Sublist K03)⟩, hd2⟩
    unfold isSome' isOf at o2 ⊢
    simp only [Bool.and_eq_true, List.all_eq_true, decide_eq_true_eq] at o2 ⊢
    exact ⟨⟨fun c m => (by decide : ∀ c ∈ [48, 49, 50], c ∈ K03) c (o2.1.1 c m), o2.1.2⟩, o2.2⟩
  · exact ⟨[], d1, by simp [e1, hr], ⟨by decide, by decide⟩, hd1⟩
theorem law_parts_ok (h : Dr d) : ∃ (t : List Nat) (r : Rd) (keeps turns drops : List Nat) (d' : Own),
    den PG (k + 10) f._law_parts [.ref 0] (d :: ws) = .ok (.o (.lst [.str t, r.d, .str keeps, .str turns, .str drops])) (d' :: ws) ∧ GoodS t r keeps turns drops ∧ Dr d' := by
  obtain ⟨keeps, d1, e1, h1, hd1⟩ := if_keeps (k := k) (ws := ws) h .u .u .u
  obtain ⟨turns, d2, e2, h2, hd2⟩ := if_turns (k := k) (ws := ws) hd1 (.v (.str keeps)) .u .u
  obtain ⟨drops, d3, e3, h3, hd3⟩ := if_drops (k := k) (ws := ws) hd2 (.v (.str keeps)) (.v (.str turns)) .u
  obtain ⟨t, d4, e4, o4, hd4⟩ := law_table_ok (k + 6) ws hd3
  obtain ⟨r, d5, e5, o5, l5, s5, hd5⟩ := law_reading_ok (k := k + 2) (ws := ws) 2 hd4
  have e5' : den PG (k + 9) f._law_reading [.ref 0, .int 2] (d4 :: ws) = .ok (.v r.d) (d5 :: ws) := e5
  refine ⟨t, r, keeps, turns, drops, d5, ?_, ⟨⟨o4, o5, l5, h1.1, h2.1, h2.2, h3.1⟩, h1.2, h3.2, s5⟩, hd5⟩
  rw [run__law_parts]
  simp [b__law_parts, -evS_ife, e1, e2, e3, e4, e5']
@[simp] theorem deref_rd (r : Rd) {w : Wd} : deref w r.d = r.d := by cases r <;> rfl
theorem law_made_ok {w : Wd} {t keeps turns drops : List Nat} {r : Rd} (G : GoodP t r keeps turns drops) : den PG (k + 12) f._law_made [partsD t keeps turns drops r.d] w = .ok (.o (prO t r keeps turns drops)) w := by
  have hp := program_ok (k := k + 1) (w := w) G
  rw [run__law_made]
  simp [b__law_made, partsD, hp]
end
end My

set_option Elab.async false
set_option linter.all false
set_option maxRecDepth 100000
/-! S19: groups of a program. -/
namespace My
/-! plain -/
theorem gadd_gadd (acc : List (Nat × List Nat)) (g : Nat) (xs ys : List Nat) : gadd (gadd acc g xs) g ys = gadd acc g (xs ++ ys) := by
  rcases List.eq_nil_or_concat acc with rfl | ⟨ac, p, rfl⟩
  · simp [gadd]
  · obtain ⟨h, zs⟩ := p
    rw [List.concat_eq_append, gadd_last, gadd_last]
    by_cases e : h = g
    · subst e
      rw [if_pos rfl, if_pos rfl, gadd_last, if_pos rfl]
      simp
    · rw [if_neg e, if_neg e, show ac ++ [(h, zs), (g, xs)] = (ac ++ [(h, zs)]) ++ [(g, xs)] by simp, gadd_last, if_pos rfl]
      simp
/-- one step of dropping and merging -/
def gmS (drops : List Nat) (a : List (Nat × List Nat)) (p : Nat × List Nat) : List (Nat × List Nat) := if p.1 ∈ drops then a else gadd a p.1 p.2
theorem gm_same {t : List Nat} {drops : List Nat} {g : Nat} : ∀ (l : List Nat) (a : List (Nat × List Nat)) (xs : List Nat), (∀ c ∈ l, keyOf t c = g) →
    l.foldl (fun a c => gmS drops a (keyOf t c, [c])) (gmS drops a (g, xs)) = gmS drops a (g, xs ++ l)
  | [], a, xs, h => by simp
  | c :: l, a, xs, h => by
    rw [List.foldl_cons, h c List.mem_cons_self]
    have e : gmS drops (gmS drops a (g, xs)) (g, [c]) = gmS drops a (g, xs ++ [c]) := by
      unfold gmS
      by_cases hd : g ∈ drops
      · simp [hd]
      · simp only [hd, if_false]
        exact gadd_gadd a g xs [c]
    rw [e, gm_same l a (xs ++ [c]) fun x m => h x (List.mem_cons_of_mem _ m)]
    simp
theorem gm_grp {t drops : List Nat} : ∀ (n : Nat) (l : List Nat) (a : List (Nat × List Nat)), l.length ≤ n → (grp t l).foldl (gmS drops) a = l.foldl (fun a c => gmS drops a (keyOf t c, [c])) a
  | 0, l, a, h => by
    have : l = [] := List.length_eq_zero_iff.mp (by omega)
    subst this
    rfl
  | n + 1, [], a, h => rfl
  | n + 1, c :: l, a, h => by
    rw [grp_cons, List.foldl_cons, List.foldl_cons]
    have h2 : l = rst t (keyOf t c) l ++ rem t (keyOf t c) l := (List.takeWhile_append_dropWhile).symm
    have h1 : ∀ x ∈ rst t (keyOf t c) l, keyOf t x = keyOf t c := fun x m => by
      have h := List.all_takeWhile (l := l) (p := fun c' => decide (keyOf t c' = keyOf t c))
      have h3 := (List.all_eq_true.mp h) x m
      simpa using h3
    have e := gm_same (t := t) (drops := drops) (rst t (keyOf t c) l) a [c] h1
    rw [gm_grp n (rem t (keyOf t c) l) _ (by have := rem_le t (keyOf t c) l; simp only [List.length_cons] at h; omega)]
    conv => rhs; rw [h2]
    rw [List.foldl_append, e]
    rfl
theorem gm_fold {t drops : List Nat} : ∀ (l : List Nat) (a : List (Nat × List Nat)), l.foldl (fun a c => gmS drops a (keyOf t c, [c])) a = gfold t a (l.filter fun c => decide (keyOf t c ∉ drops))
  | [], a => rfl
  | c :: l, a => by
    rw [List.foldl_cons, gm_fold l]
    by_cases h : keyOf t c ∈ drops
    · simp [gmS, h]
    · simp [gmS, h, gfold]
/-- what a program keeps, turned -/
def kept (keeps turns s : List Nat) : List Nat := (s.filter fun c => decide (c ∈ keeps)).map (keyOf turns)
theorem gs_kept (t keeps turns drops : List Nat) : ∀ s : List Nat, s.filterMap (gkeep t keeps turns drops) = (kept keeps turns s).filter fun c => decide (keyOf t c ∉ drops)
  | [] => rfl
  | c :: s => by
    have ih := gs_kept t keeps turns drops s
    unfold kept at ih ⊢
    by_cases h : c ∈ keeps
    · by_cases h2 : keyOf t (keyOf turns c) ∈ drops
      · simp [gkeep, h, h2] at ih ⊢
        exact ih
      · simp [gkeep, h, h2] at ih ⊢
        exact ih
    · simp [gkeep, h] at ih ⊢
      exact ih
theorem gm_gs (t keeps turns drops s : List Nat) : (grp t (kept keeps turns s)).foldl (gmS drops) [] = gs t keeps turns drops s := by
  rw [gm_grp _ _ _ (Nat.le_refl _), gm_fold, ← gs_kept, gfold_nil]
  rfl
section
variable {w : Wd} {k : Nat} {t keeps turns drops : List Nat} {r : Rd}
theorem kept_items_ok (hu : turns.length = 6) {s : List Nat} (hs : ∀ c ∈ s, c ∈ ABC) (hl : s.length ≤ lim) :
    den PG (k + 2) f.kept_items [prD t r keeps turns drops, .str s] w = .ok (.v (.str (kept keeps turns s))) w := by
  rw [run_kept_items]
  have e : kLc (PG.gx (den PG (k + 1))) (.nm 2) c_kept_items_1 e_kept_items_1 [.v (prD t r keeps turns drops), .v (.str s), .u] (s.map fun c => .str [c]) w = .ok (.o (.lst ((s.filter fun c => decide (c ∈ keeps)).map fun c => .str [keyOf turns c]))) w :=
    kLc_pure (p := fun c => decide (c ∈ keeps)) hl fun c m => by
      have hc := hs c m
      by_cases hk : c ∈ keeps
      · simp [c_kept_items_1, e_kept_items_1, asc_mem, hk, dSm_index, hc, idx_ABC hc, nth_key hu hc]
      · simp [c_kept_items_1, e_kept_items_1, asc_mem, hk]
  have h2 := dSm_joinC (keyOf turns) (s.filter fun c => decide (c ∈ keeps)) (by have := List.length_filter_le (fun c => decide (c ∈ keeps)) s; omega)
  simp [b_kept_items, e, h2, kept]
theorem kept_len (s : List Nat) : (kept keeps turns s).length ≤ s.length := by
  unfold kept
  rw [List.length_map]
  exact List.length_filter_le _ _
theorem kept_mem (hu : turns.length = 6) (ha : ∀ c ∈ turns, c ∈ ABC) {s : List Nat} (hs : ∀ c ∈ s, c ∈ ABC) : ∀ c ∈ kept keeps turns s, c ∈ ABC := by
  intro c m
  unfold kept at m
  obtain ⟨x, hx, rfl⟩ := List.mem_map.mp m
  exact ha _ (keyOf_mem hu (hs x (List.mem_filter.mp hx).1))
/-! neighbours -/
@[simp] theorem isEmpty_app1 (z : List D) (y : D) : (z ++ [y]).isEmpty = false := no_rfl (by cases z <;> rfl)
abbrev nbE (a0 a1 : Slot) (acc : List (Nat × List Nat)) (j3 j4 : Slot) : Env := [a0, a1, .o (.lst (acc.map pr)), j3, j4]
theorem nb_step (ht : t.length = 6) {c : Nat} (hc : c ∈ ABC) (a0 : Slot) (acc : List (Nat × List Nat)) (j4 : Slot) (h1 : acc.length < lim) (h2 : (acc.map fun p => p.2.length).sum < lim) :
    evSs (PG.gx (den PG (k + 2))) l_neighbours_1 (nbE a0 (.v (.str t)) acc (.v (.str [c])) j4) w = .nx (nbE a0 (.v (.str t)) (gadd acc (keyOf t c) [c]) (.v (.str [c])) (.v (.str [keyOf t c]))) w := by
  have hk := key_of_ok k t c w ht hc
  rcases List.eq_nil_or_concat acc with rfl | ⟨ac, p, rfl⟩
  · simp [l_neighbours_1, hk]
    rw [evS_app (ds := []) rfl (by decide)]
    simp [gadd, pr]
  · obtain ⟨g, xs⟩ := p
    rw [List.concat_eq_append] at h1 h2 ⊢
    rw [gadd_last]
    simp only [List.map_append, List.map_cons, List.map_nil, List.sum_append, List.sum_cons, List.sum_nil] at h2
    have hx : xs.length + [c].length ≤ lim := by simp; omega
    by_cases hg : g = keyOf t c
    · subst hg
      simp [l_neighbours_1, hk, nth_neg1, pr, dOp_addS hx, stR_neg1]
    · simp [l_neighbours_1, hk, nth_neg1, pr, hg]
      rw [evS_app (ds := (ac.map pr ++ [.tup [.str [g], .str xs]])) (by simp [pr]) (by simpa using h1)]
      simp [pr, hg]
theorem nb_loop (ht : t.length = 6) (a0 : Slot) : ∀ (l : List Nat) (acc : List (Nat × List Nat)) (j3 j4 : Slot), (∀ c ∈ l, c ∈ ABC) → acc.length + l.length < lim → (acc.map fun p => p.2.length).sum + l.length < lim →
    ∃ j3' j4', forGo (.nm 3) (evSs (PG.gx (den PG (k + 2))) l_neighbours_1) (l.map fun c => .str [c]) (nbE a0 (.v (.str t)) acc j3 j4) w = .nx (nbE a0 (.v (.str t)) (gfold t acc l) j3' j4') w
  | [], acc, j3, j4, hl, h1, h2 => ⟨j3, j4, rfl⟩
  | c :: l, acc, j3, j4, hl, h1, h2 => by
    simp only [List.length_cons] at h1 h2
    have g1 := gadd_len acc (keyOf t c) [c]
    have g2 := gadd_sum acc (keyOf t c) [c]
    simp only [List.length_singleton] at g2
    obtain ⟨j3', j4', q⟩ := nb_loop ht a0 l (gadd acc (keyOf t c) [c]) (.v (.str [c])) (.v (.str [keyOf t c])) (fun x m => hl x (List.mem_cons_of_mem _ m)) (by omega) (by omega)
    refine ⟨j3', j4', ?_⟩
    rw [List.map_cons, forGo_step (ρ1 := nbE a0 _ acc _ j4) rfl (nb_step ht (hl c List.mem_cons_self) a0 acc j4 (by omega) (by omega)), q]
    rfl
theorem neighbours_ok (ht : t.length = 6) {s : List Nat} (hs : ∀ c ∈ s, c ∈ ABC) (hl : s.length < lim) :
    den PG (k + 3) f.neighbours [.str s, .str t] w = .ok (.o (.lst ((grp t s).map pr))) w := by
  rw [run_neighbours]
  obtain ⟨j3, j4, q⟩ := nb_loop (k := k) (w := w) ht (.v (.str s)) s [] .u .u hs (by simpa using hl) (by simpa using hl)
  simp only [nbE, List.map_nil, gfold_nil] at q
  simp [b_neighbours, q]
/-! merged -/
abbrev mgE (a0 : Slot) (acc : List (Nat × List Nat)) (j2 j3 : Slot) : Env := [a0, .o (.lst (acc.map pr)), j2, j3]
theorem mg_step (G : Gx) (g : Nat) (ys : List Nat) (a0 : Slot) (acc : List (Nat × List Nat)) (h1 : acc.length < lim) (h2 : (acc.map fun p => p.2.length).sum + ys.length ≤ lim) :
    evSs G l_merged_1 (mgE a0 acc (.v (.str [g])) (.v (.str ys))) w = .nx (mgE a0 (gadd acc g ys) (.v (.str [g])) (.v (.str ys))) w := by
  rcases List.eq_nil_or_concat acc with rfl | ⟨ac, p, rfl⟩
  · simp [l_merged_1]
    rw [evS_app (ds := []) rfl (by decide)]
    simp [gadd, pr]
  · obtain ⟨h, xs⟩ := p
    rw [List.concat_eq_append] at h1 h2 ⊢
    rw [gadd_last]
    simp only [List.map_append, List.map_cons, List.map_nil, List.sum_append, List.sum_cons, List.sum_nil] at h2
    have hx : xs.length + ys.length ≤ lim := by omega
    by_cases hg : h = g
    · subst hg
      simp [l_merged_1, nth_neg1, pr, dOp_addS hx, stR_neg1]
    · simp [l_merged_1, nth_neg1, pr, hg]
      rw [evS_app (ds := (ac.map pr ++ [.tup [.str [h], .str xs]])) (by simp [pr]) (by simpa using h1)]
      simp [pr, hg]
theorem mg_loop (G : Gx) (a0 : Slot) : ∀ (l : List (Nat × List Nat)) (acc : List (Nat × List Nat)) (j2 j3 : Slot), acc.length + l.length < lim → (acc.map fun p => p.2.length).sum + (l.map fun p => p.2.length).sum ≤ lim →
    ∃ j2' j3', forGo (.tp [2, 3]) (evSs G l_merged_1) (l.map pr) (mgE a0 acc j2 j3) w = .nx (mgE a0 (l.foldl (fun a p => gadd a p.1 p.2) acc) j2' j3') w
  | [], acc, j2, j3, h1, h2 => ⟨j2, j3, rfl⟩
  | (g, ys) :: l, acc, j2, j3, h1, h2 => by
    simp only [List.length_cons, List.map_cons, List.sum_cons] at h1 h2
    have g1 := gadd_len acc g ys
    have g2 := gadd_sum acc g ys
    obtain ⟨j2', j3', q⟩ := mg_loop G a0 l (gadd acc g ys) (.v (.str [g])) (.v (.str ys)) (by omega) (by omega)
    refine ⟨j2', j3', ?_⟩
    rw [List.map_cons, forGo_step (ρ1 := mgE a0 acc _ _) rfl (mg_step G g ys a0 acc (by omega) (by omega)), q]
    rfl
theorem merged_ok (l : List (Nat × List Nat)) (h1 : l.length < lim) (h2 : (l.map fun p => p.2.length).sum ≤ lim) :
    den PG (k + 2) f.merged [.lst (l.map pr)] w = .ok (.o (.lst ((l.foldl (fun a p => gadd a p.1 p.2) []).map pr))) w := by
  rw [run_merged]
  obtain ⟨j2, j3, q⟩ := mg_loop (w := w) (PG.gx (den PG (k + 1))) (.v (.lst (l.map pr))) l [] .u .u (by simpa using h1) (by simpa using h2)
  simp only [mgE, List.map_nil] at q
  simp [b_merged, q]
theorem grp_sum (t : List Nat) : ∀ (n : Nat) (l : List Nat), l.length ≤ n → ((grp t l).map fun p => p.2.length).sum = l.length
  | 0, l, h => by
    have : l = [] := List.length_eq_zero_iff.mp (by omega)
    subst this
    rfl
  | n + 1, [], h => rfl
  | n + 1, c :: l, h => by
    rw [grp_cons, List.map_cons, List.sum_cons, grp_sum t n _ (by have := rem_le t (keyOf t c) l; simp only [List.length_cons] at h; omega)]
    have e : (rst t (keyOf t c) l).length + (rem t (keyOf t c) l).length = l.length := by
      rw [← List.length_append]
      exact congrArg List.length List.takeWhile_append_dropWhile
    simp only [List.length_cons]
    omega
theorem filter_sum (p : Nat × List Nat → Bool) : ∀ l : List (Nat × List Nat), ((l.filter p).map fun q => q.2.length).sum ≤ (l.map fun q => q.2.length).sum
  | [] => by simp
  | a :: l => by
    have := filter_sum p l
    rw [List.filter_cons]
    split <;> simp <;> omega
theorem groups_of_ok (G : GoodP t r keeps turns drops) {s : List Nat} (hs : isOf ABC s = true) (hl : s.length < lim) :
    den PG (k + 5) f.groups_of [prD t r keeps turns drops, .str s] w = .ok (.o (.lst ((gs t keeps turns drops s).map pr))) w := by
  have ht6 : t.length = 6 := by have := G.ht; unfold isTable at this; simp at this; exact this.2
  have hm := mem_of_isOf hs
  have ha := mem_of_isOf G.hturns
  rw [run_groups_of]
  have e1 := check_items_str (k + 1) s w (by omega)
  rw [hs] at e1
  have e2 := kept_items_ok (w := w) (k := k + 2) (t := t) (r := r) (keeps := keeps) (drops := drops) G.htlen hm (by omega)
  have kl := kept_len (keeps := keeps) (turns := turns) s
  have km := kept_mem (keeps := keeps) G.htlen ha hm
  have e3 := neighbours_ok (w := w) (k := k + 1) ht6 km (by omega)
  have gl := grp_le t (kept keeps turns s)
  have e4 : kLc (PG.gx (den PG (k + 4))) (.nm 3) c_groups_of_1 e_groups_of_1 [.v (prD t r keeps turns drops), .v (.str s), .v (.lst ((grp t (kept keeps turns s)).map pr)), .u] ((grp t (kept keeps turns s)).map pr) w = .ok (.o (.lst (((grp t (kept keeps turns s)).filter fun p => !decide (p.1 ∈ drops)).map pr))) w :=
    kLc_pure (i := pr) (g := pr) (p := fun p : Nat × List Nat => !decide (p.1 ∈ drops)) (by omega) fun p m => by
      by_cases hd : p.1 ∈ drops
      · simp [c_groups_of_1, e_groups_of_1, pr, asc_mem, hd]
      · simp [c_groups_of_1, e_groups_of_1, pr, asc_mem, hd]
  have fl := List.length_filter_le (fun p : Nat × List Nat => !decide (p.1 ∈ drops)) (grp t (kept keeps turns s))
  have fs := filter_sum (fun p : Nat × List Nat => !decide (p.1 ∈ drops)) (grp t (kept keeps turns s))
  rw [grp_sum t _ _ (Nat.le_refl _)] at fs
  have e5 := merged_ok (w := w) (k := k + 2) ((grp t (kept keeps turns s)).filter fun p => !decide (p.1 ∈ drops)) (by omega) (by omega)
  have e6 : ((grp t (kept keeps turns s)).filter fun p => !decide (p.1 ∈ drops)).foldl (fun a p => gadd a p.1 p.2) [] = gs t keeps turns drops s := by
    rw [← gm_gs, List.foldl_filter]
    congr 1
    funext a p
    unfold gmS
    by_cases hd : p.1 ∈ drops
    · simp [hd]
    · simp [hd]
  rw [e6] at e5
  simp [b_groups_of, e1, e2, e3, e4, e5]
end
end My

set_option Elab.async false
set_option linter.all false
set_option maxRecDepth 100000
/-! S20: groups by hand. -/
namespace My
section
variable {w : Wd} {wk st k : Nat} {t drops : List Nat} {n : Int} {key : D}
theorem items_loop (hw : In2 w wk st) (ht : t.length = 6) (g : Nat) (a0 a1 a2 a3 : Slot) : ∀ (l : List Nat) (c : Nat) (found : List Nat), (∀ c ∈ l, c ∈ ABC) → found.length + 1 + l.length ≤ lim →
    wGo (PG.gx (den PG (k + 6))) t__law_by_hand_1 w__law_by_hand_1 [a0, a1, a2, a3, .v (hdO wk g n), .v (.str found), .v (.str [c])] (ww w wk st t n key ⟨false, none, l⟩) = .nx [a0, a1, a2, a3, .v (hdO wk g n), .v (.str (found ++ c :: rst t g l)), .v (.str [])] (ww w wk st t n key (ofL (rem t g l))) := by
  have stop : ∀ (found : List Nat) (x : Wk), wGo (PG.gx (den PG (k + 6))) t__law_by_hand_1 w__law_by_hand_1 [a0, a1, a2, a3, .v (hdO wk g n), .v (.str found), .v (.str [])] (ww w wk st t n key x) = .nx [a0, a1, a2, a3, .v (hdO wk g n), .v (.str found), .v (.str [])] (ww w wk st t n key x) := fun found x =>
    wGo_stop (by simp [t__law_by_hand_1])
  have turn : ∀ (c : Nat) (x : Wk) (found : List Nat), (∀ c ∈ x.all, c ∈ ABC) → found.length + 1 ≤ lim → evSs (PG.gx (den PG (k + 6))) w__law_by_hand_1 [a0, a1, a2, a3, .v (hdO wk g n), .v (.str found), .v (.str [c])] (ww w wk st t n key x) =
      .nx [a0, a1, a2, a3, .v (hdO wk g n), .v (.str (found ++ [c])), .v (hs (nxt t g x).1)] (ww w wk st t n key (nxt t g x).2) := fun c x found hx hl => by
    simp [w__law_by_hand_1, handle_item hw ht g x hx, dOp_addS (a := found) (b := [c]) hl]
  intro l
  induction l with
  | nil =>
    intro c found hl hm
    rw [wGo_step (w1 := ww w wk st t n key ⟨false, none, []⟩) (by simp [t__law_by_hand_1]) (turn c _ found (by simpa [Wk.all] using hl) (by simp at hm; omega)), nxt_nil rfl rfl]
    rw [hs_none, stop]; rfl
  | cons d l ih =>
    intro c found hl hm
    rw [wGo_step (w1 := ww w wk st t n key ⟨false, none, d :: l⟩) (by simp [t__law_by_hand_1]) (turn c _ found (by simpa [Wk.all] using hl) (by simp at hm; omega))]
    by_cases hg : keyOf t d = g
    · rw [nxt_in (l := l) rfl rfl hg, hs_some, ih d _ (fun c m => hl c (List.mem_cons_of_mem _ m)) (by simp at hm ⊢; omega)]
      simp [rst, rem, hg]
    · rw [nxt_out (l := l) rfl rfl hg, hs_none, stop]
      simp [rst, rem, hg, ofL]
abbrev bhI1 : S := (.ife (.e (.cmp .eq (.call 3 (.cons (.var 0) (.cons (.cst (.int 2)) .nil))) (.cst (.int 0)))) (.cons (.asg 5 (.met 17 13 2 (.var 4) .nil)) .nil) (.cons (.asg 6 (.call 32 (.cons (.var 4) .nil))) (.cons (.whl t__law_by_hand_1 w__law_by_hand_1) .nil)))
abbrev bhI2 : S := (.ife (.e (.cmp .nin (.fld 13 2 (.var 4)) (.var 2))) (.cons (.ife (.and (.e (.cmp .gt (.bi .len (.cons (.var 3) .nil)) (.cst (.int 0)))) (.e (.cmp .eq (.idx (.idx (.var 3) (.neg (.cst (.int 1)))) (.cst (.int 0))) (.fld 13 2 (.var 4))))) (.cons (.setI 3 (.neg (.cst (.int 1))) (.tup (.cons (.fld 13 2 (.var 4)) (.cons (.op .add (.idx (.idx (.var 3) (.neg (.cst (.int 1)))) (.cst (.int 1))) (.var 5)) .nil)))) .nil) (.cons (.app 3 (.tup (.cons (.fld 13 2 (.var 4)) (.cons (.var 5) .nil)))) .nil)) .nil) .nil)
/-- the world: draws ahead -/
def dw (d : Own) (ws : Wd) (a b : Nat) (t : List Nat) (n : Int) (key : D) (x : Wk) : Wd := ww (d :: ws) (a + 1) (b + 1) t n key x
variable {d : Own} {ws : Wd} {a b : Nat}
theorem dw_draw (h : Dr d) (m : Int) (h1 : 0 < m) (h2 : m < 1000) (x : Wk) : ∃ (r : Nat) (d' : Own), den PG (k + 2) f._law_draw [.ref 0, .int m] (dw d ws a b t n key x) = .ok (.v (.int r)) (dw d' ws a b t n key x) ∧ (r : Int) < m ∧ Dr d' :=
  draw_ok k (W2 ws a b (wkO (b + 1) t n key x.over (oc x.held)) (stO_ x.s)) h m h1 h2
theorem In2_cons (hw : In2 ws a b) : In2 (d :: ws) (a + 1) (b + 1) := ⟨by have := hw.1; simpa using this, by have := hw.2; simpa using this, by have := hw.3; omega⟩
theorem bh_read (hw : In2 ws a b) (ht : t.length = 6) (h : Dr d) (c : Nat) (l : List Nat) (hl : ∀ x ∈ c :: l, x ∈ ABC) (hm : l.length + 1 ≤ lim) (a1 a2 a3 j6 : Slot) :
    ∃ j6' d', evS (PG.gx (den PG (k + 6))) bhI1 [.v (.ref 0), a1, a2, a3, .v (hdO (a + 1) (keyOf t c) n), .v (.str []), j6] (dw d ws a b t n key ⟨false, some c, l⟩) =
      .nx [.v (.ref 0), a1, a2, a3, .v (hdO (a + 1) (keyOf t c) n), .v (.str (c :: rst t (keyOf t c) l)), j6'] (dw d' ws a b t n key (ofL (rem t (keyOf t c) l))) ∧ Dr d' := by
  obtain ⟨r, d', e1, h1, hd'⟩ := dw_draw (k := k + 4) (ws := ws) (a := a) (b := b) (t := t) (n := n) (key := key) h 2 (by decide) (by decide) ⟨false, some c, l⟩
  have hw' := In2_cons (d := d') hw
  by_cases hr : r = 0
  · subst hr
    have e1' : den PG (k + 6) f._law_draw [.ref 0, .int 2] (dw d ws a b t n key ⟨false, some c, l⟩) = .ok (.v (.int 0)) (dw d' ws a b t n key ⟨false, some c, l⟩) := e1
    have e2 := rest_ok (k := k + 1) (n := n) (key := key) hw' ht (keyOf t c) ⟨false, some c, l⟩ (by simpa [Wk.all] using hl) (by simpa [Wk.all] using hm)
    have e2' : den PG (k + 6) f.Handle_rest [hdO (a + 1) (keyOf t c) n] (dw d' ws a b t n key ⟨false, some c, l⟩) = .ok (.v (.str (c :: rst t (keyOf t c) l))) (dw d' ws a b t n key (ofL (rem t (keyOf t c) l))) := by
      refine e2.trans ?_
      simp [Wk.all, rst, rem]
      rfl
    exact ⟨j6, d', by simp [e1', e2'], hd'⟩
  · have e2 := handle_item (k := k) (n := n) (key := key) hw' ht (keyOf t c) ⟨false, some c, l⟩ (by simpa [Wk.all] using hl)
    rw [nxt_in (l := l) rfl rfl rfl] at e2
    have e2' : den PG (k + 6) f._law_item [hdO (a + 1) (keyOf t c) n] (dw d' ws a b t n key ⟨false, some c, l⟩) = .ok (.v (.str [c])) (dw d' ws a b t n key ⟨false, none, l⟩) := e2
    have e3 := items_loop (k := k) (n := n) (key := key) hw' ht (keyOf t c) (.v (.ref 0)) a1 a2 a3 l c [] (fun x m => hl x (List.mem_cons_of_mem _ m)) (by simp; omega)
    have e3' : wGo (PG.gx (den PG (k + 6))) t__law_by_hand_1 w__law_by_hand_1 [.v (.ref 0), a1, a2, a3, .v (hdO (a + 1) (keyOf t c) n), .v (.str []), .v (.str [c])] (dw d' ws a b t n key ⟨false, none, l⟩) = .nx [.v (.ref 0), a1, a2, a3, .v (hdO (a + 1) (keyOf t c) n), .v (.str (c :: rst t (keyOf t c) l)), .v (.str [])] (dw d' ws a b t n key (ofL (rem t (keyOf t c) l))) := e3
    exact ⟨.v (.str []), d', by simp [e1, hr, e2', e3'], hd'⟩
theorem bh_put (G : Gx) {w : Wd} (g : Nat) (ys : List Nat) (acc : List (Nat × List Nat)) (a0 a1 j6 : Slot) (h1 : acc.length < lim) (h2 : (acc.map fun p => p.2.length).sum + ys.length ≤ lim) :
    evS G bhI2 [a0, a1, .v (.str drops), .o (.lst (acc.map pr)), .v (hdO wk g n), .v (.str ys), j6] w = .nx [a0, a1, .v (.str drops), .o (.lst ((gmS drops acc (g, ys)).map pr)), .v (hdO wk g n), .v (.str ys), j6] w := by
  unfold gmS
  by_cases hd : g ∈ drops
  · simp [hd]
  · rw [if_neg hd]
    rcases List.eq_nil_or_concat acc with rfl | ⟨ac, p, rfl⟩
    · simp [hd]
      rw [evS_app (ds := []) rfl (by decide)]
      simp [gadd, pr]
    · obtain ⟨h, xs⟩ := p
      rw [List.concat_eq_append] at h1 h2 ⊢
      dsimp only
      rw [gadd_last]
      simp only [List.map_append, List.map_cons, List.map_nil, List.sum_append, List.sum_cons, List.sum_nil] at h2
      have hx : xs.length + ys.length ≤ lim := by omega
      by_cases hg : h = g
      · subst hg
        simp [hd, nth_neg1, pr, dOp_addS hx, stR_neg1]
      · simp [hd, nth_neg1, pr, hg]
        rw [evS_app (ds := (ac.map pr ++ [.tup [.str [h], .str xs]])) (by simp [pr]) (by simpa using h1)]
        simp [pr, hg]
theorem bh_loop (hw : In2 ws a b) (ht : t.length = 6) : ∀ (m : Nat) (c : Nat) (l : List Nat) (n : Int) (acc : List (Nat × List Nat)) (j5 j6 : Slot) (d : Own), l.length ≤ m → Dr d → (∀ x ∈ c :: l, x ∈ ABC) → acc.length + l.length + 1 < lim → (acc.map fun p => p.2.length).sum + l.length + 1 < lim →
    ∃ n' key' j5' j6' d', wGo (PG.gx (den PG (k + 6))) t__law_by_hand_2 w__law_by_hand_2 [.v (.ref 0), .v (.ref (a + 1)), .v (.str drops), .o (.lst (acc.map pr)), .v (hdO (a + 1) (keyOf t c) n), j5, j6] (dw d ws a b t n (.str [keyOf t c]) ⟨false, some c, l⟩) =
      .nx [.v (.ref 0), .v (.ref (a + 1)), .v (.str drops), .o (.lst (((grp t (c :: l)).foldl (gmS drops) acc).map pr)), .v .non, j5', j6'] (dw d' ws a b t n' key' ⟨true, none, []⟩) ∧ Dr d' := by
  intro m
  induction m using Nat.strongRecOn with
  | _ m ih =>
    intro c l n acc j5 j6 d hm hd hl h1 h2
    obtain ⟨j6', d', e1, hd'⟩ := bh_read (k := k) (n := n) (key := .str [keyOf t c]) hw ht hd c l hl (by omega) (.v (.ref (a + 1))) (.v (.str drops)) (.o (.lst (acc.map pr))) j6
    have rl : (rst t (keyOf t c) l).length + (rem t (keyOf t c) l).length = l.length := by
      rw [← List.length_append]
      exact congrArg List.length List.takeWhile_append_dropWhile
    have e2 := bh_put (PG.gx (den PG (k + 6))) (w := dw d' ws a b t n (.str [keyOf t c]) (ofL (rem t (keyOf t c) l))) (wk := a + 1) (n := n) (drops := drops) (keyOf t c) (c :: rst t (keyOf t c) l) acc (.v (.ref 0)) (.v (.ref (a + 1))) j6' (by omega) (by simp only [List.length_cons]; omega)
    have hr : ∀ x ∈ rem t (keyOf t c) l, x ∈ ABC := fun x m => hl x (List.mem_cons_of_mem _ (rem_mem m))
    have e3 := asked_ok (k := k) (n := n) (key := .str [keyOf t c]) (In2_cons (d := d') hw) ht 0 (ofL (rem t (keyOf t c) l)) (by rw [ofL_all]; exact hr) (fun z => by cases z)
    have sk : skip t 0 (ofL (rem t (keyOf t c) l)) = ofL (rem t (keyOf t c) l) := rfl
    rw [sk, ofL_all] at e3
    have tst : ∀ (x : Wk) (j5 j6 : Slot) (d : Own) (g : Nat) (n : Int) (key : D) (o : Own), evT (PG.gx (den PG (k + 6))) t__law_by_hand_2 [.v (.ref 0), .v (.ref (a + 1)), .v (.str drops), .o o, .v (hdO (a + 1) g n), j5, j6] (dw d ws a b t n key x) = .ok true (dw d ws a b t n key x) := fun x j5 j6 d g n key o => by simp [t__law_by_hand_2]
    have gl : (gmS drops acc (keyOf t c, c :: rst t (keyOf t c) l)).length ≤ acc.length + 1 := by
      unfold gmS
      split
      · omega
      · exact gadd_len _ _ _
    have gsum : ((gmS drops acc (keyOf t c, c :: rst t (keyOf t c) l)).map fun p => p.2.length).sum ≤ (acc.map fun p => p.2.length).sum + (rst t (keyOf t c) l).length + 1 := by
      unfold gmS
      split
      · omega
      · have := gadd_sum acc (keyOf t c) (c :: rst t (keyOf t c) l)
        simp only [List.length_cons] at this
        dsimp only
        omega
    cases er : rem t (keyOf t c) l with
    | nil =>
      rw [er] at e3 e2 e1
      have e3' : den PG (k + 6) f._law_asked [.ref (a + 1)] (dw d' ws a b t n (.str [keyOf t c]) (ofL [])) = .ok (.v .non) (dw d' ws a b t n (.str [keyOf t c]) ⟨true, none, []⟩) := e3
      refine ⟨n, .str [keyOf t c], .v (.str (c :: rst t (keyOf t c) l)), j6', d', ?_, hd'⟩
      have st : evSs (PG.gx (den PG (k + 6))) w__law_by_hand_2 [.v (.ref 0), .v (.ref (a + 1)), .v (.str drops), .o (.lst (acc.map pr)), .v (hdO (a + 1) (keyOf t c) n), j5, j6] (dw d ws a b t n (.str [keyOf t c]) ⟨false, some c, l⟩) = .nx [.v (.ref 0), .v (.ref (a + 1)), .v (.str drops), .o (.lst ((gmS drops acc (keyOf t c, c :: rst t (keyOf t c) l)).map pr)), .v .non, .v (.str (c :: rst t (keyOf t c) l)), j6'] (dw d' ws a b t n (.str [keyOf t c]) ⟨true, none, []⟩) := by
        simp [w__law_by_hand_2, -evS_ife, e1, e2, e3']
      rw [wGo_step (tst _ _ _ _ _ _ _ _) st, wGo_stop (by simp [t__law_by_hand_2]; rfl)]
      rw [grp_cons, er]
      rfl
    | cons c' l' =>
      rw [er] at e3 e2 e1 hr rl
      simp only [List.length_cons] at rl
      have e3' : den PG (k + 6) f._law_asked [.ref (a + 1)] (dw d' ws a b t n (.str [keyOf t c]) (ofL (c' :: l'))) = .ok (.v (hdO (a + 1) (keyOf t c') (n + 1))) (dw d' ws a b t (n + 1) (.str [keyOf t c']) ⟨false, some c', l'⟩) := e3
      obtain ⟨n', key', j5', j6'', d'', q, hd''⟩ := ih l'.length (by omega) c' l' (n + 1) (gmS drops acc (keyOf t c, c :: rst t (keyOf t c) l)) (.v (.str (c :: rst t (keyOf t c) l))) j6' d' (Nat.le_refl _) hd' hr (by omega) (by omega)
      refine ⟨n', key', j5', j6'', d'', ?_, hd''⟩
      have st : evSs (PG.gx (den PG (k + 6))) w__law_by_hand_2 [.v (.ref 0), .v (.ref (a + 1)), .v (.str drops), .o (.lst (acc.map pr)), .v (hdO (a + 1) (keyOf t c) n), j5, j6] (dw d ws a b t n (.str [keyOf t c]) ⟨false, some c, l⟩) = .nx [.v (.ref 0), .v (.ref (a + 1)), .v (.str drops), .o (.lst ((gmS drops acc (keyOf t c, c :: rst t (keyOf t c) l)).map pr)), .v (hdO (a + 1) (keyOf t c') (n + 1)), .v (.str (c :: rst t (keyOf t c) l)), j6'] (dw d' ws a b t (n + 1) (.str [keyOf t c']) ⟨false, some c', l'⟩) := by
        simp [w__law_by_hand_2, -evS_ife, e1, e2, e3']
      rw [wGo_step (tst _ _ _ _ _ _ _ _) st, q]
      rw [grp_cons t l, er]
      rfl
theorem by_hand_ok (hw : In2 ws a b) (ht : t.length = 6) {s : List Nat} (hs : ∀ c ∈ s, c ∈ ABC) (hl : s.length < lim) (h : Dr d) :
    ∃ n' key' d', den PG (k + 7) f._law_by_hand [.ref 0, .ref (a + 1), .str drops] (dw d ws a b t n key ⟨true, none, s⟩) = .ok (.o (.lst (((grp t s).foldl (gmS drops) []).map pr))) (dw d' ws a b t n' key' ⟨true, none, []⟩) ∧ Dr d' := by
  have e3 := asked_ok (k := k) (n := n) (key := key) (In2_cons (d := d) hw) ht 0 ⟨true, none, s⟩ (by simpa [Wk.all] using hs) (fun z => by cases z)
  have sk : (skip t 0 ⟨true, none, s⟩).all = s := rfl
  rw [sk] at e3
  rw [run__law_by_hand]
  cases s with
  | nil =>
    have e3' : den PG (k + 6) f._law_asked [.ref (a + 1)] (dw d ws a b t n key ⟨true, none, []⟩) = .ok (.v .non) (dw d ws a b t n key ⟨true, none, []⟩) := e3
    refine ⟨n, key, d, ?_, h⟩
    have stop : ∀ w, wGo (PG.gx (den PG (k + 6))) t__law_by_hand_2 w__law_by_hand_2 [.v (.ref 0), .v (.ref (a + 1)), .v (.str drops), .o (.lst []), .v .non, .u, .u] w = .nx [.v (.ref 0), .v (.ref (a + 1)), .v (.str drops), .o (.lst []), .v .non, .u, .u] w := fun w => wGo_stop (by simp [t__law_by_hand_2])
    simp [b__law_by_hand, e3', stop, grp]
  | cons c l =>
    have e3' : den PG (k + 6) f._law_asked [.ref (a + 1)] (dw d ws a b t n key ⟨true, none, c :: l⟩) = .ok (.v (hdO (a + 1) (keyOf t c) (n + 1))) (dw d ws a b t (n + 1) (.str [keyOf t c]) ⟨false, some c, l⟩) := e3
    simp only [List.length_cons] at hl
    obtain ⟨n', key', j5', j6', d', q, hd'⟩ := bh_loop (k := k) (drops := drops) hw ht l.length c l (n + 1) [] .u .u d (Nat.le_refl _) h hs (by simp; omega) (by simp; omega)
    refine ⟨n', key', d', ?_, hd'⟩
    simp only [List.map_nil] at q
    simp [b__law_by_hand, e3', q]
end
end My

set_option Elab.async false
set_option linter.all false
set_option maxRecDepth 100000
/-! S21: plain facts for k20. -/
namespace My
theorem eqvs_refl : ∀ ds : List D, (∀ x ∈ ds, x.eqv x = true) → D.eqvs ds ds = true
  | [], _ => rfl
  | x :: ds, h => by
    show (D.eqv x x && D.eqvs ds ds) = true
    rw [h x List.mem_cons_self, eqvs_refl ds fun y m => h y (List.mem_cons_of_mem _ m)]
    rfl
theorem eqv_refl : ∀ (n : Nat) (d : D), d.plain n = true → d.eqv d = true
  | _, .non, _ => rfl
  | _, .bl b, _ => by show (b == b) = true; simp
  | _, .int i, _ => by show (i == i) = true; simp
  | _, .str s, _ => by show (s == s) = true; simp
  | n + 1, .tup ds, h => eqvs_refl ds fun x m => eqv_refl n x (List.all_eq_true.mp h x m)
  | n + 1, .lst ds, h => eqvs_refl ds fun x m => eqv_refl n x (List.all_eq_true.mp h x m)
  | 0, .tup _, h => by cases h
  | 0, .lst _, h => by cases h
  | 0, .kl _, h => by cases h
  | 0, .dct _, h => by cases h
  | 0, .ins _ _, h => by cases h
  | 0, .ref _, h => by cases h
  | _ + 1, .kl _, h => by cases h
  | _ + 1, .dct _, h => by cases h
  | _ + 1, .ins _ _, h => by cases h
  | _ + 1, .ref _, h => by cases h
theorem pEq_refl {d : D} (h : d.plain 60 = true) : pEq d d = some true := by rw [pEq_of h h, eqv_refl 60 d h]
theorem plain_prs (l : List (Nat × List Nat)) : (D.lst (l.map pr)).plain 60 = true := by
  show (l.map pr).all (D.plain 59) = true
  rw [List.all_map, List.all_eq_true]
  intro p _
  rfl
theorem pEq_prs (l : List (Nat × List Nat)) : pEq (.lst (l.map pr)) (.lst (l.map pr)) = some true := pEq_refl (plain_prs l)
theorem grp_flat (t : List Nat) : ∀ (n : Nat) (l : List Nat), l.length ≤ n → ((grp t l).map fun p => p.2).flatten = l
  | 0, l, h => by
    have : l = [] := List.length_eq_zero_iff.mp (by omega)
    subst this
    rfl
  | n + 1, [], h => rfl
  | n + 1, c :: l, h => by
    rw [grp_cons, List.map_cons, List.flatten_cons, grp_flat t n _ (by have := rem_le t (keyOf t c) l; simp only [List.length_cons] at h; omega)]
    show c :: (rst t (keyOf t c) l ++ rem t (keyOf t c) l) = c :: l
    congr 1
    exact List.takeWhile_append_dropWhile
def Adj : List (Nat × List Nat) → Prop
  | p :: q :: l => p.1 ≠ q.1 ∧ Adj (q :: l)
  | _ => True
theorem adj_get : ∀ (l : List (Nat × List Nat)), Adj l → ∀ i (h : i + 1 < l.length), l[i].1 ≠ l[i + 1].1
  | [], _, i, h => by simp at h
  | [p], _, i, h => by simp at h
  | p :: q :: l, ha, 0, h => ha.1
  | p :: q :: l, ha, i + 1, h => adj_get (q :: l) ha.2 i (by simpa using h)
theorem grp_adj (t : List Nat) : ∀ (n : Nat) (l : List Nat), l.length ≤ n → Adj (grp t l)
  | 0, l, h => by
    have : l = [] := List.length_eq_zero_iff.mp (by omega)
    subst this
    trivial
  | n + 1, [], h => trivial
  | n + 1, c :: l, h => by
    have ih := grp_adj t n (rem t (keyOf t c) l) (by have := rem_le t (keyOf t c) l; simp only [List.length_cons] at h; omega)
    rw [grp_cons]
    cases e : rem t (keyOf t c) l with
    | nil => trivial
    | cons d m =>
      rw [e, grp_cons] at ih
      rw [grp_cons]
      refine ⟨?_, ih⟩
      have hd := List.head_dropWhile_not (p := fun c' => decide (keyOf t c' = keyOf t c)) (l := l) (w := by
        show rem t (keyOf t c) l ≠ []
        rw [e]; simp)
      have hh : (rem t (keyOf t c) l).head (by rw [e]; simp) = d := by simp [e]
      have hd' : decide (keyOf t ((rem t (keyOf t c) l).head (by rw [e]; simp)) = keyOf t c) = false := hd
      rw [hh] at hd'
      simp at hd'
      exact fun z => hd' z.symm
end My

set_option Elab.async false
set_option linter.all false
set_option maxRecDepth 100000
/-! S22: what is read of groups. -/
namespace My
/-- what a reading reads of a group -/
def Rd.read : Rd → Nat → List Nat → Bool → List Nat
  | .items, _, xs, _ => xs
  | .count, _, xs, _ => xs.map fun _ => 43
  | .first n, _, xs, _ => xs.take n
  | .last, _, xs, _ => xs.drop (xs.length - 1)
  | .late, _, xs, l => if l then [] else xs
  | .only ks r, g, xs, l => if g ∈ ks then r.read g xs l else []
  | .within t r, _, xs, l => ((grp t xs).map fun p => 40 :: p.1 :: (r.read p.1 p.2 l ++ [41])).flatten
def Rd.part (r : Rd) (l : Bool) (p : Nat × List Nat) : List Nat := 40 :: p.1 :: (r.read p.1 p.2 l ++ [41])
def Rd.shown (r : Rd) (l : Bool) (gs : List (Nat × List Nat)) : List Nat := (gs.map (r.part l)).flatten
theorem read_within (t : List Nat) (r : Rd) (g : Nat) (xs : List Nat) (l : Bool) : (Rd.within t r).read g xs l = r.shown l (grp t xs) := rfl
def tot (gs : List (Nat × List Nat)) : Nat := (gs.map fun p => p.2.length).sum
/-- groups as they are: no empty one, items -/
def Gps (gs : List (Nat × List Nat)) : Prop := ∀ p ∈ gs, p.2 ≠ [] ∧ ∀ c ∈ p.2, c ∈ ABC
theorem grp_ne (t : List Nat) : ∀ (n : Nat) (l : List Nat), l.length ≤ n → ∀ p ∈ grp t l, p.2 ≠ []
  | 0, l, h, p, m => by
    have : l = [] := List.length_eq_zero_iff.mp (by omega)
    subst this
    simp [grp] at m
  | n + 1, [], h, p, m => by simp [grp] at m
  | n + 1, c :: l, h, p, m => by
    rw [grp_cons, List.mem_cons] at m
    rcases m with rfl | m
    · simp
    · exact grp_ne t n _ (by have := rem_le t (keyOf t c) l; simp only [List.length_cons] at h; omega) p m
theorem grp_mem (t : List Nat) (l : List Nat) {p : Nat × List Nat} (m : p ∈ grp t l) {c : Nat} (hc : c ∈ p.2) : c ∈ l := by
  have := grp_flat t _ l (Nat.le_refl _)
  rw [← this]
  exact List.mem_flatten.mpr ⟨p.2, List.mem_map.mpr ⟨p, m, rfl⟩, hc⟩
theorem grp_gps (t : List Nat) {l : List Nat} (h : ∀ c ∈ l, c ∈ ABC) : Gps (grp t l) := fun p m => ⟨grp_ne t _ l (Nat.le_refl _) p m, fun c hc => h c (grp_mem t l m hc)⟩
theorem grp_tot (t l : List Nat) : tot (grp t l) = l.length := grp_sum t _ l (Nat.le_refl _)
theorem len_le_tot : ∀ {gs : List (Nat × List Nat)}, Gps gs → gs.length ≤ tot gs
  | [], _ => Nat.le_refl _
  | p :: gs, h => by
    have h1 := len_le_tot (gs := gs) fun q m => h q (List.mem_cons_of_mem _ m)
    have h2 := (h p List.mem_cons_self).1
    have h3 : 0 < p.2.length := List.length_pos_iff.mpr h2
    unfold tot at h1 ⊢
    simp only [List.length_cons, List.map_cons, List.sum_cons]
    omega
theorem mem_le_tot : ∀ {gs : List (Nat × List Nat)} {p : Nat × List Nat}, p ∈ gs → p.2.length ≤ tot gs
  | q :: gs, p, m => by
    unfold tot
    simp only [List.map_cons, List.sum_cons]
    rcases List.mem_cons.mp m with rfl | m
    · omega
    · have := mem_le_tot m
      unfold tot at this
      omega
theorem shown_len {r : Rd} {l : Bool} {m : Nat} (H : ∀ g xs, (r.read g xs l).length ≤ m * xs.length) : ∀ {gs : List (Nat × List Nat)}, Gps gs → ((gs.map (r.part l)).map List.length).sum ≤ (m + 3) * tot gs
  | [], _ => by simp
  | p :: gs, h => by
    have h1 := shown_len H (gs := gs) fun q m => h q (List.mem_cons_of_mem _ m)
    have h3 : 0 < p.2.length := List.length_pos_iff.mpr (h p List.mem_cons_self).1
    have h4 := H p.1 p.2
    unfold tot at h1 ⊢
    simp only [List.map_cons, List.sum_cons]
    have e : (r.part l p).length = (r.read p.1 p.2 l).length + 3 := by simp [Rd.part]
    rw [e, Nat.mul_add, Nat.add_mul m 3 p.2.length]
    omega
theorem read_len (l : Bool) : ∀ (r : Rd) (g : Nat) (xs : List Nat), (r.read g xs l).length ≤ (1 + 3 * r.dep) * xs.length := by
  have key : ∀ (r : Rd) (g : Nat) (xs : List Nat), (r.read g xs l).length ≤ (1 + 3 * r.dep) * xs.length := by
    intro r
    induction r with
    | items => intro g xs; simp [Rd.read, Rd.dep]
    | count => intro g xs; simp [Rd.read, Rd.dep]
    | first n => intro g xs; simp [Rd.read, Rd.dep]; omega
    | last => intro g xs; simp [Rd.read, Rd.dep]
    | late => intro g xs; simp only [Rd.read, Rd.dep]; split <;> simp
    | only ks r ih =>
      intro g xs
      simp only [Rd.read, Rd.dep]
      split
      · exact Nat.le_trans (ih g xs) (Nat.mul_le_mul_right _ (by omega))
      · simp
    | within t r ih =>
      intro g xs
      rw [read_within]
      unfold Rd.shown
      rw [List.length_flatten]
      have ne : ∀ p ∈ grp t xs, p.2 ≠ [] := grp_ne t _ xs (Nat.le_refl _)
      have q : ∀ gs : List (Nat × List Nat), (∀ p ∈ gs, p.2 ≠ []) → ((gs.map (r.part l)).map List.length).sum ≤ (1 + 3 * r.dep + 3) * tot gs := by
        intro gs
        induction gs with
        | nil => intro _; simp
        | cons p gs ih2 =>
          intro h
          have h1 := ih2 fun q m => h q (List.mem_cons_of_mem _ m)
          have h3 : 0 < p.2.length := List.length_pos_iff.mpr (h p List.mem_cons_self)
          have h4 := ih p.1 p.2
          unfold tot at h1 ⊢
          simp only [List.map_cons, List.sum_cons]
          have e : (r.part l p).length = (r.read p.1 p.2 l).length + 3 := by simp [Rd.part]
          rw [e, Nat.mul_add, Nat.add_mul (1 + 3 * r.dep) 3 p.2.length]
          omega
      have := q _ ne
      rw [grp_tot] at this
      refine Nat.le_trans this (Nat.mul_le_mul_right _ ?_)
      simp only [Rd.dep]
      omega
  exact key
section
variable {k : Nat} {w : Wd}
theorem dCut_neg1 (s : List Nat) : dCut (.str s) (some (-1)) none = some (.v (.str (s.drop (s.length - 1)))) := by
  have e : sIx s.length 0 (some (-1)) = s.length - 1 := by unfold sIx; simp; omega
  show some (Rv.v (.str (cut s _ _))) = _
  unfold cut
  rw [e]
  congr 3
  have : sIx s.length s.length none = s.length := rfl
  rw [this, List.take_of_length_le (by simp)]
theorem dCut_lenm1 (s : List Nat) : dCut (.str s) (some ((s.length : Int) - 1)) none = some (.v (.str (s.drop (s.length - 1)))) := by
  cases s with
  | nil => rfl
  | cons a s =>
    have : (((a :: s).length : Int) - 1) = ((s.length : Nat) : Int) := by simp
    rw [this, dCut_strLo]
    simp
theorem dOp_mulS {n : Nat} (h : n ≤ lim) : dOp .mul (.str [43]) (.int n) = some (.v (.str (List.replicate n 43))) := by
  have h1 : (if 0 ≤ (n : Int) ∧ (n : Int) < 2 ^ 62 ∧ [43].length * (n : Int).toNat ≤ lim then some (Rv.v (.str (List.replicate (n : Int).toNat [43]).flatten)) else none) = some (.v (.str (List.replicate n 43))) := by
    rw [if_pos ⟨by omega, by rw [lim_eq] at h; omega, by simpa using h⟩]
    congr 3
    rw [Int.toNat_natCast]
    clear h
    induction n with
    | zero => rfl
    | succ n ih => rw [List.replicate_succ, List.flatten_cons, ih]; rfl
  exact h1
theorem is_named_ok (ks : List Nat) (r : Rd) (g : Nat) : den PG (k + 2) f.is_named [(Rd.only ks r).d, .str [g]] w = .ok (.v (.bl (decide (g ∈ ks)))) w := by
  rw [run_is_named]
  simp [b_is_named, Rd.d]
def ReadOk (r : Rd) : Prop := ∀ (k : Nat) (w : Wd) (g : Nat) (xs : List Nat) (l : Bool), (∀ c ∈ xs, c ∈ ABC) → (4 + 3 * r.dep) * xs.length < lim → den PG (k + 2 * r.dep + 4) f.read_group [r.d, .str [g], .str xs, .bl l] w = .ok (.v (.str (r.read g xs l))) w
theorem parts_of_ok {r : Rd} (H : ReadOk r) (l : Bool) {gs : List (Nat × List Nat)} (hg : Gps gs) (hl : (4 + 3 * r.dep) * tot gs < lim) :
    den PG (k + 2 * r.dep + 5) f.parts_of_running [r.d, .lst (gs.map pr), .bl l] w = .ok (.v (.str (r.shown l gs))) w := by
  rw [run_parts_of_running]
  have h4 : 4 * tot gs ≤ (4 + 3 * r.dep) * tot gs := Nat.mul_le_mul_right _ (by omega)
  have hgl := len_le_tot hg
  have e : kLc (PG.gx (den PG (k + 2 * r.dep + 4))) (.tp [3, 4]) .no e_parts_of_running_1 [.v r.d, .v (.lst (gs.map pr)), .v (.bl l), .u, .u] (gs.map pr) w = .ok (.o (.lst (gs.map fun p => .str (r.part l p)))) w :=
    kLc_map (i := pr) (by omega) fun p m => by
      have hp := mem_le_tot m
      have h1 : (4 + 3 * r.dep) * p.2.length ≤ (4 + 3 * r.dep) * tot gs := Nat.mul_le_mul_left _ hp
      have e1 := H k w p.1 p.2 l (hg p m).2 (by omega)
      have e2 := read_len l r p.1 p.2
      have h3 : 0 < p.2.length := List.length_pos_iff.mpr (hg p m).1
      have h5 : (1 + 3 * r.dep) * p.2.length + 3 * p.2.length = (4 + 3 * r.dep) * p.2.length := by rw [← Nat.add_mul]; congr 1; omega
      have a1 : dOp .add (.str [40]) (.str [p.1]) = some (.v (.str [40, p.1])) := dOp_addS (by rw [lim_eq]; simp)
      have a2 : dOp .add (.str [40, p.1]) (.str (r.read p.1 p.2 l)) = some (.v (.str ([40, p.1] ++ r.read p.1 p.2 l))) := dOp_addS (by simp; omega)
      have a3 : dOp .add (.str ([40, p.1] ++ r.read p.1 p.2 l)) (.str [41]) = some (.v (.str ([40, p.1] ++ r.read p.1 p.2 l ++ [41]))) := dOp_addS (by simp; omega)
      simp only [List.cons_append, List.nil_append] at a2 a3
      simp [e_parts_of_running_1, pr, e1, a1, a2, a3, Rd.part]
  have h2 := dSm_join (r.part l) gs (by
    have := shown_len (r := r) (l := l) (m := 1 + 3 * r.dep) (read_len l r) hg
    rw [List.map_map] at this
    have e3 : 1 + 3 * r.dep + 3 = 4 + 3 * r.dep := by omega
    rw [e3] at this
    exact Nat.le_of_lt (Nat.lt_of_le_of_lt this hl))
  simp [b_parts_of_running, e, h2, Rd.shown]
theorem read_group_ok : ∀ r : Rd, r.ok = true → ReadOk r := by
  intro r
  induction r with
  | items =>
    intro _ k w g xs l hx hl
    rw [run_read_group]
    simp [b_read_group, Rd.d, Rd.read]
  | count =>
    intro _ k w g xs l hx hl
    have := dOp_mulS (n := xs.length) (by simp [Rd.dep] at hl; omega)
    rw [run_read_group]
    simp [b_read_group, Rd.d, Rd.read, this]
    exact (List.map_const' ..).symm
  | first n =>
    intro _ k w g xs l hx hl
    rw [run_read_group]
    simp [b_read_group, Rd.d, Rd.read]
  | last =>
    intro _ k w g xs l hx hl
    rw [run_read_group]
    simp [b_read_group, Rd.d, Rd.read, dCut_neg1]
  | late =>
    intro _ k w g xs l hx hl
    rw [run_read_group]
    cases l <;> simp [b_read_group, Rd.d, Rd.read]
  | only ks r ih =>
    intro ho k w g xs l hx hl
    simp only [Rd.ok, Bool.and_eq_true] at ho
    have e1 := is_named_ok (k := k + 2 * (Rd.only ks r).dep + 1) (w := w) ks r g
    have hd : (Rd.only ks r).dep = r.dep + 1 := rfl
    have hl2 : (4 + 3 * r.dep) * xs.length < lim := Nat.lt_of_le_of_lt (Nat.mul_le_mul_right _ (by rw [hd]; omega)) hl
    have e2 := ih ho.2 (k + 1) w g xs l hx hl2
    have hk : k + 2 * (Rd.only ks r).dep + 3 = k + 1 + 2 * r.dep + 4 := by rw [hd]; omega
    rw [run_read_group]
    have e1' : den PG (k + 2 * (Rd.only ks r).dep + 3) f.is_named [.tup [.str [111, 110, 108, 121], .str ks, r.d], .str [g]] w = .ok (.v (.bl (decide (g ∈ ks)))) w := e1
    rw [← hk] at e2
    by_cases hg : g ∈ ks
    · cases l <;> simp [b_read_group, Rd.d, Rd.read, e1', e2, hg]
    · cases l <;> simp [b_read_group, Rd.d, Rd.read, e1', hg]
  | within t r ih =>
    intro ho k w g xs l hx hl
    simp only [Rd.ok, Bool.and_eq_true] at ho
    have ht6 : t.length = 6 := by have := ho.1; unfold isTable at this; simp at this; exact this.2
    have hd : (Rd.within t r).dep = r.dep + 1 := rfl
    have hl2 : (4 + 3 * r.dep) * xs.length < lim := Nat.lt_of_le_of_lt (Nat.mul_le_mul_right _ (by rw [hd]; omega)) hl
    have h4 : 4 * xs.length ≤ (4 + 3 * r.dep) * xs.length := Nat.mul_le_mul_right _ (by omega)
    have e1 := neighbours_ok (k := k + 2 * (Rd.within t r).dep) (w := w) ht6 hx (by omega)
    have e2 := parts_of_ok (k := k) (w := w) (ih ho.2) l (grp_gps t hx) (by rw [grp_tot]; exact hl2)
    have hk : k + 2 * (Rd.within t r).dep + 3 = k + 2 * r.dep + 5 := by rw [hd]; omega
    rw [← hk] at e2
    rw [run_read_group, read_within]
    cases l <;> simp [b_read_group, Rd.d, e1, e2]
/-! the laws' own -/
def LReadOk (r : Rd) : Prop := ∀ (k : Nat) (w : Wd) (g : Nat) (xs : List Nat) (l : Bool), (∀ c ∈ xs, c ∈ ABC) → (4 + 3 * r.dep) * xs.length < lim → den PG (k + 2 * r.dep + 4) f._law_read [r.d, .str [g], .str xs, .bl l] w = .ok (.v (.str (r.read g xs l))) w
theorem shown_go {r : Rd} (H : LReadOk r) (l : Bool) (a1 : Slot) : ∀ (gs : List (Nat × List Nat)) (acc : List Nat) (j4 j5 : Slot), Gps gs → acc.length + (4 + 3 * r.dep) * tot gs < lim →
    ∃ j4' j5', forGo (.tp [4, 5]) (evSs (PG.gx (den PG (k + 2 * r.dep + 4))) l__law_shown_1) (gs.map pr) [.v r.d, a1, .v (.bl l), .v (.str acc), j4, j5] w = .nx [.v r.d, a1, .v (.bl l), .v (.str (acc ++ r.shown l gs)), j4', j5'] w
  | [], acc, j4, j5, hg, hl => ⟨j4, j5, by simp [Rd.shown]⟩
  | p :: gs, acc, j4, j5, hg, hl => by
    have ht : tot (p :: gs) = p.2.length + tot gs := rfl
    rw [ht, Nat.mul_add] at hl
    have hp := hg p List.mem_cons_self
    have e1 := H k w p.1 p.2 l hp.2 (by omega)
    have e2 := read_len l r p.1 p.2
    have h3 : 0 < p.2.length := List.length_pos_iff.mpr hp.1
    have h5 : (1 + 3 * r.dep) * p.2.length + 3 * p.2.length = (4 + 3 * r.dep) * p.2.length := by rw [← Nat.add_mul]; congr 1; omega
    have a1' : dOp .add (.str acc) (.str [40]) = some (.v (.str (acc ++ [40]))) := dOp_addS (by simp; omega)
    have a2 : dOp .add (.str (acc ++ [40])) (.str [p.1]) = some (.v (.str (acc ++ [40] ++ [p.1]))) := dOp_addS (by simp; omega)
    have a3 : dOp .add (.str (acc ++ [40] ++ [p.1])) (.str (r.read p.1 p.2 l)) = some (.v (.str (acc ++ [40] ++ [p.1] ++ r.read p.1 p.2 l))) := dOp_addS (by simp; omega)
    have a4 : dOp .add (.str (acc ++ [40] ++ [p.1] ++ r.read p.1 p.2 l)) (.str [41]) = some (.v (.str (acc ++ [40] ++ [p.1] ++ r.read p.1 p.2 l ++ [41]))) := dOp_addS (by simp; omega)
    have e3 : acc ++ [40] ++ [p.1] ++ r.read p.1 p.2 l ++ [41] = acc ++ r.part l p := by simp [Rd.part]
    have step : evSs (PG.gx (den PG (k + 2 * r.dep + 4))) l__law_shown_1 [.v r.d, a1, .v (.bl l), .v (.str acc), .v (.str [p.1]), .v (.str p.2)] w = .nx [.v r.d, a1, .v (.bl l), .v (.str (acc ++ r.part l p)), .v (.str [p.1]), .v (.str p.2)] w := by
      rw [← e3]
      simp only [l__law_shown_1, evSs_cons, evSs_nil, evS_asg, ev_op, eB_op, eB_var, eB_cst, eB_call, ev_call, evs_cons, evs_nil, ev_var, List.getElem?_cons_succ, List.getElem?_cons_zero, rdB_v, rdV_v, rdv_ok, rvd_v, rbd_ok, rst_ok, kOp_eq, kOp2_eq, kEs_eq, kEs2_eq, kCall_eq, deref_str, oR_some, kAsg_eq, a1', a2, e1, a3, a4, List.set_cons_succ, List.set_cons_zero, sq_nx]
    obtain ⟨j4', j5', q⟩ := shown_go H l a1 gs (acc ++ r.part l p) (.v (.str [p.1])) (.v (.str p.2)) (fun q m => hg q (List.mem_cons_of_mem _ m)) (by simp [Rd.part]; omega)
    refine ⟨j4', j5', ?_⟩
    rw [List.map_cons, forGo_step rfl step, q]
    simp [Rd.shown]
theorem law_shown_ok {r : Rd} (H : LReadOk r) (l : Bool) {gs : List (Nat × List Nat)} (hg : Gps gs) (hl : (4 + 3 * r.dep) * tot gs < lim) :
    den PG (k + 2 * r.dep + 5) f._law_shown [r.d, .lst (gs.map pr), .bl l] w = .ok (.v (.str (r.shown l gs))) w := by
  rw [run__law_shown]
  obtain ⟨j4, j5, q⟩ := shown_go (k := k) (w := w) H l (.v (.lst (gs.map pr))) gs [] .u .u hg (by simpa using hl)
  rw [List.nil_append] at q
  simp [b__law_shown, q]
theorem law_read_ok : ∀ r : Rd, r.ok = true → LReadOk r := by
  intro r
  induction r with
  | items =>
    intro _ k w g xs l hx hl
    rw [run__law_read]
    simp [b__law_read, Rd.d, Rd.read]
  | count =>
    intro _ k w g xs l hx hl
    have hle : xs.length ≤ lim := by simp [Rd.dep] at hl; omega
    have e : ∀ ρ : Env, kLc (PG.gx (den PG (k + 2 * Rd.count.dep + 3))) (.nm 5) .no e__law_read_1 ρ (xs.map fun c => .str [c]) w = .ok (.o (.lst (xs.map fun _ => .str [43]))) w := fun ρ =>
      kLc_map hle fun c _ => by simp [e__law_read_1]
    have h2 := dSm_joinC (fun _ => 43) xs hle
    rw [run__law_read]
    simp [b__law_read, Rd.d, Rd.read, e, h2]
  | first n =>
    intro _ k w g xs l hx hl
    rw [run__law_read]
    simp [b__law_read, Rd.d, Rd.read]
  | last =>
    intro _ k w g xs l hx hl
    rw [run__law_read]
    simp [b__law_read, Rd.d, Rd.read, dCut_lenm1]
  | late =>
    intro _ k w g xs l hx hl
    rw [run__law_read]
    cases l <;> simp [b__law_read, Rd.d, Rd.read]
  | only ks r ih =>
    intro ho k w g xs l hx hl
    simp only [Rd.ok, Bool.and_eq_true] at ho
    have hd : (Rd.only ks r).dep = r.dep + 1 := rfl
    have hl2 : (4 + 3 * r.dep) * xs.length < lim := Nat.lt_of_le_of_lt (Nat.mul_le_mul_right _ (by rw [hd]; omega)) hl
    have e2 := ih ho.2 (k + 1) w g xs l hx hl2
    have hk : k + 2 * (Rd.only ks r).dep + 3 = k + 1 + 2 * r.dep + 4 := by rw [hd]; omega
    rw [← hk] at e2
    rw [run__law_read]
    by_cases hg : g ∈ ks
    · cases l <;> simp [b__law_read, Rd.d, Rd.read, e2, hg]
    · cases l <;> simp [b__law_read, Rd.d, Rd.read, hg]
  | within t r ih =>
    intro ho k w g xs l hx hl
    simp only [Rd.ok, Bool.and_eq_true] at ho
    have ht6 : t.length = 6 := by have := ho.1; unfold isTable at this; simp at this; exact this.2
    have hd : (Rd.within t r).dep = r.dep + 1 := rfl
    have hl2 : (4 + 3 * r.dep) * xs.length < lim := Nat.lt_of_le_of_lt (Nat.mul_le_mul_right _ (by rw [hd]; omega)) hl
    have h4 : 4 * xs.length ≤ (4 + 3 * r.dep) * xs.length := Nat.mul_le_mul_right _ (by omega)
    have e1 := law_groups_ok (k := k + 2 * (Rd.within t r).dep + 1) (w := w) (t := t) (keeps := ABC) (turns := ABC) (drops := []) (r := .non) ht6 rfl (fun c m => m) xs hx (by omega)
    have e3 : gs t ABC ABC [] xs = grp t xs := by unfold gs; rw [gkeep_id t xs hx]
    rw [e3] at e1
    have e1' : den PG (k + 2 * (Rd.within t r).dep + 3) f._law_groups [.lst [.str t, .non, .str ABC, .str ABC, .str []], .str xs] w = .ok (.o (.lst ((grp t xs).map pr))) w := e1
    have e2 := law_shown_ok (k := k) (w := w) (ih ho.2) l (grp_gps t hx) (by rw [grp_tot]; exact hl2)
    have hk : k + 2 * (Rd.within t r).dep + 3 = k + 2 * r.dep + 5 := by rw [hd]; omega
    rw [← hk] at e2
    rw [run__law_read, read_within]
    cases l <;> simp [b__law_read, Rd.d, e1', e2]
end
end My

set_option Elab.async false
set_option linter.all false
set_option maxRecDepth 100000
/-! S23: groups of the whole; answers. -/
namespace My
def wadd (acc : List (Nat × List Nat)) (g : Nat) (xs : List Nat) : List (Nat × List Nat) :=
  if acc.any fun p => decide (p.1 = g) then acc.map fun p => if p.1 = g then (g, p.2 ++ xs) else p else acc ++ [(g, xs)]
def wget : List (Nat × List Nat) → Nat → Option (List Nat)
  | [], _ => none
  | p :: acc, g => if p.1 = g then some p.2 else wget acc g
theorem wget_cons (p : Nat × List Nat) (acc : List (Nat × List Nat)) (g : Nat) : wget (p :: acc) g = if p.1 = g then some p.2 else wget acc g := rfl
/-- the groups of the whole list -/
def wh (gs : List (Nat × List Nat)) : List (Nat × List Nat) := gs.foldl (fun a p => wadd a p.1 p.2) []
def kv (p : Nat × List Nat) : D × D := (.str [p.1], .str p.2)
abbrev Nd (acc : List (Nat × List Nat)) : Prop := (acc.map Prod.fst).Nodup
theorem eqv_s1 (a b : Nat) : D.eqv (.str [a]) (.str [b]) = decide (a = b) := by
  rw [eqv_strs]
  simp
theorem lookD_kv : ∀ (acc : List (Nat × List Nat)) (g : Nat), lookD (acc.map kv) (.str [g]) = (wget acc g).map D.str
  | [], g => rfl
  | p :: acc, g => by
    show (if D.eqv (.str [p.1]) (.str [g]) then some (D.str p.2) else lookD (acc.map kv) (.str [g])) = _
    rw [eqv_s1, lookD_kv acc g, wget_cons]
    by_cases h : p.1 = g <;> simp [h]
theorem any_kv (acc : List (Nat × List Nat)) (g : Nat) : ((acc.map kv).any fun q => q.1.eqv (.str [g])) = acc.any fun p => decide (p.1 = g) := by
  induction acc with
  | nil => rfl
  | cons p acc ih =>
    rw [List.map_cons, List.any_cons, List.any_cons, ih]
    congr 1
    exact eqv_s1 _ _
theorem wget_any (acc : List (Nat × List Nat)) (g : Nat) : (wget acc g).isSome = acc.any fun p => decide (p.1 = g) := by
  induction acc with
  | nil => rfl
  | cons p acc ih =>
    unfold wget
    by_cases h : p.1 = g
    · simp [h]
    · simp [h, ih]
theorem wget_of : ∀ {acc : List (Nat × List Nat)}, Nd acc → ∀ {p : Nat × List Nat}, p ∈ acc → wget acc p.1 = some p.2
  | q :: acc, hn, p, m => by
    have hn' : q.1 ∉ acc.map Prod.fst ∧ Nd acc := by simpa [Nd] using hn
    unfold wget
    rcases List.mem_cons.mp m with rfl | m
    · simp
    · have : q.1 ≠ p.1 := fun e => hn'.1 (e ▸ List.mem_map.mpr ⟨p, m, rfl⟩)
      rw [if_neg this]
      exact wget_of hn'.2 m
theorem wadd_fst (acc : List (Nat × List Nat)) (g : Nat) (xs : List Nat) : (wadd acc g xs).map Prod.fst = if acc.any fun p => decide (p.1 = g) then acc.map Prod.fst else acc.map Prod.fst ++ [g] := by
  unfold wadd
  split
  · rw [List.map_map]
    refine List.map_congr_left fun p _ => ?_
    show (if p.1 = g then (g, p.2 ++ xs) else p).1 = p.1
    split <;> simp_all
  · simp
theorem wadd_nd {acc : List (Nat × List Nat)} (h : Nd acc) (g : Nat) (xs : List Nat) : Nd (wadd acc g xs) := by
  show ((wadd acc g xs).map Prod.fst).Nodup
  rw [wadd_fst]
  split
  · exact h
  · rename_i hz
    have hg : g ∉ acc.map Prod.fst := fun m => by
      obtain ⟨p, m, e⟩ := List.mem_map.mp m
      exact hz (List.any_eq_true.mpr ⟨p, m, by simpa using e⟩)
    rw [List.nodup_append]
    refine ⟨h, by simp, fun a ha b hb => ?_⟩
    rw [List.mem_singleton] at hb
    subst hb
    exact fun e => hg (e ▸ ha)
theorem put_kv {acc : List (Nat × List Nat)} (h : Nd acc) (g : Nat) (xs : List Nat) : putD (acc.map kv) (.str [g]) (.str ((wget acc g).getD [] ++ xs)) = (wadd acc g xs).map kv := by
  unfold putD wadd
  rw [any_kv]
  by_cases hz : (acc.any fun p => decide (p.1 = g)) = true
  · rw [if_pos hz, if_pos hz, List.map_map, List.map_map]
    refine List.map_congr_left fun p m => ?_
    show (if D.eqv (.str [p.1]) (.str [g]) = true then (D.str [p.1], D.str ((wget acc g).getD [] ++ xs)) else kv p) = kv (if p.1 = g then (g, p.2 ++ xs) else p)
    rw [eqv_s1]
    by_cases e : p.1 = g
    · subst e
      rw [wget_of h m]
      simp [kv]
    · simp [e, kv]
  · rw [if_neg hz, if_neg hz]
    have : wget acc g = none := by
      have := wget_any acc g
      rw [Bool.eq_false_iff.mpr hz] at this
      simpa using this
    rw [this]
    simp [kv]
theorem wadd_len (acc : List (Nat × List Nat)) (g : Nat) (xs : List Nat) : (wadd acc g xs).length ≤ acc.length + 1 := by
  unfold wadd
  split <;> simp
theorem wget_le : ∀ (acc : List (Nat × List Nat)) (g : Nat), ((wget acc g).getD []).length ≤ tot acc
  | [], g => by simp [wget]
  | p :: acc, g => by
    have := wget_le acc g
    rw [wget_cons]
    have e : tot (p :: acc) = p.2.length + tot acc := rfl
    rw [e]
    split
    · simp
    · omega
theorem wadd_tot {acc : List (Nat × List Nat)} (h : Nd acc) (g : Nat) (xs : List Nat) : tot (wadd acc g xs) = tot acc + xs.length := by
  unfold wadd
  split
  · rename_i hz
    induction acc with
    | nil => simp at hz
    | cons p acc ih =>
      have hn' : p.1 ∉ acc.map Prod.fst ∧ Nd acc := by simpa [Nd] using h
      by_cases e : p.1 = g
      · have : (acc.map fun q => if q.1 = g then (g, q.2 ++ xs) else q) = acc := by
          conv => rhs; rw [← List.map_id acc]
          refine List.map_congr_left fun q m => ?_
          have : q.1 ≠ g := fun e2 => hn'.1 (by rw [e, ← e2]; exact List.mem_map.mpr ⟨q, m, rfl⟩)
          simp [this]
        rw [List.map_cons, if_pos e, this]
        unfold tot
        simp only [List.map_cons, List.sum_cons, List.length_append]
        omega
      · have hz' : (acc.any fun p => decide (p.1 = g)) = true := by simpa [e] using hz
        have := ih hn'.2 hz'
        rw [List.map_cons, if_neg e]
        unfold tot at this ⊢
        simp only [List.map_cons, List.sum_cons] at this ⊢
        omega
  · unfold tot
    simp
theorem wadd_gps {acc : List (Nat × List Nat)} (h : Gps acc) {g : Nat} {xs : List Nat} (hx : xs ≠ [] ∧ ∀ c ∈ xs, c ∈ ABC) : Gps (wadd acc g xs) := by
  intro p m
  unfold wadd at m
  split at m
  · obtain ⟨q, mq, e⟩ := List.mem_map.mp m
    have hq := h q mq
    split at e
    · subst e
      exact ⟨by simp [hx.1], fun c hc => by
        rcases List.mem_append.mp hc with z | z
        · exact hq.2 c z
        · exact hx.2 c z⟩
    · subst e; exact hq
  · rcases List.mem_append.mp m with z | z
    · exact h p z
    · rw [List.mem_singleton] at z
      subst z
      exact hx
theorem wfold : ∀ (gs acc : List (Nat × List Nat)), Nd acc → Gps acc → Gps gs → Nd (gs.foldl (fun a p => wadd a p.1 p.2) acc) ∧ Gps (gs.foldl (fun a p => wadd a p.1 p.2) acc) ∧ tot (gs.foldl (fun a p => wadd a p.1 p.2) acc) = tot acc + tot gs
  | [], acc, h1, h2, h3 => ⟨h1, h2, rfl⟩
  | p :: gs, acc, h1, h2, h3 => by
    obtain ⟨a, b, c⟩ := wfold gs (wadd acc p.1 p.2) (wadd_nd h1 _ _) (wadd_gps h2 (h3 p List.mem_cons_self)) fun q m => h3 q (List.mem_cons_of_mem _ m)
    refine ⟨a, b, ?_⟩
    rw [List.foldl_cons, c, wadd_tot h1]
    have : tot (p :: gs) = p.2.length + tot gs := rfl
    rw [this]
    omega
theorem wh_ok {gs : List (Nat × List Nat)} (h : Gps gs) : Nd (wh gs) ∧ Gps (wh gs) ∧ tot (wh gs) = tot gs := by
  obtain ⟨a, b, c⟩ := wfold gs [] (by simp [Nd]) (fun p m => by simp at m) h
  exact ⟨a, b, by rw [show wh gs = gs.foldl (fun a p => wadd a p.1 p.2) [] from rfl, c]; simp [tot]⟩
theorem gps_abc {gs : List (Nat × List Nat)} (h : Gps gs) : gs.length ≤ tot gs := len_le_tot h
section
variable {k : Nat} {w : Wd}
theorem okK_kv (acc : List (Nat × List Nat)) (h : ∀ p ∈ acc, p.1 < 1000) : ((acc.map kv).all fun p => okK p.1) = true := by
  rw [List.all_eq_true]
  intro q m
  obtain ⟨p, mp, rfl⟩ := List.mem_map.mp m
  have := h p mp
  show ((([p.1] : List Nat).all fun c => decide (c < 0x110000)) && decide (([p.1] : List Nat).length ≤ lim)) = true
  rw [lim_eq]
  simp
  omega
theorem dGet_kv (acc : List (Nat × List Nat)) (g : Nat) : dGetD (.dct (acc.map kv)) (.str [g]) (.str []) = some (.str ((wget acc g).getD [])) := by
  show (if keyOk (.str [g]) then some ((lookD (acc.map kv) (.str [g])).getD (.str [])) else none) = _
  rw [lookD_kv]
  cases wget acc g <;> rfl
theorem dIdx_kv {acc : List (Nat × List Nat)} {g : Nat} {xs : List Nat} (h : wget acc g = some xs) : dIdx (.dct (acc.map kv)) (.str [g]) = some (.str xs) := by
  show (if keyOk (.str [g]) then lookD (acc.map kv) (.str [g]) else none) = _
  rw [lookD_kv, h]
  rfl
theorem dIn_kv (acc : List (Nat × List Nat)) (g : Nat) : dIn (.str [g]) (.dct (acc.map kv)) = some (wget acc g).isSome := by
  show (if keyOk (.str [g]) then some (lookD (acc.map kv) (.str [g])).isSome else none) = _
  rw [lookD_kv]
  cases wget acc g <;> rfl
theorem stO_kv {acc : List (Nat × List Nat)} (h : Nd acc) (hl : acc.length < lim) (g : Nat) (xs : List Nat) : stO (.dct (acc.map kv)) (.str [g]) (.str ((wget acc g).getD [] ++ xs)) = some (.dct ((wadd acc g xs).map kv)) := by
  show (if keyOk (.str [g]) ∧ (acc.map kv).length < lim then some (Own.dct (putD (acc.map kv) (.str [g]) _)) else none) = _
  rw [if_pos ⟨rfl, by simpa using hl⟩, put_kv h]
abbrev woE (a0 a1 : Slot) (acc : List (Nat × List Nat)) (j3 j4 : Slot) : Env := [a0, a1, .o (.dct (acc.map kv)), j3, j4]
theorem wo_step (G : Gx) {acc : List (Nat × List Nat)} (hn : Nd acc) (a0 a1 : Slot) (g : Nat) (xs : List Nat) (h1 : acc.length < lim) (h2 : tot acc + xs.length ≤ lim) :
    evSs G l_whole_of_1 (woE a0 a1 acc (.v (.str [g])) (.v (.str xs))) w = .nx (woE a0 a1 (wadd acc g xs) (.v (.str [g])) (.v (.str xs))) w := by
  have e1 := dGet_kv acc g
  have e2 : dOp .add (.str ((wget acc g).getD [])) (.str xs) = some (.v (.str ((wget acc g).getD [] ++ xs))) := dOp_addS (by have := wget_le acc g; omega)
  have e3 := stO_kv hn h1 g xs
  have e4 : isDct (.dct (acc.map kv)) = true := rfl
  have e5 : ∀ ρ : Env, stR (.dct (acc.map kv)) (.str [g]) (.str ((wget acc g).getD [] ++ xs)) 2 ρ w = .nx (ρ.set 2 (.o (.dct ((wadd acc g xs).map kv)))) w := fun ρ => stR_of e3
  simp [l_whole_of_1, e1, e2, e4, e5]
theorem wo_loop (G : Gx) (a0 a1 : Slot) : ∀ (gs acc : List (Nat × List Nat)) (j3 j4 : Slot), Nd acc → acc.length + gs.length < lim → tot acc + tot gs ≤ lim →
    ∃ j3' j4', forGo (.tp [3, 4]) (evSs G l_whole_of_1) (gs.map pr) (woE a0 a1 acc j3 j4) w = .nx (woE a0 a1 (gs.foldl (fun a p => wadd a p.1 p.2) acc) j3' j4') w
  | [], acc, j3, j4, hn, h1, h2 => ⟨j3, j4, rfl⟩
  | p :: gs, acc, j3, j4, hn, h1, h2 => by
    have ht : tot (p :: gs) = p.2.length + tot gs := rfl
    rw [ht] at h2
    simp only [List.length_cons] at h1
    have l1 := wadd_len acc p.1 p.2
    have l2 := wadd_tot hn p.1 p.2
    obtain ⟨j3', j4', q⟩ := wo_loop G a0 a1 gs (wadd acc p.1 p.2) (.v (.str [p.1])) (.v (.str p.2)) (wadd_nd hn _ _) (by omega) (by omega)
    exact ⟨j3', j4', by rw [List.map_cons, forGo_step (ρ1 := woE a0 a1 acc (.v (.str [p.1])) (.v (.str p.2))) rfl (wo_step G hn a0 a1 p.1 p.2 (by omega) (by omega)), q]; rfl⟩
abbrev wlE (a0 a1 : Slot) (acc : List (Nat × List Nat)) (j4 j5 : Slot) : Env := [a0, a1, .o (.lst (acc.map fun p => .str [p.1])), .o (.dct (acc.map kv)), j4, j5]
theorem wl_step (G : Gx) {acc : List (Nat × List Nat)} (hn : Nd acc) (a0 a1 : Slot) (g : Nat) (xs : List Nat) (h1 : acc.length + 1 < lim) (h2 : tot acc + xs.length ≤ lim) :
    evSs G l__law_whole_1 (wlE a0 a1 acc (.v (.str [g])) (.v (.str xs))) w = .nx (wlE a0 a1 (wadd acc g xs) (.v (.str [g])) (.v (.str xs))) w := by
  have e0 := dIn_kv acc g
  cases hg : wget acc g with
  | some ys =>
    rw [hg] at e0
    have e1 := dIdx_kv hg
    have hle := wget_le acc g
    rw [hg] at hle
    have e2 : dOp .add (.str ys) (.str xs) = some (.v (.str (ys ++ xs))) := dOp_addS (by simp at hle; omega)
    have e3 := stO_kv hn (by omega) g xs
    rw [hg] at e3
    have e3' : stO (.dct (acc.map kv)) (.str [g]) (.str (ys ++ xs)) = some (.dct ((wadd acc g xs).map kv)) := e3
    have e5 : ∀ ρ : Env, stR (.dct (acc.map kv)) (.str [g]) (.str (ys ++ xs)) 3 ρ w = .nx (ρ.set 3 (.o (.dct ((wadd acc g xs).map kv)))) w := fun ρ => stR_of e3'
    have e6 : (wadd acc g xs).map (fun p => D.str [p.1]) = acc.map fun p => .str [p.1] := by
      have := congrArg (List.map fun c => D.str [c]) (wadd_fst acc g xs)
      rw [if_pos (by rw [← wget_any, hg]; rfl)] at this
      rw [List.map_map, List.map_map] at this
      exact this
    simp [l__law_whole_1, e0, e1, e2, e5, e6]
  | none =>
    rw [hg] at e0
    have e3 := stO_kv hn (by omega) g []
    rw [hg] at e3
    have e3' : stO (.dct (acc.map kv)) (.str [g]) (.str []) = some (.dct ((wadd acc g []).map kv)) := e3
    have hno : ¬ (acc.any fun p => decide (p.1 = g)) = true := by rw [← wget_any, hg]; simp
    have w0 : wadd acc g [] = acc ++ [(g, [])] := by unfold wadd; rw [if_neg hno]
    have wx : wadd acc g xs = acc ++ [(g, xs)] := by unfold wadd; rw [if_neg hno]
    have hn2 : Nd (acc ++ [(g, [])]) := by rw [← w0]; exact wadd_nd hn _ _
    have g2 : wget (acc ++ [(g, [])]) g = some [] := by
      have := wget_of hn2 (p := (g, [])) (by simp)
      exact this
    have e1 := dIdx_kv g2
    have e2 : dOp .add (.str []) (.str xs) = some (.v (.str xs)) := dOp_addS (by simp; omega)
    have e4 := stO_kv hn2 (by simp; omega) g xs
    rw [g2] at e4
    have w2 : wadd (acc ++ [(g, [])]) g xs = acc ++ [(g, xs)] := by
      have hno' : ∀ p ∈ acc, p.1 ≠ g := fun p m e => hno (List.any_eq_true.mpr ⟨p, m, by simpa using e⟩)
      unfold wadd
      rw [if_pos (by simp), List.map_append]
      congr 1
      · conv => rhs; rw [← List.map_id acc]
        exact List.map_congr_left fun p m => by simp [hno' p m]
      · simp
    rw [w2] at e4
    rw [w0] at e3'
    have e4' : stO (.dct ((acc ++ [(g, [])]).map kv)) (.str [g]) (.str xs) = some (.dct ((acc ++ [(g, xs)]).map kv)) := e4
    have e5 : ∀ ρ : Env, stR (.dct (acc.map kv)) (.str [g]) (.str []) 3 ρ w = .nx (ρ.set 3 (.o (.dct ((acc ++ [(g, [])]).map kv)))) w := fun ρ => stR_of e3'
    have e6 : ∀ ρ : Env, stR (.dct ((acc ++ [(g, [])]).map kv)) (.str [g]) (.str xs) 3 ρ w = .nx (ρ.set 3 (.o (.dct ((acc ++ [(g, xs)]).map kv)))) w := fun ρ => stR_of e4'
    have h3 : acc.length < lim := by omega
    rw [wx]
    simp only [List.map_append, List.map_cons, List.map_nil] at e1 e5 e6
    simp [l__law_whole_1, e0, evS_appK, h3, e1, e2, e5, e6]
theorem wl_loop (G : Gx) (a0 a1 : Slot) : ∀ (gs acc : List (Nat × List Nat)) (j3 j4 : Slot), Nd acc → acc.length + gs.length + 1 < lim → tot acc + tot gs ≤ lim →
    ∃ j3' j4', forGo (.tp [4, 5]) (evSs G l__law_whole_1) (gs.map pr) (wlE a0 a1 acc j3 j4) w = .nx (wlE a0 a1 (gs.foldl (fun a p => wadd a p.1 p.2) acc) j3' j4') w
  | [], acc, j3, j4, hn, h1, h2 => ⟨j3, j4, rfl⟩
  | p :: gs, acc, j3, j4, hn, h1, h2 => by
    have ht : tot (p :: gs) = p.2.length + tot gs := rfl
    rw [ht] at h2
    simp only [List.length_cons] at h1
    have l1 := wadd_len acc p.1 p.2
    have l2 := wadd_tot hn p.1 p.2
    obtain ⟨j3', j4', q⟩ := wl_loop G a0 a1 gs (wadd acc p.1 p.2) (.v (.str [p.1])) (.v (.str p.2)) (wadd_nd hn _ _) (by omega) (by omega)
    exact ⟨j3', j4', by rw [List.map_cons, forGo_step (ρ1 := wlE a0 a1 acc (.v (.str [p.1])) (.v (.str p.2))) rfl (wl_step G hn a0 a1 p.1 p.2 (by omega) (by omega)), q]; rfl⟩
end
end My

set_option Elab.async false
set_option linter.all false
set_option maxRecDepth 100000
/-! S24: answers; programs that are equal; what is refused. -/
namespace My
theorem keyOf_K03 {t : List Nat} (ht : isTable t = true) {c : Nat} (hc : c ∈ ABC) : keyOf t c ∈ K03 := by
  unfold isTable at ht
  simp only [Bool.and_eq_true, decide_eq_true_eq] at ht
  have h1 := ht.1
  unfold isOf at h1
  simp only [List.all_eq_true, decide_eq_true_eq] at h1
  exact h1 _ (keyOf_mem ht.2 hc)
theorem grp_keys {t : List Nat} (ht : isTable t = true) : ∀ (n : Nat) (l : List Nat), l.length ≤ n → (∀ c ∈ l, c ∈ ABC) → ∀ p ∈ grp t l, p.1 ∈ K03
  | 0, l, h, _, p, m => by
    have : l = [] := List.length_eq_zero_iff.mp (by omega)
    subst this
    simp [grp] at m
  | n + 1, [], h, _, p, m => by simp [grp] at m
  | n + 1, c :: l, h, hl, p, m => by
    rw [grp_cons, List.mem_cons] at m
    rcases m with rfl | m
    · exact keyOf_K03 ht (hl c List.mem_cons_self)
    · exact grp_keys ht n (rem t (keyOf t c) l) (by have := rem_le t (keyOf t c) l; simp only [List.length_cons] at h; omega) (fun x mx => hl x (List.mem_cons_of_mem _ ((List.dropWhile_sublist _).mem mx))) p m
theorem wadd_keys {acc : List (Nat × List Nat)} {P : Nat → Prop} (h : ∀ p ∈ acc, P p.1) {g : Nat} (hg : P g) (xs : List Nat) : ∀ p ∈ wadd acc g xs, P p.1 := by
  intro p m
  have e : p.1 ∈ (wadd acc g xs).map Prod.fst := List.mem_map.mpr ⟨p, m, rfl⟩
  rw [wadd_fst] at e
  have q : p.1 ∈ acc.map Prod.fst ∨ p.1 = g := by
    split at e
    · exact .inl e
    · simpa using e
  rcases q with q | q
  · obtain ⟨p', m', e'⟩ := List.mem_map.mp q
    rw [← e']
    exact h p' m'
  · rw [q]; exact hg
theorem wh_keys {P : Nat → Prop} : ∀ (gs acc : List (Nat × List Nat)), (∀ p ∈ acc, P p.1) → (∀ p ∈ gs, P p.1) → ∀ p ∈ gs.foldl (fun a p => wadd a p.1 p.2) acc, P p.1
  | [], acc, h, _ => h
  | q :: gs, acc, h, h2 => wh_keys gs _ (wadd_keys h (h2 q List.mem_cons_self) q.2) fun p m => h2 p (List.mem_cons_of_mem _ m)
theorem gs_items {t keeps turns drops s : List Nat} (hu : turns.length = 6) (ha : ∀ c ∈ turns, c ∈ ABC) (hs : ∀ c ∈ s, c ∈ ABC) : ∀ c ∈ s.filterMap (gkeep t keeps turns drops), c ∈ ABC := by
  intro c m
  obtain ⟨x, mx, e⟩ := List.mem_filterMap.mp m
  unfold gkeep at e
  split at e
  · split at e
    · cases e
    · cases e
      exact ha _ (keyOf_mem hu (hs x mx))
  · cases e
section
variable {k : Nat} {w : Wd} {t keeps turns drops s : List Nat} {r : Rd}
theorem gs_gps (G : GoodP t r keeps turns drops) (hs : isOf ABC s = true) : Gps (gs t keeps turns drops s) := grp_gps t (gs_items G.htlen (mem_of_isOf G.hturns) (mem_of_isOf hs))
theorem gs_keys (G : GoodP t r keeps turns drops) (hs : isOf ABC s = true) : ∀ p ∈ gs t keeps turns drops s, p.1 ∈ K03 := grp_keys G.ht _ _ (Nat.le_refl _) (gs_items G.htlen (mem_of_isOf G.hturns) (mem_of_isOf hs))
theorem gs_tot : tot (gs t keeps turns drops s) ≤ s.length := by
  unfold gs
  rw [grp_tot]
  exact List.length_filterMap_le _ _
theorem whole_of_ok (G : GoodP t r keeps turns drops) (hs : isOf ABC s = true) (hl : s.length < lim) :
    den PG (k + 6) f.whole_of [prD t r keeps turns drops, .str s] w = .ok (.o (.lst ((wh (gs t keeps turns drops s)).map pr))) w := by
  have e1 := groups_of_ok (w := w) (k := k) G hs hl
  have hg := gs_gps G hs
  have ht := gs_tot (t := t) (keeps := keeps) (turns := turns) (drops := drops) (s := s)
  have hgl := len_le_tot hg
  obtain ⟨j3, j4, e2⟩ := wo_loop (w := w) (PG.gx (den PG (k + 5))) (.v (prD t r keeps turns drops)) (.v (.str s)) (gs t keeps turns drops s) [] .u .u (by simp [Nd]) (by simp; omega) (by simp [tot]; unfold tot at ht; omega)
  obtain ⟨n1, n2, n3⟩ := wh_ok hg
  have hk := wh_keys (P := fun c => c < 1000) (gs t keeps turns drops s) [] (by simp) (fun p m => by
    have : ∀ c ∈ K03, c < 1000 := by decide
    exact this _ (gs_keys G hs p m))
  have hwl := len_le_tot n2
  have e3 : ∀ j3 j4, kLcd (PG.gx (den PG (k + 5))) (.nm 3) .no e_whole_of_1 [.v (prD t r keeps turns drops), .v (.str s), .v (.dct ((wh (gs t keeps turns drops s)).map kv)), j3, j4] ((wh (gs t keeps turns drops s)).map kv) w = .ok (.o (.lst ((wh (gs t keeps turns drops s)).map pr))) w := fun j3 j4 => by
    refine kLcd_of (by rw [List.length_map]; omega) (okK_kv _ hk) ?_
    have q : (((wh (gs t keeps turns drops s)).map kv).map (·.1)) = (wh (gs t keeps turns drops s)).map fun p => .str [p.1] := by rw [List.map_map]; rfl
    rw [q]
    refine lcGo_map fun p m => ?_
    have d := dIdx_kv (wget_of n1 m)
    simp [e_whole_of_1, d, pr]
  rw [run_whole_of]
  simp only [woE, List.map_nil] at e2
  have e2' : forGo (.tp [3, 4]) (evSs (PG.gx (den PG (k + 5))) l_whole_of_1) ((gs t keeps turns drops s).map pr) [.v (prD t r keeps turns drops), .v (.str s), .o (.dct []), .u, .u] w = .nx [.v (prD t r keeps turns drops), .v (.str s), .o (.dct ((wh (gs t keeps turns drops s)).map kv)), j3, j4] w := e2
  simp [b_whole_of, e1, e2', e3]
theorem law_whole_ok (G : GoodP t r keeps turns drops) {rd : D} (hs : isOf ABC s = true) (hl : s.length + 1 < lim) :
    den PG (k + 3) f._law_whole [partsD t keeps turns drops rd, .str s] w = .ok (.o (.lst ((wh (gs t keeps turns drops s)).map pr))) w := by
  have ht6 : t.length = 6 := by have := G.ht; unfold isTable at this; simp at this; exact this.2
  have e1 := law_groups_ok (w := w) (k := k) (t := t) (keeps := keeps) (drops := drops) (r := rd) ht6 G.htlen (mem_of_isOf G.hturns) s (mem_of_isOf hs) (by omega)
  have hg := gs_gps G hs
  have ht := gs_tot (t := t) (keeps := keeps) (turns := turns) (drops := drops) (s := s)
  have hgl := len_le_tot hg
  obtain ⟨j3, j4, e2⟩ := wl_loop (w := w) (PG.gx (den PG (k + 2))) (.v (partsD t keeps turns drops rd)) (.v (.str s)) (gs t keeps turns drops s) [] .u .u (by simp [Nd]) (by simp; omega) (by simp [tot]; unfold tot at ht; omega)
  obtain ⟨n1, n2, n3⟩ := wh_ok hg
  have hwl := len_le_tot n2
  have e3 : ∀ j3 j4, kLc (PG.gx (den PG (k + 2))) (.nm 4) .no e__law_whole_1 [.v (partsD t keeps turns drops rd), .v (.str s), .v (.lst ((wh (gs t keeps turns drops s)).map fun p => .str [p.1])), .o (.dct ((wh (gs t keeps turns drops s)).map kv)), j3, j4] ((wh (gs t keeps turns drops s)).map fun p => .str [p.1]) w = .ok (.o (.lst ((wh (gs t keeps turns drops s)).map pr))) w := fun j3 j4 =>
    kLc_map (by omega) fun p m => by
      have d := dIdx_kv (wget_of n1 m)
      simp [e__law_whole_1, d, pr]
  rw [run__law_whole]
  simp only [wlE, List.map_nil] at e2
  have e2' : forGo (.tp [4, 5]) (evSs (PG.gx (den PG (k + 2))) l__law_whole_1) ((gs t keeps turns drops s).map pr) [.v (partsD t keeps turns drops rd), .v (.str s), .o (.lst []), .o (.dct []), .u, .u] w = .nx [.v (partsD t keeps turns drops rd), .v (.str s), .o (.lst ((wh (gs t keeps turns drops s)).map fun p => .str [p.1])), .o (.dct ((wh (gs t keeps turns drops s)).map kv)), j3, j4] w := e2
  simp [b__law_whole, e1, e2', e3]
/-- the answers -/
def ansr (t : List Nat) (r : Rd) (keeps turns drops s : List Nat) : List Nat := r.shown true (gs t keeps turns drops s)
def answ (t : List Nat) (r : Rd) (keeps turns drops s : List Nat) : List Nat := r.shown false (wh (gs t keeps turns drops s))
theorem deep_le (G : GoodP t r keeps turns drops) {n : Nat} (hl : 10 * n < lim) : (4 + 3 * r.dep) * n < lim :=
  Nat.lt_of_le_of_lt (Nat.mul_le_mul_right _ (by have := G.hdep; omega)) hl
theorem answer_ok (G : GoodP t r keeps turns drops) (hs : isOf ABC s = true) (hl : 10 * s.length < lim) :
    den PG (k + 10) f.answer [prD t r keeps turns drops, .str s] w = .ok (.v (.str (ansr t r keeps turns drops s))) w := by
  have e1 := groups_of_ok (w := w) (k := k + 4) G hs (by omega)
  have ht := gs_tot (t := t) (keeps := keeps) (turns := turns) (drops := drops) (s := s)
  have e2 := parts_of_ok (k := k + 4 - 2 * r.dep) (w := w) (read_group_ok r G.hr) true (gs_gps G hs) (deep_le G (by omega))
  have hk : k + 4 - 2 * r.dep + 2 * r.dep + 5 = k + 9 := by have := G.hdep; omega
  rw [hk] at e2
  rw [run_answer]
  simp [b_answer, e1, e2, ansr]
theorem whole_answer_ok (G : GoodP t r keeps turns drops) (hs : isOf ABC s = true) (hl : 10 * s.length < lim) :
    den PG (k + 10) f.whole_answer [prD t r keeps turns drops, .str s] w = .ok (.v (.str (answ t r keeps turns drops s))) w := by
  have e1 := whole_of_ok (w := w) (k := k + 3) G hs (by omega)
  have ht := gs_tot (t := t) (keeps := keeps) (turns := turns) (drops := drops) (s := s)
  obtain ⟨n1, n2, n3⟩ := wh_ok (gs_gps G hs)
  have e2 := parts_of_ok (k := k + 4 - 2 * r.dep) (w := w) (read_group_ok r G.hr) false n2 (deep_le G (by omega))
  have hk : k + 4 - 2 * r.dep + 2 * r.dep + 5 = k + 9 := by have := G.hdep; omega
  rw [hk] at e2
  rw [run_whole_answer]
  simp [b_whole_answer, e1, e2, answ]
theorem law_answer_ok (G : GoodP t r keeps turns drops) (hs : isOf ABC s = true) (hl : 10 * s.length < lim) :
    den PG (k + 10) f._law_answer [partsD t keeps turns drops r.d, .str s] w = .ok (.v (.str (ansr t r keeps turns drops s))) w := by
  have ht6 : t.length = 6 := by have := G.ht; unfold isTable at this; simp at this; exact this.2
  have e1 := law_groups_ok (w := w) (k := k + 7) (t := t) (keeps := keeps) (drops := drops) (r := r.d) ht6 G.htlen (mem_of_isOf G.hturns) s (mem_of_isOf hs) (by omega)
  have ht := gs_tot (t := t) (keeps := keeps) (turns := turns) (drops := drops) (s := s)
  have e2 := law_shown_ok (k := k + 4 - 2 * r.dep) (w := w) (law_read_ok r G.hr) true (gs_gps G hs) (deep_le G (by omega))
  have hk : k + 4 - 2 * r.dep + 2 * r.dep + 5 = k + 9 := by have := G.hdep; omega
  rw [hk] at e2
  rw [run__law_answer]
  simp only [partsD] at e1 ⊢
  simp [b__law_answer, e1, e2, ansr]
theorem law_all_ok (G : GoodP t r keeps turns drops) (hs : isOf ABC s = true) (hl : 10 * s.length + 1 < lim) :
    den PG (k + 10) f._law_all [partsD t keeps turns drops r.d, .str s] w = .ok (.v (.str (answ t r keeps turns drops s))) w := by
  have e1 := law_whole_ok (w := w) (k := k + 6) G (rd := r.d) hs (by omega)
  have ht := gs_tot (t := t) (keeps := keeps) (turns := turns) (drops := drops) (s := s)
  obtain ⟨n1, n2, n3⟩ := wh_ok (gs_gps G hs)
  have e2 := law_shown_ok (k := k + 4 - 2 * r.dep) (w := w) (law_read_ok r G.hr) false n2 (deep_le G (by omega))
  have hk : k + 4 - 2 * r.dep + 2 * r.dep + 5 = k + 9 := by have := G.hdep; omega
  rw [hk] at e2
  rw [run__law_all]
  simp only [partsD] at e1 ⊢
  simp [b__law_all, e1, e2, answ]
/-! refused -/
theorem groups_of_bad {x P : D} (h : BadIt x) : den PG (k + 4) f.groups_of [P, x] w = .exc 4 [] w := by
  have e := check_items_bad k w h
  rw [run_groups_of]
  simp [b_groups_of, e]
theorem answer_bad {x : D} (h : BadIt x) : den PG (k + 5) f.answer [prD t r keeps turns drops, x] w = .exc 4 [] w := by
  have e := groups_of_bad (k := k) (w := w) (P := prD t r keeps turns drops) h
  rw [run_answer]
  simp [b_answer, e]
theorem whole_of_bad {x P : D} (h : BadIt x) : den PG (k + 5) f.whole_of [P, x] w = .exc 4 [] w := by
  have e := groups_of_bad (k := k) (w := w) (P := P) h
  rw [run_whole_of]
  simp [b_whole_of, e]
theorem whole_answer_bad {x : D} (h : BadIt x) : den PG (k + 6) f.whole_answer [prD t r keeps turns drops, x] w = .exc 4 [] w := by
  have e := whole_of_bad (k := k) (w := w) (P := prD t r keeps turns drops) h
  rw [run_whole_answer]
  simp [b_whole_answer, e]
theorem law_refused_ok {x : D} (h : BadIt x) : den PG (k + 7) f._law_refused [prD t r keeps turns drops, x] w = .ok (.o (.lst [.bl true, .bl true, .bl true, .bl true])) w := by
  have e1 := groups_of_bad (k := k + 2) (w := w) (P := prD t r keeps turns drops) h
  have e2 := answer_bad (k := k + 1) (w := w) (t := t) (r := r) (keeps := keeps) (turns := turns) (drops := drops) h
  have e3 := whole_of_bad (k := k + 1) (w := w) (P := prD t r keeps turns drops) h
  have e4 := whole_answer_bad (k := k) (w := w) (t := t) (r := r) (keeps := keeps) (turns := turns) (drops := drops) h
  have s1 : ∀ {ds ds' : List D} {i : Int} {j : Nat} {ρ : Env}, stO (.lst ds) (.int i) (.bl true) = some (.lst ds') → stR (.lst ds) (.int i) (.bl true) j ρ w = .nx (ρ.set j (.o (.lst ds'))) w := fun h => stR_of h
  have a0 : ∀ ρ : Env, stR (.lst [.bl false, .bl false, .bl false, .bl false]) (.int 0) (.bl true) 2 ρ w = .nx (ρ.set 2 (.o (.lst [.bl true, .bl false, .bl false, .bl false]))) w := fun ρ => s1 (by simp)
  have a1 : ∀ ρ : Env, stR (.lst [.bl true, .bl false, .bl false, .bl false]) (.int 1) (.bl true) 2 ρ w = .nx (ρ.set 2 (.o (.lst [.bl true, .bl true, .bl false, .bl false]))) w := fun ρ => s1 (by simp)
  have a2 : ∀ ρ : Env, stR (.lst [.bl true, .bl true, .bl false, .bl false]) (.int 2) (.bl true) 2 ρ w = .nx (ρ.set 2 (.o (.lst [.bl true, .bl true, .bl true, .bl false]))) w := fun ρ => s1 (by simp)
  have a3 : ∀ ρ : Env, stR (.lst [.bl true, .bl true, .bl true, .bl false]) (.int 3) (.bl true) 2 ρ w = .nx (ρ.set 2 (.o (.lst [.bl true, .bl true, .bl true, .bl true]))) w := fun ρ => s1 (by simp)
  rw [run__law_refused]
  simp [b__law_refused, e1, e2, e3, e4, gx_sub, a0, a1, a2, a3]
/-! equal programs -/
theorem parts_ok' : den PG (k + 2) f.Program_parts [prD t r keeps turns drops] w = .ok (.v (.tup [.str t, r.d, .str (asc keeps), .str turns, .str (asc drops)])) w := by
  rw [run_Program_parts]
  simp [b_Program_parts]
theorem isCls_pr : isCls w 16 (prD t r keeps turns drops) = true := rfl
end
end My

set_option Elab.async false
set_option linter.all false
set_option maxRecDepth 100000
/-! S25: sorted texts; programs compared. -/
namespace My
theorem asc_sorted (s : List Nat) : (asc s).Pairwise (fun a b => a ≤ b) := by
  have := List.pairwise_mergeSort (le := fun a b : Nat => decide (a ≤ b)) (fun a b c h1 h2 => by simp at *; omega) (fun a b => by simp; omega) s
  exact this.imp fun h => by simpa using h
theorem asc_eq {s l : List Nat} (h : s.Perm l) (hl : l.Pairwise (fun a b => a ≤ b)) : asc s = l :=
  List.Perm.eq_of_pairwise (le := fun a b : Nat => a ≤ b) (fun a b _ _ h1 h2 => Nat.le_antisymm h1 h2) (asc_sorted s) hl ((List.mergeSort_perm s _).trans h)
theorem asc_perm {s l : List Nat} (h : s.Perm l) : asc s = asc l := asc_eq (h.trans (List.mergeSort_perm l _).symm) (asc_sorted l)
theorem asc_sub {s cs : List Nat} (hc : cs.Pairwise (fun a b => a ≤ b)) (h : s.Sublist cs) : asc s = s := asc_eq (List.Perm.refl s) (hc.sublist h)
theorem asc_abc {s : List Nat} (h : s.Sublist ABC) : asc s = s := asc_sub (by decide) h
theorem asc_k03 {s : List Nat} (h : s.Sublist K03) : asc s = s := asc_sub (by decide) h
theorem isSome_rev {cs s : List Nat} {m : Nat} (h : isSome' cs s m = true) : isSome' cs s.reverse m = true := by
  unfold isSome' isOf at h ⊢
  simp only [Bool.and_eq_true, List.all_eq_true, decide_eq_true_eq, List.mem_reverse, List.length_reverse, List.count_reverse] at h ⊢
  exact h
theorem sorted_str {s : List Nat} (h : s.length < 64) : dBi .sorted [.str s] = some (.o (.lst ((asc s).map fun c => .str [c]))) := by
  show (if s.length < 64 then some (Rv.o (.lst ((chars s).mergeSort leS))) else none) = _
  rw [if_pos h]
  unfold chars
  rw [chars_sort]
theorem rd_plain : ∀ (r : Rd) (n : Nat), r.dep + 1 ≤ n → r.d.plain n = true := by
  intro r
  induction r with
  | only ks r ih =>
    intro n h
    obtain ⟨m, rfl⟩ : ∃ m, n = m + 1 := ⟨n - 1, by simp only [Rd.dep] at h; omega⟩
    have := ih m (by simp only [Rd.dep] at h; omega)
    simp [Rd.d, D.plain, this]
  | within t r ih =>
    intro n h
    obtain ⟨m, rfl⟩ : ∃ m, n = m + 1 := ⟨n - 1, by simp only [Rd.dep] at h; omega⟩
    have := ih m (by simp only [Rd.dep] at h; omega)
    simp [Rd.d, D.plain, this]
  | _ =>
    intro n h
    obtain ⟨m, rfl⟩ : ∃ m, n = m + 1 := ⟨n - 1, by omega⟩
    simp [Rd.d, D.plain]
section
variable {k : Nat} {w : Wd} {t keeps turns drops t' keeps' turns' drops' : List Nat} {r r' : Rd}
/-- two programs' parts, compared -/
def sameP (t : List Nat) (r : Rd) (keeps turns drops t' : List Nat) (r' : Rd) (keeps' turns' drops' : List Nat) : Bool :=
  D.eqvs [.str t, r.d, .str keeps, .str turns, .str drops] [.str t', r'.d, .str keeps', .str turns', .str drops']
theorem parts_plain (h : r.dep ≤ 2) (n : Nat) (hn : 4 ≤ n) : ([.str t, r.d, .str keeps, .str turns, .str drops] : List D).all (D.plain n) = true := by
  have := rd_plain r n (by omega)
  obtain ⟨m, rfl⟩ : ∃ m, n = m + 1 := ⟨n - 1, by omega⟩
  simp [D.plain, this]
theorem pEq_partsT (h : r.dep ≤ 2) (h' : r'.dep ≤ 2) : pEq (.tup [.str t, r.d, .str keeps, .str turns, .str drops]) (.tup [.str t', r'.d, .str keeps', .str turns', .str drops']) = some (sameP t r keeps turns drops t' r' keeps' turns' drops') :=
  pEq_of (by show List.all _ _ = true; exact parts_plain h 59 (by decide)) (by show List.all _ _ = true; exact parts_plain h' 59 (by decide))
theorem pEq_partsL (h : r.dep ≤ 2) (h' : r'.dep ≤ 2) : pEq (.lst [.str t, r.d, .str keeps, .str turns, .str drops]) (.lst [.str t', r'.d, .str keeps', .str turns', .str drops']) = some (sameP t r keeps turns drops t' r' keeps' turns' drops') :=
  pEq_of (by show List.all _ _ = true; exact parts_plain h 59 (by decide)) (by show List.all _ _ = true; exact parts_plain h' 59 (by decide))
theorem sameP_refl (h : r.dep ≤ 2) : sameP t r keeps turns drops t r keeps turns drops = true :=
  eqvs_refl _ fun x m => eqv_refl 59 x (List.all_eq_true.mp (parts_plain h 59 (by decide)) x m)
theorem prog_eq_ok (h : r.dep ≤ 2) (h' : r'.dep ≤ 2) : den PG (k + 3) f.Program__eq__ [prD t r keeps turns drops, prD t' r' keeps' turns' drops'] w = .ok (.v (.bl (sameP t r (asc keeps) turns (asc drops) t' r' (asc keeps') turns' (asc drops')))) w := by
  have e1 := parts_ok' (k := k) (w := w) (t := t) (r := r) (keeps := keeps) (turns := turns) (drops := drops)
  have e2 := parts_ok' (k := k) (w := w) (t := t') (r := r') (keeps := keeps') (turns := turns') (drops := drops')
  have e3 := pEq_partsT (t := t) (keeps := asc keeps) (turns := turns) (drops := asc drops) (t' := t') (keeps' := asc keeps') (turns' := turns') (drops' := asc drops') h h'
  have i1 := isCls_pr (w := w) (t := t) (r := r) (keeps := keeps) (turns := turns) (drops := drops)
  have i2 := isCls_pr (w := w) (t := t') (r := r') (keeps := keeps') (turns := turns') (drops := drops')
  rw [run_Program__eq__]
  simp [b_Program__eq__, i1, i2, e1, e2, e3]
end
end My

set_option Elab.async false
set_option linter.all false
set_option maxRecDepth 100000
/-! S26: texts of programs, written. -/
namespace My
section
variable {w : Wd} {k : Nat}
/-! splitting what was joined -/
theorem split_eq (c x : Nat) (r : List Nat) : splitS c (x :: r) = if x = c then [] :: splitS c r else match splitS c r with
    | [] => [[x]]
    | y :: t => (x :: y) :: t := rfl
theorem split_none {c : Nat} : ∀ {x : List Nat}, c ∉ x → splitS c x = [x]
  | [], _ => rfl
  | a :: x, h => by
    simp only [List.mem_cons, not_or] at h
    have h1 : ¬ a = c := fun e => h.1 e.symm
    rw [split_eq, if_neg h1, split_none h.2]
theorem split_cons {c : Nat} {y : List Nat} : ∀ {x : List Nat}, c ∉ x → splitS c (x ++ c :: y) = x :: splitS c y
  | [], _ => by
    show splitS c (c :: y) = _
    rw [split_eq, if_pos rfl]
  | a :: x, h => by
    simp only [List.mem_cons, not_or] at h
    have h1 : ¬ a = c := fun e => h.1 e.symm
    show splitS c (a :: (x ++ c :: y)) = _
    rw [split_eq, if_neg h1, split_cons h.2]
theorem join2 (s a b : List Nat) : joinS s [a, b] = a ++ s ++ b := rfl
theorem joinS_cons {s a : List Nat} {l : List (List Nat)} (h : l ≠ []) : joinS s (a :: l) = a ++ s ++ joinS s l := by
  cases l with
  | nil => exact absurd rfl h
  | cons b l => rfl
theorem split_join {c : Nat} : ∀ {l : List (List Nat)}, l ≠ [] → (∀ x ∈ l, c ∉ x) → splitS c (joinS [c] l) = l
  | [], h, _ => absurd rfl h
  | [x], _, h => split_none (h x List.mem_cons_self)
  | x :: y :: l, _, h => by
    rw [joinS_cons (by simp), List.append_assoc, List.singleton_append, split_cons (h x List.mem_cons_self), split_join (by simp) fun z m => h z (List.mem_cons_of_mem _ m)]
theorem joinS_len (s : List Nat) : ∀ l : List (List Nat), (joinS s l).length ≤ (l.map (·.length)).sum + l.length * s.length
  | [] => by simp [joinS]
  | [x] => by simp [joinS]
  | x :: y :: l => by
    have ih := joinS_len s (y :: l)
    rw [joinS_cons (by simp)]
    simp only [List.map_cons, List.sum_cons, List.length_append, List.length_cons, Nat.add_mul] at ih ⊢
    omega
theorem dSm_joinW {l : List (List Nat)} {s : List Nat} (h : (l.map (·.length)).sum + l.length * s.length ≤ lim) : dSm .join (.str s) [.lst (l.map D.str)] = some (.v (.str (joinS s l))) := by
  have e : ∀ l : List (List Nat), allS (l.map D.str) = some l := fun l => by
    induction l with
    | nil => rfl
    | cons x l ih => show (allS (l.map D.str)).map (x :: ·) = _; rw [ih]; rfl
  show (allS (l.map D.str)).bind _ = _
  rw [e]
  show (if _ then _ else none) = _
  rw [if_pos h]
/-! the words of a reading -/
def Rd.ws : Rd → List (List Nat)
  | .items => [[105, 116, 101, 109, 115]]
  | .count => [[99, 111, 117, 110, 116]]
  | .first n => [[102, 105, 114, 115, 116], [48 + n]]
  | .last => [[108, 97, 115, 116]]
  | .late => [[108, 97, 116, 101]]
  | .only ks r => [111, 110, 108, 121] :: ks :: r.ws
  | .within t r => [119, 105, 116, 104, 105, 110] :: t :: r.ws
theorem ws_ne (r : Rd) : r.ws ≠ [] := by cases r <;> simp [Rd.ws]
abbrev Rd.tx (r : Rd) : List Nat := joinS [32] r.ws
theorem tbl_mem {t : List Nat} (h : isTable t = true) : (∀ c ∈ t, c ∈ K03) ∧ t.length = 6 := by
  unfold isTable isOf at h
  simpa using h
theorem some_mem {cs s : List Nat} {m : Nat} (h : isSome' cs s m = true) : ∀ c ∈ s, c ∈ cs := by
  unfold isSome' isOf at h
  simp only [Bool.and_eq_true, List.all_eq_true, decide_eq_true_eq] at h
  exact h.1.1
/-- signs of a line's words -/
def wSign (c : Nat) : Prop := 45 ≤ c ∧ c ≤ 122
theorem k03_sign {c : Nat} (h : c ∈ K03) : wSign c := by
  have : ∀ c ∈ K03, 45 ≤ c ∧ c ≤ 122 := by decide
  exact this c h
theorem abc_sign {c : Nat} (h : c ∈ ABC) : wSign c := by
  have : ∀ c ∈ ABC, 45 ≤ c ∧ c ≤ 122 := by decide
  exact this c h
theorem ws_sign : ∀ (r : Rd), r.ok = true → ∀ x ∈ r.ws, ∀ c ∈ x, wSign c
  | .items, _ => by unfold Rd.ws wSign; simp
  | .count, _ => by unfold Rd.ws wSign; simp
  | .last, _ => by unfold Rd.ws wSign; simp
  | .late, _ => by unfold Rd.ws wSign; simp
  | .first n, h => by
    simp only [Rd.ok, decide_eq_true_eq] at h
    unfold Rd.ws wSign
    simp
    omega
  | .only ks r, h => by
    simp only [Rd.ok, Bool.and_eq_true] at h
    intro x m
    simp only [Rd.ws, List.mem_cons] at m
    rcases m with rfl | rfl | m
    · unfold wSign; simp
    · exact fun c hc => k03_sign (some_mem h.1.1 c hc)
    · exact ws_sign r h.2 x m
  | .within t r, h => by
    simp only [Rd.ok, Bool.and_eq_true] at h
    intro x m
    simp only [Rd.ws, List.mem_cons] at m
    rcases m with rfl | rfl | m
    · unfold wSign; simp
    · exact fun c hc => k03_sign ((tbl_mem h.1).1 c hc)
    · exact ws_sign r h.2 x m
theorem ws_len : ∀ (r : Rd), r.ok = true → (r.ws.map (·.length)).sum + r.ws.length ≤ 14 * (r.dep + 1)
  | .items, _ => by simp [Rd.ws, Rd.dep]
  | .count, _ => by simp [Rd.ws, Rd.dep]
  | .last, _ => by simp [Rd.ws, Rd.dep]
  | .late, _ => by simp [Rd.ws, Rd.dep]
  | .first n, _ => by simp [Rd.ws, Rd.dep]
  | .only ks r, h => by
    simp only [Rd.ok, Bool.and_eq_true, decide_eq_true_eq] at h
    have ih := ws_len r h.2
    have hk := h.1.2
    simp only [Rd.ws, Rd.dep, List.map_cons, List.sum_cons, List.length_cons, List.length_nil] at ih ⊢
    omega
  | .within t r, h => by
    simp only [Rd.ok, Bool.and_eq_true] at h
    have ih := ws_len r h.2
    have hk := (tbl_mem h.1).2
    simp only [Rd.ws, Rd.dep, List.map_cons, List.sum_cons, List.length_cons, List.length_nil] at ih ⊢
    omega
theorem tx_len (r : Rd) (h : r.ok = true) : r.tx.length ≤ 14 * (r.dep + 1) := by
  have h1 := joinS_len [32] r.ws
  have h2 := ws_len r h
  simp only [List.length_cons, List.length_nil] at h1
  show (joinS [32] r.ws).length ≤ _
  omega
theorem tx_only (ks : List Nat) (r : Rd) : (Rd.only ks r).tx = joinS [32] [[111, 110, 108, 121], ks, r.tx] := by
  show joinS [32] ([111, 110, 108, 121] :: ks :: r.ws) = _
  rw [joinS_cons (by simp), joinS_cons (ws_ne r)]
  rfl
theorem tx_within (t : List Nat) (r : Rd) : (Rd.within t r).tx = joinS [32] [[119, 105, 116, 104, 105, 110], t, r.tx] := by
  show joinS [32] ([119, 105, 116, 104, 105, 110] :: t :: r.ws) = _
  rw [joinS_cons (by simp), joinS_cons (ws_ne r)]
  rfl
theorem dBi_dig {n : Nat} (h : n ≤ 3) : dBi .str [.int n] = some (.v (.str [48 + n])) := by
  match n, h with
  | 0, _ => rfl
  | 1, _ => rfl
  | 2, _ => rfl
  | 3, _ => rfl
@[simp] theorem dBi_strS (s : List Nat) : dBi .str [.str s] = some (.v (.str s)) := no_rfl rfl
theorem join_w1 (s x : List Nat) (h : x.length + s.length ≤ lim) : dSm .join (.str s) [.lst [.str x]] = some (.v (.str x)) := dSm_joinW (l := [x]) (by simpa using h)
theorem join_w2 (s x y : List Nat) (h : x.length + y.length + 2 * s.length ≤ lim) : dSm .join (.str s) [.lst [.str x, .str y]] = some (.v (.str (joinS s [x, y]))) := dSm_joinW (l := [x, y]) (by simpa using h)
theorem join_w3 (s x y z : List Nat) (h : x.length + (y.length + z.length) + 3 * s.length ≤ lim) : dSm .join (.str s) [.lst [.str x, .str y, .str z]] = some (.v (.str (joinS s [x, y, z]))) := dSm_joinW (l := [x, y, z]) (by simpa using h)
theorem cut1 (a : D) : dCut (.tup [a]) none (some 2) = some (.v (.tup [a])) := rfl
theorem cut2 (a b : D) : dCut (.tup [a, b]) none (some 2) = some (.v (.tup [a, b])) := rfl
theorem cut3 (a b c : D) : dCut (.tup [a, b, c]) none (some 2) = some (.v (.tup [a, b])) := rfl
abbrev eTxt : E := .bi .str (.cons (.var 2) .nil)
theorem kLc_txt (k : Nat) (q0 q1 q2 : Slot) (ps : List (D × List Nat)) (hl : ps.length ≤ lim) (h : ∀ p ∈ ps, dBi .str [p.1] = some (.v (.str p.2)) ∧ deref w p.1 = p.1) : kLc (PG.gx (den PG (k + 1))) (.nm 2) .no eTxt [q0, q1, q2] (ps.map fun p => p.1) w = .ok (.o (.lst (ps.map fun p => .str p.2))) w :=
  kLc_map hl fun p m => by
    obtain ⟨h1, h2⟩ := h p m
    simp [h1, h2]
theorem kLc_txt1 (k : Nat) (q0 q1 q2 : Slot) (a : List Nat) : kLc (PG.gx (den PG (k + 1))) (.nm 2) .no eTxt [q0, q1, q2] [.str a] w = .ok (.o (.lst [.str a])) w :=
  kLc_txt k q0 q1 q2 [(.str a, a)] (by rw [lim_eq]; simp) fun p m => by
    rw [List.mem_singleton.mp m]
    exact ⟨rfl, rfl⟩
theorem kLc_txt2 (k : Nat) (q0 q1 q2 : Slot) (a b : List Nat) : kLc (PG.gx (den PG (k + 1))) (.nm 2) .no eTxt [q0, q1, q2] [.str a, .str b] w = .ok (.o (.lst [.str a, .str b])) w :=
  kLc_txt k q0 q1 q2 [(.str a, a), (.str b, b)] (by rw [lim_eq]; simp) fun p m => by
    simp only [List.mem_cons, List.not_mem_nil, or_false] at m
    rcases m with rfl | rfl <;> exact ⟨rfl, rfl⟩
theorem kLc_txtN (k : Nat) (q0 q1 q2 : Slot) (a : List Nat) {n : Nat} (hn : n ≤ 3) : kLc (PG.gx (den PG (k + 1))) (.nm 2) .no eTxt [q0, q1, q2] [.str a, .int n] w = .ok (.o (.lst [.str a, .str [48 + n]])) w :=
  kLc_txt k q0 q1 q2 [(.str a, a), (.int n, [48 + n])] (by rw [lim_eq]; simp) fun p m => by
    simp only [List.mem_cons, List.not_mem_nil, or_false] at m
    rcases m with rfl | rfl
    · exact ⟨rfl, rfl⟩
    · exact ⟨dBi_dig hn, rfl⟩
/-- the law's own text of a reading -/
theorem law_rtext_ok : ∀ (r : Rd) (k : Nat), r.ok = true → r.dep ≤ 2 → den PG (k + r.dep + 2) f._law_reading_text [r.d] w = .ok (.v (.str r.tx)) w := by
  intro r
  induction r with
  | only ks r ih =>
    intro k h hd
    simp only [Rd.ok, Bool.and_eq_true, decide_eq_true_eq] at h
    simp only [Rd.dep] at hd
    have e1 : den PG (k + r.dep + 2) f._law_reading_text [r.d] w = .ok (.v (.str r.tx)) w := ih k h.2 (by omega)
    have l1 := tx_len r h.2
    show den PG (k + r.dep + 3) _ _ _ = _
    rw [run__law_reading_text]
    have j3 := join_w3 [32] [111, 110, 108, 121] ks r.tx (by rw [lim_eq]; simp; omega)
    have e := kLc_txt2 (w := w) (k + r.dep + 1) (.v (.tup [.str [111, 110, 108, 121], .str ks, r.d])) .u .u [111, 110, 108, 121] ks
    rw [tx_only]
    have e1' : den PG (k + r.dep + 1 + 1) 76 [r.d] w = .ok (.v (.str r.tx)) w := e1
    simp [b__law_reading_text, e__law_reading_text_1, Rd.d, cut3, e, e1', j3, dIdx, evS_appK, lim_eq]
  | within t r ih =>
    intro k h hd
    simp only [Rd.ok, Bool.and_eq_true] at h
    simp only [Rd.dep] at hd
    have e1 : den PG (k + r.dep + 2) f._law_reading_text [r.d] w = .ok (.v (.str r.tx)) w := ih k h.2 (by omega)
    have l1 := tx_len r h.2
    have l2 := (tbl_mem h.1).2
    show den PG (k + r.dep + 3) _ _ _ = _
    rw [run__law_reading_text]
    have j3 := join_w3 [32] [119, 105, 116, 104, 105, 110] t r.tx (by rw [lim_eq]; simp; omega)
    have e := kLc_txt2 (w := w) (k + r.dep + 1) (.v (.tup [.str [119, 105, 116, 104, 105, 110], .str t, r.d])) .u .u [119, 105, 116, 104, 105, 110] t
    rw [tx_within]
    have e1' : den PG (k + r.dep + 1 + 1) 76 [r.d] w = .ok (.v (.str r.tx)) w := e1
    simp [b__law_reading_text, e__law_reading_text_1, Rd.d, cut3, e, e1', j3, dIdx, evS_appK, lim_eq]
  | first n =>
    intro k h hd
    simp only [Rd.ok, decide_eq_true_eq] at h
    have e := kLc_txtN (w := w) k (.v (.tup [.str [102, 105, 114, 115, 116], .int n])) .u .u [102, 105, 114, 115, 116] h
    have j := join_w2 [32] [102, 105, 114, 115, 116] [48 + n] (by rw [lim_eq]; simp)
    show den PG (k + 2) _ _ _ = _
    rw [run__law_reading_text]
    simp [b__law_reading_text, e__law_reading_text_1, Rd.d, cut2, e, j, Rd.tx, Rd.ws]
  | items =>
    intro k h hd
    have e := kLc_txt1 (w := w) k (.v (.tup [.str [105, 116, 101, 109, 115]])) .u .u [105, 116, 101, 109, 115]
    have j := join_w1 [32] [105, 116, 101, 109, 115] (by rw [lim_eq]; simp)
    show den PG (k + 2) _ _ _ = _
    rw [run__law_reading_text]
    simp [b__law_reading_text, e__law_reading_text_1, Rd.d, cut1, e, j, Rd.tx, Rd.ws, joinS]
  | count =>
    intro k h hd
    have e := kLc_txt1 (w := w) k (.v (.tup [.str [99, 111, 117, 110, 116]])) .u .u [99, 111, 117, 110, 116]
    have j := join_w1 [32] [99, 111, 117, 110, 116] (by rw [lim_eq]; simp)
    show den PG (k + 2) _ _ _ = _
    rw [run__law_reading_text]
    simp [b__law_reading_text, e__law_reading_text_1, Rd.d, cut1, e, j, Rd.tx, Rd.ws, joinS]
  | last =>
    intro k h hd
    have e := kLc_txt1 (w := w) k (.v (.tup [.str [108, 97, 115, 116]])) .u .u [108, 97, 115, 116]
    have j := join_w1 [32] [108, 97, 115, 116] (by rw [lim_eq]; simp)
    show den PG (k + 2) _ _ _ = _
    rw [run__law_reading_text]
    simp [b__law_reading_text, e__law_reading_text_1, Rd.d, cut1, e, j, Rd.tx, Rd.ws, joinS]
  | late =>
    intro k h hd
    have e := kLc_txt1 (w := w) k (.v (.tup [.str [108, 97, 116, 101]])) .u .u [108, 97, 116, 101]
    have j := join_w1 [32] [108, 97, 116, 101] (by rw [lim_eq]; simp)
    show den PG (k + 2) _ _ _ = _
    rw [run__law_reading_text]
    simp [b__law_reading_text, e__law_reading_text_1, Rd.d, cut1, e, j, Rd.tx, Rd.ws, joinS]
theorem asc_k03' {ks : List Nat} (h : ks.Sublist K03) : asc ks = ks := asc_k03 h
/-- the program's text of a reading -/
theorem rtext_ok : ∀ (r : Rd) (k : Nat), r.ok = true → r.srt = true → r.dep ≤ 2 → den PG (k + r.dep + 3) f.reading_text [r.d] w = .ok (.v (.str r.tx)) w := by
  intro r
  induction r with
  | only ks r ih =>
    intro k h hs hd
    simp only [Rd.ok, Bool.and_eq_true, decide_eq_true_eq] at h
    simp only [Rd.srt, Bool.and_eq_true, decide_eq_true_eq] at hs
    simp only [Rd.dep] at hd
    have e1 : den PG (k + r.dep + 3) f.reading_text [r.d] w = .ok (.v (.str r.tx)) w := ih k h.2 hs.2 (by omega)
    have e2 := ascending_ok (w := w) (k := k + r.dep + 1) (s := ks) (by omega)
    rw [asc_k03 hs.1] at e2
    have l1 := tx_len r h.2
    show den PG (k + r.dep + 4) _ _ _ = _
    rw [run_reading_text]
    have j3 := join_w3 [32] [111, 110, 108, 121] ks r.tx (by rw [lim_eq]; simp; omega)
    have e := kLc_txt2 (w := w) (k + r.dep + 2) (.v (.tup [.str [111, 110, 108, 121], .str ks, r.d])) .u .u [111, 110, 108, 121] ks
    rw [tx_only]
    have e1' : den PG (k + r.dep + 2 + 1) 73 [r.d] w = .ok (.v (.str r.tx)) w := e1
    have e2' : den PG (k + r.dep + 2 + 1) 52 [.str ks] w = .ok (.v (.str ks)) w := e2
    have st : stO (.lst [.str [111, 110, 108, 121], .str ks]) (.int 1) (.str ks) = some (.lst [.str [111, 110, 108, 121], .str ks]) := rfl
    simp [b_reading_text, e_reading_text_1, Rd.d, cut3, e, e1', e2', j3, dIdx, evS_appK, lim_eq, stR_of st]
  | within t r ih =>
    intro k h hs hd
    simp only [Rd.ok, Bool.and_eq_true] at h
    simp only [Rd.srt] at hs
    simp only [Rd.dep] at hd
    have e1 : den PG (k + r.dep + 3) f.reading_text [r.d] w = .ok (.v (.str r.tx)) w := ih k h.2 hs (by omega)
    have l1 := tx_len r h.2
    have l2 := (tbl_mem h.1).2
    show den PG (k + r.dep + 4) _ _ _ = _
    rw [run_reading_text]
    have j3 := join_w3 [32] [119, 105, 116, 104, 105, 110] t r.tx (by rw [lim_eq]; simp; omega)
    have e := kLc_txt2 (w := w) (k + r.dep + 2) (.v (.tup [.str [119, 105, 116, 104, 105, 110], .str t, r.d])) .u .u [119, 105, 116, 104, 105, 110] t
    rw [tx_within]
    have e1' : den PG (k + r.dep + 2 + 1) 73 [r.d] w = .ok (.v (.str r.tx)) w := e1
    simp [b_reading_text, e_reading_text_1, Rd.d, cut3, e, e1', j3, dIdx, evS_appK, lim_eq]
  | first n =>
    intro k h hs hd
    simp only [Rd.ok, decide_eq_true_eq] at h
    have e := kLc_txtN (w := w) (k + 1) (.v (.tup [.str [102, 105, 114, 115, 116], .int n])) .u .u [102, 105, 114, 115, 116] h
    have j := join_w2 [32] [102, 105, 114, 115, 116] [48 + n] (by rw [lim_eq]; simp)
    show den PG (k + 3) _ _ _ = _
    rw [run_reading_text]
    simp [b_reading_text, e_reading_text_1, Rd.d, cut2, e, j, Rd.tx, Rd.ws]
  | items =>
    intro k h hs hd
    have e := kLc_txt1 (w := w) (k + 1) (.v (.tup [.str [105, 116, 101, 109, 115]])) .u .u [105, 116, 101, 109, 115]
    have j := join_w1 [32] [105, 116, 101, 109, 115] (by rw [lim_eq]; simp)
    show den PG (k + 3) _ _ _ = _
    rw [run_reading_text]
    simp [b_reading_text, e_reading_text_1, Rd.d, cut1, e, j, Rd.tx, Rd.ws, joinS]
  | count =>
    intro k h hs hd
    have e := kLc_txt1 (w := w) (k + 1) (.v (.tup [.str [99, 111, 117, 110, 116]])) .u .u [99, 111, 117, 110, 116]
    have j := join_w1 [32] [99, 111, 117, 110, 116] (by rw [lim_eq]; simp)
    show den PG (k + 3) _ _ _ = _
    rw [run_reading_text]
    simp [b_reading_text, e_reading_text_1, Rd.d, cut1, e, j, Rd.tx, Rd.ws, joinS]
  | last =>
    intro k h hs hd
    have e := kLc_txt1 (w := w) (k + 1) (.v (.tup [.str [108, 97, 115, 116]])) .u .u [108, 97, 115, 116]
    have j := join_w1 [32] [108, 97, 115, 116] (by rw [lim_eq]; simp)
    show den PG (k + 3) _ _ _ = _
    rw [run_reading_text]
    simp [b_reading_text, e_reading_text_1, Rd.d, cut1, e, j, Rd.tx, Rd.ws, joinS]
  | late =>
    intro k h hs hd
    have e := kLc_txt1 (w := w) (k + 1) (.v (.tup [.str [108, 97, 116, 101]])) .u .u [108, 97, 116, 101]
    have j := join_w1 [32] [108, 97, 116, 101] (by rw [lim_eq]; simp)
    show den PG (k + 3) _ _ _ = _
    rw [run_reading_text]
    simp [b_reading_text, e_reading_text_1, Rd.d, cut1, e, j, Rd.tx, Rd.ws, joinS]
/-! the lines of a program -/
def sh (s : List Nat) : List Nat := if s = [] then [45] else s
abbrev wTb : List Nat := [116, 97, 98, 108, 101]
abbrev wKp : List Nat := [107, 101, 101, 112]
abbrev wTn : List Nat := [116, 117, 114, 110]
abbrev wDp : List Nat := [100, 114, 111, 112]
abbrev wRd : List Nat := [114, 101, 97, 100]
def lns (t : List Nat) (r : Rd) (keeps turns drops : List Nat) : List (List Nat) := [wTb ++ [32] ++ t, wKp ++ [32] ++ sh keeps, wTn ++ [32] ++ turns, wDp ++ [32] ++ sh drops, wRd ++ [32] ++ r.tx]
@[simp] theorem gls5 : PG.gls[5]? = some (.tup [.str wTb, .str wKp, .str wTn, .str wDp, .str wRd]) := no_rfl rfl
theorem sh_len (s : List Nat) : (sh s).length ≤ s.length + 1 := by unfold sh; split <;> simp
theorem law_shown_text_ok (s : List Nat) : den PG (k + 2) f._law_shown_text [.str s] w = .ok (.v (.str (sh s))) w := by
  rw [run__law_shown_text]
  unfold sh
  by_cases h : s = []
  · subst h; simp [b__law_shown_text]
  · simp [b__law_shown_text, h]
theorem shown_ok (s : List Nat) : den PG (k + 2) f.shown [.str s] w = .ok (.v (.str (sh s))) w := by
  rw [run_shown]
  unfold sh
  by_cases h : s = []
  · subst h; simp [b_shown]
  · simp [b_shown, h]
section
variable {t keeps turns drops : List Nat} {r : Rd}
theorem law_lines_ok (G : GoodP t r keeps turns drops) : den PG (k + 6) f._law_lines [partsD t keeps turns drops r.d] w = .ok (.o (.lst ((lns t r keeps turns drops).map D.str))) w := by
  obtain ⟨m, hm⟩ : ∃ m, k + 5 = m + r.dep + 2 := ⟨k + 3 - r.dep, by have := G.hdep; omega⟩
  have e1 : den PG (k + 5) f._law_reading_text [r.d] w = .ok (.v (.str r.tx)) w := by rw [hm]; exact law_rtext_ok r m G.hr G.hdep
  have e2 := law_shown_text_ok (w := w) (k := k + 3) keeps
  have e3 := law_shown_text_ok (w := w) (k := k + 3) drops
  have l1 := tx_len r G.hr
  have l2 := (tbl_mem G.ht).2
  have l3 := G.htlen
  have l4 := isSome_le G.hkeeps
  have l5 := isSome_le G.hdrops
  have l6 := sh_len keeps
  have l7 := sh_len drops
  have hd := G.hdep
  simp only [ABC, K03, List.length_cons, List.length_nil] at l4 l5
  have o1 := dOp_addS (a := [116, 97, 98, 108, 101, 32]) (b := t) (by rw [lim_eq]; simp; omega)
  have o2 := dOp_addS (a := [107, 101, 101, 112, 32]) (b := sh keeps) (by rw [lim_eq]; simp; omega)
  have o3 := dOp_addS (a := [116, 117, 114, 110, 32]) (b := turns) (by rw [lim_eq]; simp; omega)
  have o4 := dOp_addS (a := [100, 114, 111, 112, 32]) (b := sh drops) (by rw [lim_eq]; simp; omega)
  have o5 := dOp_addS (a := [114, 101, 97, 100, 32]) (b := r.tx) (by rw [lim_eq]; simp; omega)
  have o6 := dOp_addL (a := [.str ([116, 97, 98, 108, 101, 32] ++ t), .str ([107, 101, 101, 112, 32] ++ sh keeps), .str ([116, 117, 114, 110, 32] ++ turns)]) (b := [.str ([100, 114, 111, 112, 32] ++ sh drops), .str ([114, 101, 97, 100, 32] ++ r.tx)]) (by rw [lim_eq]; simp)
  rw [run__law_lines]
  simp only [List.cons_append, List.nil_append] at o1 o2 o3 o4 o5 o6
  simp [b__law_lines, partsD, lns, e1, e2, e3, o1, o2, o3, o4, o5, o6, dIdx]
/-- rows of words and texts -/
theorem kLc_rows (c1 c2 : Slot) (v0 v1 : Slot) (ps : List (List Nat × List Nat)) (hl : ps.length ≤ lim) (h : ∀ p ∈ ps, p.1.length + 2 + p.2.length ≤ 1000) :
    kLc (PG.gx (den PG (k + 2))) (.tp [2, 3]) .no e_write_1 [v0, v1, c1, c2] (ps.map fun p => .tup [.str p.1, .str p.2]) w = .ok (.o (.lst (ps.map fun p => .str (p.1 ++ [32] ++ sh p.2)))) w :=
  kLc_map hl fun p m => by
    have h := h p m
    have e := shown_ok (w := w) (k := k) p.2
    have l := sh_len p.2
    have o1 := dOp_addS (a := p.1) (b := [32]) (by rw [lim_eq]; simp; omega)
    have o2 := dOp_addS (a := p.1 ++ [32]) (b := sh p.2) (by rw [lim_eq]; simp; omega)
    simp [e_write_1, e, o1, o2]
theorem sh_of {s : List Nat} (h : 0 < s.length) : sh s = s := by
  unfold sh
  rw [if_neg (by intro e; rw [e] at h; cases h)]
theorem lns_len (G : GoodP t r keeps turns drops) : ((lns t r keeps turns drops).map (·.length)).sum + (lns t r keeps turns drops).length * 1 ≤ 1000 := by
  have l1 := tx_len r G.hr
  have l2 := (tbl_mem G.ht).2
  have l3 := G.htlen
  have l4 := isSome_le G.hkeeps
  have l5 := isSome_le G.hdrops
  have l6 := sh_len keeps
  have l7 := sh_len drops
  have hd := G.hdep
  simp only [ABC, K03, List.length_cons, List.length_nil] at l4 l5
  simp [lns]
  omega
theorem write_ok (G : GoodS t r keeps turns drops) : den PG (k + 7) f.write [prD t r keeps turns drops] w = .ok (.v (.str (joinS [10] (lns t r keeps turns drops)))) w := by
  obtain ⟨m, hm⟩ : ∃ m, k + 6 = m + r.dep + 3 := ⟨k + 3 - r.dep, by have := G.hdep; omega⟩
  have e1 : den PG (k + 6) f.reading_text [r.d] w = .ok (.v (.str r.tx)) w := by rw [hm]; exact rtext_ok r m G.hr G.sr G.hdep
  have l1 := tx_len r G.hr
  have l2 := (tbl_mem G.ht).2
  have l3 := G.htlen
  have l4 := isSome_le G.hkeeps
  have l5 := isSome_le G.hdrops
  have hd := G.hdep
  simp only [ABC, K03, List.length_cons, List.length_nil] at l4 l5
  have a1 := asc_abc G.sk
  have a2 := asc_k03 G.sd
  have lt : 0 < r.tx.length := by
    cases r <;> simp [Rd.tx, Rd.ws, joinS]
  have ls := lns_len G.toGoodP
  have j := dSm_joinW (l := lns t r keeps turns drops) (s := [10]) (by rw [lim_eq]; simp only [List.length_cons, List.length_nil]; omega)
  have q := kLc_rows (k := k + 4) (w := w) .u .u (.v (prD t r keeps turns drops)) (.v (.tup [.str t, .str keeps, .str turns, .str drops, .str r.tx])) [(wTb, t), (wKp, keeps), (wTn, turns), (wDp, drops), (wRd, r.tx)] (by rw [lim_eq]; simp) (by simp; omega)
  have s1 := sh_of (s := t) (by omega)
  have s2 := sh_of (s := turns) (by omega)
  have s3 := sh_of lt
  simp only [List.map_cons, List.map_nil, s1, s2, s3] at q
  simp only [lns, List.map_cons, List.map_nil] at j
  rw [run_write]
  simp only [List.cons_append, List.nil_append] at q j
  simp [b_write, a1, a2, e1, zpD, q, j, lns]
end
end
end My

set_option Elab.async false
set_option linter.all false
set_option maxRecDepth 100000
/-! S27: texts of programs, read. -/
namespace My
section
variable {w : Wd} {k : Nat}
theorem cut_from2 (a b : D) (l : List D) : dCut (.lst (a :: b :: l)) (some 2) none = some (.o (.lst l)) := by
  show some (Rv.o (.lst (((a :: b :: l).drop (min 2 (l.length + 2))).take ((l.length + 2) - min 2 (l.length + 2))))) = _
  rw [Nat.min_eq_left (by omega)]
  simp
theorem cut_from1 (a : D) (l : List D) : dCut (.lst (a :: l)) (some 1) none = some (.o (.lst l)) := by
  show some (Rv.o (.lst (((a :: l).drop (min 1 (l.length + 1))).take ((l.length + 1) - min 1 (l.length + 1))))) = _
  rw [Nat.min_eq_left (by omega)]
  simp
theorem idx0 (a : D) (l : List D) : dIdx (.lst (a :: l)) (.int 0) = some a := by
  show nth (a :: l) 0 = _
  unfold nth ixI
  rw [if_pos (Int.le_refl 0), if_pos (by simp only [List.length_cons]; omega)]
  rfl
theorem idx1 (a b : D) (l : List D) : dIdx (.lst (a :: b :: l)) (.int 1) = some b := by
  show nth (a :: b :: l) 1 = _
  unfold nth ixI
  rw [if_pos (by decide), if_pos (by simp; omega)]
  rfl
theorem tupL (l : List D) : dBi .tuple [.lst l] = some (.v (.tup l)) := rfl
theorem lenL (l : List D) : dBi .len [.lst l] = some (.v (.int l.length)) := rfl
theorem ws_pos (r : Rd) : 1 ≤ r.ws.length := by cases r <;> simp [Rd.ws]
theorem isn_rd (r : Rd) : isNon r.d = false := by cases r <;> rfl
theorem int_dig {n : Nat} (h : n ≤ 3) : dBi .int [.str [48 + n]] = some (.v (.int n)) := by
  match n, h with
  | 0, _ => rfl
  | 1, _ => rfl
  | 2, _ => rfl
  | 3, _ => rfl
theorem in_keys {n : Nat} (h : n ≤ 3) : dIn (.str [48 + n]) (.str K03) = some true := by
  match n, h with
  | 0, _ => rfl
  | 1, _ => rfl
  | 2, _ => rfl
  | 3, _ => rfl
theorem reading_of_ok : ∀ (r : Rd) (k : Nat), r.ok = true → den PG (k + r.dep + 2) f.reading_of [.lst (r.ws.map D.str)] w = .ok (.v r.d) w := by
  intro r
  induction r with
  | only ks r ih =>
    intro k h
    simp only [Rd.ok, Bool.and_eq_true, decide_eq_true_eq] at h
    have e1 : den PG (k + r.dep + 1 + 1) 78 [.lst (r.ws.map D.str)] w = .ok (.v r.d) w := ih k h.2
    have p := ws_pos r
    have n3 : ¬ ((r.ws.length : Int) + 1 + 1 < 3) := by omega
    have e0 := isn_rd r
    show den PG (k + r.dep + 3) _ _ _ = _
    rw [run_reading_of]
    simp [b_reading_of, Rd.ws, Rd.d, idx0, idx1, in_ow, lenL, n3, cut_from2, e1, e0]
  | within t r ih =>
    intro k h
    simp only [Rd.ok, Bool.and_eq_true] at h
    have e1 : den PG (k + r.dep + 1 + 1) 78 [.lst (r.ws.map D.str)] w = .ok (.v r.d) w := ih k h.2
    have p := ws_pos r
    have n3 : ¬ ((r.ws.length : Int) + 1 + 1 < 3) := by omega
    have e0 := isn_rd r
    show den PG (k + r.dep + 3) _ _ _ = _
    rw [run_reading_of]
    simp [b_reading_of, Rd.ws, Rd.d, idx0, idx1, in_ow, lenL, n3, cut_from2, e1, e0]
  | first n =>
    intro k h
    simp only [Rd.ok, decide_eq_true_eq] at h
    have e1 := int_dig h
    have e2 := in_keys h
    show den PG (k + 2) _ _ _ = _
    rw [run_reading_of]
    simp [b_reading_of, Rd.ws, Rd.d, idx0, idx1, in_ow, lenL, e1, e2]
  | items => intro k h; show den PG (k + 2) _ _ _ = _; rw [run_reading_of]; simp [b_reading_of, Rd.ws, Rd.d, idx0, in_ow, lenL, tupL]
  | count => intro k h; show den PG (k + 2) _ _ _ = _; rw [run_reading_of]; simp [b_reading_of, Rd.ws, Rd.d, idx0, in_ow, lenL, tupL]
  | last => intro k h; show den PG (k + 2) _ _ _ = _; rw [run_reading_of]; simp [b_reading_of, Rd.ws, Rd.d, idx0, in_ow, lenL, tupL]
  | late => intro k h; show den PG (k + 2) _ _ _ = _; rw [run_reading_of]; simp [b_reading_of, Rd.ws, Rd.d, idx0, in_ow, lenL, tupL]
theorem rd_loop : ∀ (r : Rd), r.ok = true → r.srt = true → ∃ x, wGo (PG.gx (den PG (k + 3))) t_is_reading_1 w_is_reading_1 [.v r.d, .v (.bl true)] w = .nx [x, .v (.bl true)] w := by
  intro r
  induction r with
  | only ks r ih =>
    intro h hs
    simp only [Rd.ok, Bool.and_eq_true, decide_eq_true_eq] at h
    simp only [Rd.srt, Bool.and_eq_true, decide_eq_true_eq] at hs
    obtain ⟨x, e⟩ := ih h.2 hs.2
    have e2 := ascending_ok (w := w) (k := k + 1) (s := ks) (by omega)
    rw [asc_k03 hs.1] at e2
    exact ⟨x, by rw [wGo_step (ρ' := [.v r.d, .v (.bl true)]) (w1 := w) (w' := w) (by simp [t_is_reading_1, Rd.d]) (by simp [w_is_reading_1, Rd.d, dIdx, e2]), e]⟩
  | within t r ih =>
    intro h hs
    simp only [Rd.ok, Bool.and_eq_true] at h
    simp only [Rd.srt] at hs
    obtain ⟨x, e⟩ := ih h.2 hs
    exact ⟨x, by rw [wGo_step (ρ' := [.v r.d, .v (.bl true)]) (w1 := w) (w' := w) (by simp [t_is_reading_1, Rd.d]) (by simp [w_is_reading_1, Rd.d, dIdx]), e]⟩
  | _ => intro h hs; exact ⟨_, wGo_stop (by simp [t_is_reading_1, Rd.d])⟩
theorem is_reading_ok (r : Rd) (h : r.ok = true) (hs : r.srt = true) (hd : r.dep ≤ 2) : den PG (k + 8) f.is_reading [r.d] w = .ok (.v (.bl true)) w := by
  obtain ⟨m, hm⟩ : ∃ m, k + 7 = m + r.dep + 5 := ⟨k + 2 - r.dep, by omega⟩
  have e1 : den PG (k + 7) f.check_reading [r.d, .int 0] w = .ok (.v .non) w := by
    rw [hm]
    exact check_reading_ok r 0 h (by omega)
  obtain ⟨x, e2⟩ := rd_loop (w := w) (k := k + 4) r h hs
  rw [run_is_reading]
  simp [b_is_reading, e1, e2]
theorem split_sp {s : List Nat} (h : s.length ≤ 1000) : dSm .split (.str s) [.str [32]] = some (.o (.lst ((splitS 32 s).map D.str))) := if_pos ⟨by rw [lim_eq]; omega, by decide⟩
theorem split_nl {s : List Nat} (h : s.length ≤ 10000) : dSm .split (.str s) [.str [10]] = some (.o (.lst ((splitS 10 s).map D.str))) := if_pos ⟨by rw [lim_eq]; omega, by decide⟩
/-- a part that is one text -/
theorem part_two {wd y x : List Nat} (hw : 32 ∉ wd) (hy : 32 ∉ y) (hr : wd ≠ wRd) (hy0 : y ≠ []) (hx : x = if y = [45] then [] else y) (hl : wd.length + y.length ≤ 900) (hp : den PG (k + 1) f.is_part [.str wd, .str x] w = .ok (.v (.bl true)) w) :
    den PG (k + 2) f.part_of [.str wd, .str (wd ++ 32 :: y)] w = .ok (.v (.str x)) w := by
  have e1 := split_sp (s := wd ++ 32 :: y) (by simp; omega)
  rw [split_cons hw, split_none hy] at e1
  simp only [List.map_cons, List.map_nil] at e1
  have hp' : den PG (k + 1) 80 [.str wd, .str x] w = .ok (.v (.bl true)) w := hp
  have hr' : ¬ wd = [114, 101, 97, 100] := hr
  rw [run_part_of]
  by_cases h45 : y = [45]
  · subst h45
    rw [if_pos rfl] at hx
    subst hx
    simp [b_part_of, e1, idx0, idx1, lenL, hr', hp']
  · rw [if_neg h45] at hx
    subst hx
    simp [b_part_of, e1, idx0, idx1, lenL, hr', h45, hy0, hp']
theorem part_rd {r : Rd} (h : r.ok = true) (hs : r.srt = true) (hd : r.dep ≤ 2) : den PG (k + 9) f.part_of [.str wRd, .str (wRd ++ 32 :: r.tx)] w = .ok (.v r.d) w := by
  have l1 := tx_len r h
  have e1 := split_sp (s := wRd ++ 32 :: r.tx) (by simp; omega)
  have sp : ∀ x ∈ r.ws, 32 ∉ x := fun x m hc => by have := ws_sign r h x m 32 hc; unfold wSign at this; omega
  rw [split_cons (by decide), split_join (ws_ne r) sp] at e1
  simp only [List.map_cons] at e1
  obtain ⟨m, hm⟩ : ∃ m, k + 8 = m + r.dep + 2 := ⟨k + 6 - r.dep, by omega⟩
  have e2 : den PG (k + 8) 78 [.lst (r.ws.map D.str)] w = .ok (.v r.d) w := by
    rw [hm]
    exact reading_of_ok r m h
  have e3 : den PG (k + 8) 79 [r.d] w = .ok (.v (.bl true)) w := is_reading_ok r h hs hd
  have p := ws_pos r
  have e0 := isn_rd r
  have n2 : ¬ ((r.ws.length : Int) + 1 < 2) := by omega
  rw [run_part_of]
  simp only [List.cons_append, List.nil_append] at e1
  simp [b_part_of, e1, idx0, idx1, lenL, cut_from1, e2, e3, e0, n2]
section
variable {t keeps turns drops : List Nat} {r : Rd}
theorem part_tb (h : isTable t = true) : den PG (k + 9) f.part_of [.str wTb, .str (wTb ++ 32 :: t)] w = .ok (.v (.str t)) w := by
  obtain ⟨h1, h2⟩ := tbl_mem h
  have e1 := is_table_str (k + 4) t w (by rw [h2, lim_eq]; decide)
  rw [h] at e1
  refine part_two (by decide) (fun m => ?_) (by decide) (by intro e; rw [e] at h2; cases h2) (by rw [if_neg]; intro e; rw [e] at h2; cases h2) (by simp; omega) ?_
  · have := k03_sign (h1 32 m); unfold wSign at this; omega
  · rw [run_is_part]
    simp [b_is_part, e1]
theorem part_tn (h : isOf ABC turns = true) (hl : turns.length = 6) : den PG (k + 9) f.part_of [.str wTn, .str (wTn ++ 32 :: turns)] w = .ok (.v (.str turns)) w := by
  have h1 := mem_of_isOf h
  have e1 := is_of_str (k + 5) turns ABC w (by rw [hl, lim_eq]; decide)
  rw [h] at e1
  have hA : ABC.length = 6 := rfl
  refine part_two (by decide) (fun m => ?_) (by decide) (by intro e; rw [e] at hl; cases hl) (by rw [if_neg]; intro e; rw [e] at hl; cases hl) (by simp; omega) ?_
  · have := abc_sign (h1 32 m); unfold wSign at this; omega
  · rw [run_is_part]
    simp [b_is_part, e1, hl, hA]
theorem sh_back {s : List Nat} (h : 45 ∉ s) : s = if sh s = [45] then [] else sh s := by
  unfold sh
  by_cases e : s = []
  · rw [if_pos e, if_pos rfl]; exact e
  · rw [if_neg e, if_neg]
    intro z
    exact h (by rw [z]; exact List.mem_cons_self)
theorem sh_ne (s : List Nat) : sh s ≠ [] := by
  unfold sh
  split
  · simp
  · assumption
theorem sh_no {s : List Nat} (h : 32 ∉ s) : 32 ∉ sh s := by
  unfold sh
  split
  · decide
  · exact h
theorem part_kp (h : isSome' ABC keeps 0 = true) (hs : keeps.Sublist ABC) : den PG (k + 9) f.part_of [.str wKp, .str (wKp ++ 32 :: sh keeps)] w = .ok (.v (.str keeps)) w := by
  have h1 := some_mem h
  have hl := isSome_le h
  have hl2 := sh_len keeps
  simp only [ABC, List.length_cons, List.length_nil] at hl
  have e1 : den PG (k + 7) f.is_some _ _ = _ := is_some_str (w := w) (k := k + 4) (s := keeps) (cs := ABC) (m := 0) (by rw [lim_eq]; omega)
  rw [h] at e1
  have e2 : den PG (k + 7) f.ascending _ _ = _ := ascending_ok (w := w) (k := k + 5) (s := keeps) (by omega)
  rw [asc_abc hs] at e2
  refine part_two (by decide) (sh_no fun m => ?_) (by decide) (sh_ne _) (sh_back fun m => ?_) (by simp; omega) ?_
  · have := (by decide : ∀ c ∈ ABC, c ≠ 32) 32 (h1 32 m); exact this rfl
  · have := (by decide : ∀ c ∈ ABC, c ≠ 45) 45 (h1 45 m); exact this rfl
  · have e1' : den PG (k + 7) f.is_some [.str keeps, .str ABC, .int 0] w = .ok (.v (.bl true)) w := e1
    rw [run_is_part]
    simp [b_is_part, e1', e2]
theorem part_dp (h : isSome' K03 drops 0 = true) (hs : drops.Sublist K03) : den PG (k + 9) f.part_of [.str wDp, .str (wDp ++ 32 :: sh drops)] w = .ok (.v (.str drops)) w := by
  have h1 := some_mem h
  have hl := isSome_le h
  have hl2 := sh_len drops
  simp only [K03, List.length_cons, List.length_nil] at hl
  have e1 : den PG (k + 7) f.is_some _ _ = _ := is_some_str (w := w) (k := k + 4) (s := drops) (cs := K03) (m := 0) (by rw [lim_eq]; omega)
  rw [h] at e1
  have e2 : den PG (k + 7) f.ascending _ _ = _ := ascending_ok (w := w) (k := k + 5) (s := drops) (by omega)
  rw [asc_k03 hs] at e2
  refine part_two (by decide) (sh_no fun m => ?_) (by decide) (sh_ne _) (sh_back fun m => ?_) (by simp; omega) ?_
  · have := (by decide : ∀ c ∈ K03, c ≠ 32) 32 (h1 32 m); exact this rfl
  · have := (by decide : ∀ c ∈ K03, c ≠ 45) 45 (h1 45 m); exact this rfl
  · have e1' : den PG (k + 7) f.is_some [.str drops, .str K03, .int 0] w = .ok (.v (.bl true)) w := e1
    rw [run_is_part]
    simp [b_is_part, e1', e2]
theorem lns_nl (G : GoodP t r keeps turns drops) : ∀ x ∈ lns t r keeps turns drops, 10 ∉ x := by
  have a1 : 10 ∉ t := fun m => by have := k03_sign ((tbl_mem G.ht).1 10 m); unfold wSign at this; omega
  have a2 : 10 ∉ turns := fun m => by have := abc_sign (mem_of_isOf G.hturns 10 m); unfold wSign at this; omega
  have a3 : 10 ∉ sh keeps := by
    unfold sh
    split
    · decide
    · exact fun m => by have := abc_sign (some_mem G.hkeeps 10 m); unfold wSign at this; omega
  have a4 : 10 ∉ sh drops := by
    unfold sh
    split
    · decide
    · exact fun m => by have := k03_sign (some_mem G.hdrops 10 m); unfold wSign at this; omega
  have a5 : 10 ∉ r.tx := by
    have : ∀ (l : List (List Nat)), (∀ x ∈ l, 10 ∉ x) → 10 ∉ joinS [32] l := fun l => by
      induction l with
      | nil => intro _; simp [joinS]
      | cons x l ih =>
        intro h
        cases l with
        | nil => exact h x List.mem_cons_self
        | cons y l =>
          rw [joinS_cons (by simp)]
          have := ih fun z m => h z (List.mem_cons_of_mem _ m)
          have := h x List.mem_cons_self
          simp [*]
    exact this r.ws fun x m hc => by have := ws_sign r G.hr x m 10 hc; unfold wSign at this; omega
  intro x m
  simp only [lns, List.mem_cons, List.not_mem_nil, or_false] at m
  rcases m with rfl | rfl | rfl | rfl | rfl <;> simp [a1, a2, a3, a4, a5]
/-- a turn of read -/
theorem read_turn {tx : D} {ls acc xs : List D} {q3 q4 q5 : Slot} {i : Nat} {wd ln : List Nat} {x : D} (hi : i < ls.length) (hn : dIdx (.lst ls) (.int i) = some (.str ln)) (hp : den PG (k + 1) 77 [.str wd, .str ln] w = .ok (.v x) w) (hx : isNon x = false) (hdr : deref w x = x) (ha : acc.length < lim) :
    forGo (.tp [3, 4]) (evSs (PG.gx (den PG (k + 1))) l_read_1) (.tup [.int i, .str wd] :: xs) [.v tx, .v (.lst ls), .o (.lst acc), q3, q4, q5] w = forGo (.tp [3, 4]) (evSs (PG.gx (den PG (k + 1))) l_read_1) xs [.v tx, .v (.lst ls), .o (.lst (acc ++ [x])), .v (.int i), .v (.str wd), .v x] w := by
  exact forGo_step (ρ1 := [.v tx, .v (.lst ls), .o (.lst acc), .v (.int i), .v (.str wd), q5]) rfl (by simp [l_read_1, lenL, hi, hn, hp, hx, hdr, evS_appK, ha])
theorem read_ok (G : GoodS t r keeps turns drops) : den PG (k + 11) f.read [.str (joinS [10] (lns t r keeps turns drops))] w = .ok (.o (prO t r keeps turns drops)) w := by
  have ls := lns_len G.toGoodP
  have hj := joinS_len [10] (lns t r keeps turns drops)
  simp only [List.length_cons, List.length_nil] at hj
  have e1 := split_nl (s := joinS [10] (lns t r keeps turns drops)) (by omega)
  rw [split_join (by simp [lns]) (lns_nl G.toGoodP)] at e1
  have p1 := part_tb (k := k + 1) (w := w) G.ht
  have p2 := part_kp (k := k + 1) (w := w) G.hkeeps G.sk
  have p3 := part_tn (k := k + 1) (w := w) G.hturns G.htlen
  have p4 := part_dp (k := k + 1) (w := w) G.hdrops G.sd
  have p5 := part_rd (k := k + 1) (w := w) G.hr G.sr G.hdep
  have pk := program_ok (k := k) (w := w) G.toGoodP
  have e0 := isn_rd r
  rw [run_read]
  simp only [lns, List.map_cons, List.map_nil, List.append_assoc, List.singleton_append] at e1
  simp only [List.cons_append, List.nil_append] at e1 p1 p2 p3 p4 p5
  have e2 : forGo (.tp [3, 4]) (evSs (PG.gx (den PG (k + 9 + 1))) l_read_1) [.tup [.int 0, .str wTb], .tup [.int 1, .str wKp], .tup [.int 2, .str wTn], .tup [.int 3, .str wDp], .tup [.int 4, .str wRd]]
      [.v (.str (joinS [10] (lns t r keeps turns drops))), .v (.lst [.str (116 :: 97 :: 98 :: 108 :: 101 :: 32 :: t), .str (107 :: 101 :: 101 :: 112 :: 32 :: sh keeps), .str (116 :: 117 :: 114 :: 110 :: 32 :: turns), .str (100 :: 114 :: 111 :: 112 :: 32 :: sh drops), .str (114 :: 101 :: 97 :: 100 :: 32 :: r.tx)]), .o (.lst []), .u, .u, .u] w =
      .nx [.v (.str (joinS [10] (lns t r keeps turns drops))), .v (.lst [.str (116 :: 97 :: 98 :: 108 :: 101 :: 32 :: t), .str (107 :: 101 :: 101 :: 112 :: 32 :: sh keeps), .str (116 :: 117 :: 114 :: 110 :: 32 :: turns), .str (100 :: 114 :: 111 :: 112 :: 32 :: sh drops), .str (114 :: 101 :: 97 :: 100 :: 32 :: r.tx)]), .o (.lst [.str t, .str keeps, .str turns, .str drops, r.d]), .v (.int 4), .v (.str wRd), .v r.d] w := by
    refine (read_turn (i := 0) (by simp) rfl p1 rfl rfl (by decide)).trans ?_
    refine (read_turn (i := 1) (by simp) rfl p2 rfl rfl (by rw [lim_eq]; simp)).trans ?_
    refine (read_turn (i := 2) (by simp) rfl p3 rfl rfl (by rw [lim_eq]; simp)).trans ?_
    refine (read_turn (i := 3) (by simp) rfl p4 rfl rfl (by rw [lim_eq]; simp)).trans ?_
    refine (read_turn (i := 4) (by simp) rfl p5 e0 (deref_rd r) (by rw [lim_eq]; simp)).trans ?_
    rfl
  simp only [lns, List.append_assoc, List.singleton_append, List.cons_append, List.nil_append] at e2
  simp [b_read, lns, e1, enmD, e2, lenL, dIdx, pk]
end
end
end My

set_option Elab.async false
set_option linter.all false
set_option maxRecDepth 100000
/-! L17: the law k17. -/
namespace My
namespace L17
theorem law (ns : List Int) : ∃ w', den PG 60 f.law_k17 [.kl (ns.map D.int)] [] = .ok (.v (.bl true)) w' := by
  have hb := law_begin_ok 57 (ns.map D.int) []
  obtain ⟨t, r, keeps, turns, drops, d1, e1, G, hd1⟩ := law_parts_ok (k := 49) (ws := []) (dr_begin ns)
  have e2 := law_made_ok (w := [d1]) (k := 47) G.toGoodP
  have e3 := write_ok (w := [d1]) (k := 52) G
  have e4 := law_lines_ok (w := [d1]) (k := 53) G.toGoodP
  have e5 := read_ok (w := [d1]) (k := 48) G
  have e6 := prog_eq_ok (w := [d1]) (k := 56) (t := t) (keeps := keeps) (turns := turns) (drops := drops) (t' := t) (keeps' := keeps) (turns' := turns) (drops' := drops) G.hdep G.hdep
  rw [sameP_refl G.hdep] at e6
  have i1 := isCls_pr (w := [d1]) (t := t) (r := r) (keeps := keeps) (turns := turns) (drops := drops)
  have ls := lns_len G.toGoodP
  have j := dSm_joinW (l := lns t r keeps turns drops) (s := [10]) (by rw [lim_eq]; simp only [List.length_cons, List.length_nil]; omega)
  have pp : pEq (.str (joinS [10] (lns t r keeps turns drops))) (.str (joinS [10] (lns t r keeps turns drops))) = some true := pEq_refl rfl
  rw [run_law_k17 58]
  refine ⟨[d1], ?_⟩
  simp only [partsD] at e1 e2 e4
  simp [b_law_k17, r_law_k17_0, s_law_k17_0, r_law_k17_1, s_law_k17_1, r_law_k17_2, s_law_k17_2, r_law_k17_3, s_law_k17_3, r_law_k17_4, s_law_k17_4, r_law_k17_5, s_law_k17_5, r_law_k17_6, s_law_k17_6,
    hb, e1, partsD, e2, e3, e4, e5, e6, i1, j, pp]
end L17
end My

set_option Elab.async false
set_option linter.all false
set_option maxRecDepth 100000
set_option maxHeartbeats 4000000
namespace My
namespace Tk17
open PySem
def top (i : Nat) : PySem.Stmt := PySem.Challenge.pw_nextalike_k17_texts_there_and_back.main.body.getD i (.Pass ⟨0, 0, 0, 0⟩)
def inCls (s : PySem.Stmt) (j : Nat) : PySem.Stmt := match s with
  | .ClassDef _ _ _ b _ _ _ _ _ _ _ => b.getD j (.Pass ⟨0, 0, 0, 0⟩)
  | _ => .Pass ⟨0, 0, 0, 0⟩
def sta : Sta where
  N := []
  sc := PySem.Scope.mk .function [] false false []
  cm := true
  fnl := (["", "_law_begin", "_law_table", "_law_draw", "", "", "", "", "", "", "", "", "", "", "", "", "", "", "", "is_of"] : List PySem.Str) ++ (["is_table", "", "", "", "", "", "", "", "", "", "", "", "", "", "", "", "", "", "", ""] : List PySem.Str) ++ (["_law_parts", "", "", "_law_made", "_law_some", "_law_reading", "", "", "", "", "check_reading", "is_some", "ascending", "is_plain", "", "", "", "", "", ""] : List PySem.Str) ++ (["", "", "", "", "", "", "", "", "", "law", "write", "_law_lines", "read", "reading_text", "shown", "_law_shown_text", "_law_reading_text", "part_of", "reading_of", "is_reading"] : List PySem.Str) ++ (["is_part"] : List PySem.Str)
  cnl := (["GroupError", "BadLetters", "BadTable", "BadKeys", "BadItems", "Empty", "Spent", "NothingToUndo", "BadSource", "BadReading", "BadLine", "NoPart", "Stream", "Handle", "Walker", "Source", "Program", "Spot", "Machine", "Desk"] : List PySem.Str)
  mnl := (["take", "left", "rest", "taken", "next_of", "ask", "parts", "mark", "step", "last", "answer", "change", "undo", "agrees", "splits", "trial", "program", "source", "__eq__", "__and__"] : List PySem.Str) ++ (["__contains__", "__len__"] : List PySem.Str)
  gnl := (["ITEMS", "KEYS", "MOST", "LONGEST", "DEEPEST", "WORDS", "PARTS", "PLAIN"] : List PySem.Str)
  gdl := (["PLACES"] : List PySem.Str)
  fll := (["items_left", "walker", "key", "number", "stream", "table", "over", "held", "index", "depth", "line", "part", "letters", "promises", "reading", "keeps", "turns", "drops", "note", "known"] : List PySem.Str) ++ (["begin", "rows", "ends", "pair", "past"] : List PySem.Str)
  xcl := [0, 1, 2, 3]
  zl := [1, 2, 3]
  okF := [(1, 1), (2, 1), (3, 2), (19, 2), (20, 1), (40, 1), (43, 1), (44, 3), (45, 2), (50, 2), (51, 3), (52, 1), (53, 1), (70, 1), (71, 1), (72, 1), (73, 1), (74, 1), (75, 1), (76, 1), (77, 2), (78, 1), (79, 1), (80, 2)]
  okT := [(62, 16, 18, 1), (65, 16, 6, 0)]
  okM := [(49, 16, 5)]
  okA := [(16, 5), (16, 14), (16, 15), (16, 16), (16, 17)]
  okG := [0, 1, 4, 5]
  okD := []
  okI := [16]
def s_law_k17 : PySem.Stmt := (top 40)
def d_law_k17 : DefI := ⟨.fn, ⟨("law", none), "law", "law", L2.defArgs s_law_k17, L2.defBody s_law_k17, L2.defScope s_law_k17, [], []⟩, ["_law_script", "_law_draws", "_law_parts_here", "_law_program", "_law_text", "_law_again"], ["_law_script"]⟩
def s__law_begin : PySem.Stmt := (top 30)
def d__law_begin : DefI := ⟨.fn, ⟨("_law_begin", none), "_law_begin", "_law_begin", L2.defArgs s__law_begin, L2.defBody s__law_begin, L2.defScope s__law_begin, [], []⟩, ["_law_script"], ["_law_script"]⟩
def s__law_parts : PySem.Stmt := (top 35)
def d__law_parts : DefI := ⟨.fn, ⟨("_law_parts", none), "_law_parts", "_law_parts", L2.defArgs s__law_parts, L2.defBody s__law_parts, L2.defScope s__law_parts, [], []⟩, ["_law_draws", "_law_keeps", "_law_turns", "_law_drops", "_law_k"], ["_law_draws"]⟩
def s__law_made : PySem.Stmt := (top 36)
def d__law_made : DefI := ⟨.fn, ⟨("_law_made", none), "_law_made", "_law_made", L2.defArgs s__law_made, L2.defBody s__law_made, L2.defScope s__law_made, [], []⟩, ["_law_parts_here"], ["_law_parts_here"]⟩
def s_write : PySem.Stmt := (top 23)
def d_write : DefI := ⟨.fn, ⟨("write", none), "write", "write", L2.defArgs s_write, L2.defBody s_write, L2.defScope s_write, [], []⟩, ["program", "rows", "word", "row"], ["program"]⟩
def s__law_lines : PySem.Stmt := (top 39)
def d__law_lines : DefI := ⟨.fn, ⟨("_law_lines", none), "_law_lines", "_law_lines", L2.defArgs s__law_lines, L2.defBody s__law_lines, L2.defScope s__law_lines, [], []⟩, ["_law_parts_here", "_law_rows"], ["_law_parts_here"]⟩
def s_read : PySem.Stmt := (top 28)
def d_read : DefI := ⟨.fn, ⟨("read", none), "read", "read", L2.defArgs s_read, L2.defBody s_read, L2.defScope s_read, [], []⟩, ["text", "lines", "found", "at", "word", "part"], ["text"]⟩
def s_Program__eq__ : PySem.Stmt := (inCls (top 18) 2)
def d_Program__eq__ : DefI := ⟨.mt 16 18, ⟨("Program", some "__eq__"), "__eq__", "Program.__eq__", L2.defArgs s_Program__eq__, L2.defBody s_Program__eq__, L2.defScope s_Program__eq__, [], []⟩, ["self", "other"], ["self", "other"]⟩
def s__law_draw : PySem.Stmt := (top 31)
def d__law_draw : DefI := ⟨.fn, ⟨("_law_draw", none), "_law_draw", "_law_draw", L2.defArgs s__law_draw, L2.defBody s__law_draw, L2.defScope s__law_draw, [], []⟩, ["_law_draws", "_law_many", "_law_found", "_law_cell"], ["_law_draws", "_law_many"]⟩
def s__law_some : PySem.Stmt := (top 33)
def d__law_some : DefI := ⟨.fn, ⟨("_law_some", none), "_law_some", "_law_some", L2.defArgs s__law_some, L2.defBody s__law_some, L2.defScope s__law_some, [], []⟩, ["_law_draws", "_law_characters", "_law_lowest", "_law_found", "_law_one"], ["_law_draws", "_law_characters", "_law_lowest"]⟩
def s__law_reading : PySem.Stmt := (top 34)
def d__law_reading : DefI := ⟨.fn, ⟨("_law_reading", none), "_law_reading", "_law_reading", L2.defArgs s__law_reading, L2.defBody s__law_reading, L2.defScope s__law_reading, [], []⟩, ["_law_draws", "_law_deep", "_law_at"], ["_law_draws", "_law_deep"]⟩
def s__law_table : PySem.Stmt := (top 32)
def d__law_table : DefI := ⟨.fn, ⟨("_law_table", none), "_law_table", "_law_table", L2.defArgs s__law_table, L2.defBody s__law_table, L2.defScope s__law_table, [], []⟩, ["_law_draws", "_law_many", "_law_k"], ["_law_draws"]⟩
def s_Program__init__ : PySem.Stmt := (inCls (top 18) 0)
def d_Program__init__ : DefI := ⟨.mk 16, ⟨("Program", some "__init__"), "__init__", "Program.__init__", L2.defArgs s_Program__init__, L2.defBody s_Program__init__, L2.defScope s_Program__init__, [.str "abcdef", .str "abcdef", .str ""], []⟩, ["self", "table", "reading", "keeps", "turns", "drops"], ["self", "table", "reading", "keeps", "turns", "drops"]⟩
def s_reading_text : PySem.Stmt := (top 22)
def d_reading_text : DefI := ⟨.fn, ⟨("reading_text", none), "reading_text", "reading_text", L2.defArgs s_reading_text, L2.defBody s_reading_text, L2.defScope s_reading_text, [], []⟩, ["reading", "words", "part"], ["reading"]⟩
def s_shown : PySem.Stmt := (top 21)
def d_shown : DefI := ⟨.fn, ⟨("shown", none), "shown", "shown", L2.defArgs s_shown, L2.defBody s_shown, L2.defScope s_shown, [], []⟩, ["text"], ["text"]⟩
def s__law_shown_text : PySem.Stmt := (top 37)
def d__law_shown_text : DefI := ⟨.fn, ⟨("_law_shown_text", none), "_law_shown_text", "_law_shown_text", L2.defArgs s__law_shown_text, L2.defBody s__law_shown_text, L2.defScope s__law_shown_text, [], []⟩, ["_law_text"], ["_law_text"]⟩
def s__law_reading_text : PySem.Stmt := (top 38)
def d__law_reading_text : DefI := ⟨.fn, ⟨("_law_reading_text", none), "_law_reading_text", "_law_reading_text", L2.defArgs s__law_reading_text, L2.defBody s__law_reading_text, L2.defScope s__law_reading_text, [], []⟩, ["_law_reading_here", "_law_words", "_law_one"], ["_law_reading_here"]⟩
def s_part_of : PySem.Stmt := (top 27)
def d_part_of : DefI := ⟨.fn, ⟨("part_of", none), "part_of", "part_of", L2.defArgs s_part_of, L2.defBody s_part_of, L2.defScope s_part_of, [], []⟩, ["word", "line", "words", "text", "reading"], ["word", "line"]⟩
def s_Program_parts : PySem.Stmt := (inCls (top 18) 1)
def d_Program_parts : DefI := ⟨.mt 16 6, ⟨("Program", some "parts"), "parts", "Program.parts", L2.defArgs s_Program_parts, L2.defBody s_Program_parts, L2.defScope s_Program_parts, [], []⟩, ["self"], ["self"]⟩
def s_is_table : PySem.Stmt := (top 12)
def d_is_table : DefI := ⟨.fn, ⟨("is_table", none), "is_table", "is_table", L2.defArgs s_is_table, L2.defBody s_is_table, L2.defScope s_is_table, [], []⟩, ["value"], ["value"]⟩
def s_check_reading : PySem.Stmt := (top 17)
def d_check_reading : DefI := ⟨.fn, ⟨("check_reading", none), "check_reading", "check_reading", L2.defArgs s_check_reading, L2.defBody s_check_reading, L2.defScope s_check_reading, [], []⟩, ["value", "depth"], ["value", "depth"]⟩
def s_is_some : PySem.Stmt := (top 11)
def d_is_some : DefI := ⟨.fn, ⟨("is_some", none), "is_some", "is_some", L2.defArgs s_is_some, L2.defBody s_is_some, L2.defScope s_is_some, [], []⟩, ["value", "characters", "least", "one"], ["value", "characters", "least"]⟩
def s_is_of : PySem.Stmt := (top 10)
def d_is_of : DefI := ⟨.fn, ⟨("is_of", none), "is_of", "is_of", L2.defArgs s_is_of, L2.defBody s_is_of, L2.defScope s_is_of, [], []⟩, ["value", "characters", "one"], ["value", "characters"]⟩
def s_ascending : PySem.Stmt := (top 13)
def d_ascending : DefI := ⟨.fn, ⟨("ascending", none), "ascending", "ascending", L2.defArgs s_ascending, L2.defBody s_ascending, L2.defScope s_ascending, [], []⟩, ["text"], ["text"]⟩
def s_reading_of : PySem.Stmt := (top 24)
def d_reading_of : DefI := ⟨.fn, ⟨("reading_of", none), "reading_of", "reading_of", L2.defArgs s_reading_of, L2.defBody s_reading_of, L2.defScope s_reading_of, [], []⟩, ["words", "inner"], ["words"]⟩
def s_is_reading : PySem.Stmt := (top 25)
def d_is_reading : DefI := ⟨.fn, ⟨("is_reading", none), "is_reading", "is_reading", L2.defArgs s_is_reading, L2.defBody s_is_reading, L2.defScope s_is_reading, [], []⟩, ["reading", "good"], ["reading"]⟩
def s_is_part : PySem.Stmt := (top 26)
def d_is_part : DefI := ⟨.fn, ⟨("is_part", none), "is_part", "is_part", L2.defArgs s_is_part, L2.defBody s_is_part, L2.defScope s_is_part, [], []⟩, ["word", "text"], ["word", "text"]⟩
def s_is_plain : PySem.Stmt := (top 16)
def d_is_plain : DefI := ⟨.fn, ⟨("is_plain", none), "is_plain", "is_plain", L2.defArgs s_is_plain, L2.defBody s_is_plain, L2.defScope s_is_plain, [], []⟩, ["value"], ["value"]⟩
def md : Md := ⟨PG, sta, [(69, d_law_k17), (1, d__law_begin), (40, d__law_parts), (43, d__law_made), (70, d_write), (71, d__law_lines), (72, d_read), (62, d_Program__eq__), (3, d__law_draw), (44, d__law_some), (45, d__law_reading), (2, d__law_table), (49, d_Program__init__), (73, d_reading_text), (74, d_shown), (75, d__law_shown_text), (76, d__law_reading_text), (77, d_part_of), (65, d_Program_parts), (20, d_is_table), (50, d_check_reading), (51, d_is_some), (19, d_is_of), (52, d_ascending), (78, d_reading_of), (79, d_is_reading), (80, d_is_part), (53, d_is_plain)]⟩
theorem bd_law_k17 : BndOk d_law_k17 := .inl ⟨rfl, fun _ _ _ _ _ _ us hl => match us, hl with
  | [_], _ => rfl⟩
theorem bd__law_begin : BndOk d__law_begin := .inl ⟨rfl, fun _ _ _ _ _ _ us hl => match us, hl with
  | [_], _ => rfl⟩
theorem bd__law_parts : BndOk d__law_parts := .inl ⟨rfl, fun _ _ _ _ _ _ us hl => match us, hl with
  | [_], _ => rfl⟩
theorem bd__law_made : BndOk d__law_made := .inl ⟨rfl, fun _ _ _ _ _ _ us hl => match us, hl with
  | [_], _ => rfl⟩
theorem bd_write : BndOk d_write := .inl ⟨rfl, fun _ _ _ _ _ _ us hl => match us, hl with
  | [_], _ => rfl⟩
theorem bd__law_lines : BndOk d__law_lines := .inl ⟨rfl, fun _ _ _ _ _ _ us hl => match us, hl with
  | [_], _ => rfl⟩
theorem bd_read : BndOk d_read := .inl ⟨rfl, fun _ _ _ _ _ _ us hl => match us, hl with
  | [_], _ => rfl⟩
theorem bd_Program__eq__ : BndOk d_Program__eq__ := .inl ⟨rfl, fun _ _ _ _ _ _ us hl => match us, hl with
  | [_, _], _ => rfl⟩
theorem bd__law_draw : BndOk d__law_draw := .inl ⟨rfl, fun _ _ _ _ _ _ us hl => match us, hl with
  | [_, _], _ => rfl⟩
theorem bd__law_some : BndOk d__law_some := .inl ⟨rfl, fun _ _ _ _ _ _ us hl => match us, hl with
  | [_, _, _], _ => rfl⟩
theorem bd__law_reading : BndOk d__law_reading := .inl ⟨rfl, fun _ _ _ _ _ _ us hl => match us, hl with
  | [_, _], _ => rfl⟩
theorem bd__law_table : BndOk d__law_table := .inl ⟨rfl, fun _ _ _ _ _ _ us hl => match us, hl with
  | [_], _ => rfl⟩
theorem bd_Program__init__ : BndOk d_Program__init__ := .inr ⟨(by intro z; cases z), fun _ _ _ _ _ _ _ us its h1 h2 => match us, its, h1, h2 with
  | [_, _, _, _, _, _], [_, _, _], _, _ => ⟨_, rfl, rfl⟩⟩
theorem bd_reading_text : BndOk d_reading_text := .inl ⟨rfl, fun _ _ _ _ _ _ us hl => match us, hl with
  | [_], _ => rfl⟩
theorem bd_shown : BndOk d_shown := .inl ⟨rfl, fun _ _ _ _ _ _ us hl => match us, hl with
  | [_], _ => rfl⟩
theorem bd__law_shown_text : BndOk d__law_shown_text := .inl ⟨rfl, fun _ _ _ _ _ _ us hl => match us, hl with
  | [_], _ => rfl⟩
theorem bd__law_reading_text : BndOk d__law_reading_text := .inl ⟨rfl, fun _ _ _ _ _ _ us hl => match us, hl with
  | [_], _ => rfl⟩
theorem bd_part_of : BndOk d_part_of := .inl ⟨rfl, fun _ _ _ _ _ _ us hl => match us, hl with
  | [_, _], _ => rfl⟩
theorem bd_Program_parts : BndOk d_Program_parts := .inl ⟨rfl, fun _ _ _ _ _ _ us hl => match us, hl with
  | [_], _ => rfl⟩
theorem bd_is_table : BndOk d_is_table := .inl ⟨rfl, fun _ _ _ _ _ _ us hl => match us, hl with
  | [_], _ => rfl⟩
theorem bd_check_reading : BndOk d_check_reading := .inl ⟨rfl, fun _ _ _ _ _ _ us hl => match us, hl with
  | [_, _], _ => rfl⟩
theorem bd_is_some : BndOk d_is_some := .inl ⟨rfl, fun _ _ _ _ _ _ us hl => match us, hl with
  | [_, _, _], _ => rfl⟩
theorem bd_is_of : BndOk d_is_of := .inl ⟨rfl, fun _ _ _ _ _ _ us hl => match us, hl with
  | [_, _], _ => rfl⟩
theorem bd_ascending : BndOk d_ascending := .inl ⟨rfl, fun _ _ _ _ _ _ us hl => match us, hl with
  | [_], _ => rfl⟩
theorem bd_reading_of : BndOk d_reading_of := .inl ⟨rfl, fun _ _ _ _ _ _ us hl => match us, hl with
  | [_], _ => rfl⟩
theorem bd_is_reading : BndOk d_is_reading := .inl ⟨rfl, fun _ _ _ _ _ _ us hl => match us, hl with
  | [_], _ => rfl⟩
theorem bd_is_part : BndOk d_is_part := .inl ⟨rfl, fun _ _ _ _ _ _ us hl => match us, hl with
  | [_, _], _ => rfl⟩
theorem bd_is_plain : BndOk d_is_plain := .inl ⟨rfl, fun _ _ _ _ _ _ us hl => match us, hl with
  | [_], _ => rfl⟩
theorem bds : ∀ (i : Nat) (D : DefI), md.at i = some D → BndOk D := fun i D h => by
  have h := lookup_mem h
  simp only [md, List.mem_cons, List.mem_nil_iff, Prod.mk.injEq, or_false] at h
  rcases h with ⟨-, rfl⟩ | ⟨-, rfl⟩ | ⟨-, rfl⟩ | ⟨-, rfl⟩ | ⟨-, rfl⟩ | ⟨-, rfl⟩ | ⟨-, rfl⟩ | ⟨-, rfl⟩ | ⟨-, rfl⟩ | ⟨-, rfl⟩ | ⟨-, rfl⟩ | ⟨-, rfl⟩ | ⟨-, rfl⟩ | ⟨-, rfl⟩ | ⟨-, rfl⟩ | ⟨-, rfl⟩ | ⟨-, rfl⟩ | ⟨-, rfl⟩ | ⟨-, rfl⟩ | ⟨-, rfl⟩ | ⟨-, rfl⟩ | ⟨-, rfl⟩ | ⟨-, rfl⟩ | ⟨-, rfl⟩ | ⟨-, rfl⟩ | ⟨-, rfl⟩ | ⟨-, rfl⟩ | ⟨-, rfl⟩
  · exact bd_law_k17
  · exact bd__law_begin
  · exact bd__law_parts
  · exact bd__law_made
  · exact bd_write
  · exact bd__law_lines
  · exact bd_read
  · exact bd_Program__eq__
  · exact bd__law_draw
  · exact bd__law_some
  · exact bd__law_reading
  · exact bd__law_table
  · exact bd_Program__init__
  · exact bd_reading_text
  · exact bd_shown
  · exact bd__law_shown_text
  · exact bd__law_reading_text
  · exact bd_part_of
  · exact bd_Program_parts
  · exact bd_is_table
  · exact bd_check_reading
  · exact bd_is_some
  · exact bd_is_of
  · exact bd_ascending
  · exact bd_reading_of
  · exact bd_is_reading
  · exact bd_is_part
  · exact bd_is_plain
theorem hf : flOk md.S.fll = true := by decide +kernel
theorem ok1 : defsB md md.ds md.P.fns = true := by kernel_rfl
theorem okA : md.ok = true := by kernel_rfl
theorem okF : md.okfa = true := by kernel_rfl
end Tk17
end My

set_option maxHeartbeats 0
namespace My
namespace Tk17
open PySem PySem.Spec PyProof.Rows L2
def loose : List PySem.Str := "GroupError" :: "BadLetters" :: "BadTable" :: "BadKeys" :: "BadReading" :: "BadLine" :: "ITEMS" :: "KEYS" :: "is_of" :: "is_some" :: "is_table" :: "ascending" :: "DEEPEST" :: "is_plain" :: "check_reading" :: "Program" :: "WORDS" :: "shown" :: "reading_text" :: "write" :: "reading_of" :: "is_reading" :: "is_part" :: "part_of" :: "read" :: "_law_begin" :: "_law_draw" :: "_law_table" :: "_law_some" :: "_law_reading" :: "_law_parts" :: "_law_made" :: "_law_shown_text" :: "_law_reading_text" :: "_law_lines" :: []
abbrev Rw : PySem.W.OpenRow := PySem.W.OpenLaw.row PySem.Challenge.rw_nextalike_k17_texts_there_and_back
abbrev hk : PySem.W.Hook := He.hookX 4 md.fa (md.ds.map (·.2.d)) md.ts [] md.ex
def ob (s : PySem.W.SharedT) : He.AlX := He.obsX 4 md.fa (md.ds.map (·.2.d)) md.ts [] md.ex (HandSHeadRun.getT s)
theorem ob_eq (s : PySem.W.SharedT) : ob s = hk.obs s.abs := He.obsX_eq (HandSHeadRun.getT_eq s)
theorem run (w : World) : HandSHeadRun.RunEq Rw (PySem.W.view Rw.prog [40]) hk ob 8000 loose w := by
  refine PySem.W.byRow2 "special-get-raises" (P := fun w => HandSHeadRun.RunEq Rw (PySem.W.view Rw.prog [40]) hk ob 8000 loose w) ?_ ?_ w
  · intro w os
    kernel_rfl
  · intro w os
    kernel_rfl
end Tk17
end My
open PySem PySem.W PySem.Calls PyProof.Rows

theorem PySem.Challenge.cw_nextalike_k17_texts_there_and_back_holds : PySem.Challenge.rw_nextalike_k17_texts_there_and_back.Holds := by
  w_on; o_law
  refine HandSHeadRun.head_any (r := OpenLaw.row PySem.Challenge.rw_nextalike_k17_texts_there_and_back) (q := view (OpenLaw.row PySem.Challenge.rw_nextalike_k17_texts_there_and_back).prog [40]) (H := My.Tk17.hk) (ob := My.Tk17.ob) (M := 8000) (loose := My.Tk17.loose) (d := HandSHeadRun.topDef (OpenLaw.row PySem.Challenge.rw_nextalike_k17_texts_there_and_back).prog 40) (kwd := []) My.Tk17.ob_eq
    (by kernel_rfl) (fun s => by kernel_rfl) My.Tk17.run (by kernel_rfl) (by kernel_rfl) (by kernel_rfl) (by rfl) (by first | assumption | decide +kernel) (by decide +kernel) ⟨rfl, rfl, rfl, rfl, rfl, by decide +kernel⟩ ?hw ?hc
  case hw => w_witness2
  case hc =>
    exact My.walk_my (l := PySem.Challenge.rw_nextalike_k17_texts_there_and_back) (n := 63) (k := 60) (i := 69) (x := "_law_script") (M := My.Tk17.md) (D := My.Tk17.d_law_k17) My.Tk17.hf My.Tk17.okA My.Tk17.okF My.Tk17.bds rfl (by decide) (by kernel_rfl) ⟨rfl, by decide, by decide⟩ rfl rfl rfl (by kernel_rfl) rfl (fun ns _ => My.L17.law ns)

