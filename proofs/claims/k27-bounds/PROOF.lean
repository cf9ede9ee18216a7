import PyProof.Rows.All
import Wide.All
import OpenK.AllK
import Wide.FinOn
import KE.KStateDown
import HandS.Ends
import HandS.More
import HandS.Words
import HandS.WordsExc
import HandS.ExcIs
import HandS.ExcInit
import HandS.ExcField
import HandS.Head0
import HandS.Head1
import HandS.Head2
import HandS.HeadEnd
import HandS.HeadHook1
import HandS.HeadHook2
import HandS.Head3
import PySem.Challenge.RW_flathold_k27_shops_bounds
import HandS.ForMost
import HandS.Exc
import HandS.TryOnly
import HandS.IsInst
import HandS.StrMore
import HandS.ReplaceLit
import HandS.ReplaceList
import HandS.Style
import HandS.Flow
import HandS.TupLe
import HandS.TupAny
import PyProof.StrBlock2
import HandS.Codes
import HandS.Steps
import KE.KIntText
import PyProof.Rows.Digits
import KE.IntTextLaws
import HandS.CallSlots
import PyProof.StrLawsLast
import HandS.FStr
import HandS.StrSplit
import KE.GoesMore
import HandS.MapObj
import PyProof.ConsumeS
import PyProof.ListNew
import HandS.MapJoin
import HandS.Iter
import HandS.Zip
import HandS.Small
import KE.KDictPairs
import HandS.DictComp
import HandS.Defaults
import KE.KExcSuper
set_option autoImplicit false
/-! The D layer, 1: a small language of my own, its values, its heap, its evaluator. Plain Lean. -/
namespace FD

/-- values: tuples by content, all that may change by its place in the heap -/
inductive D where
  | non | bl (b : Bool) | int (i : Int) | str (s : List Nat) | tup (xs : List D) | ref (n : Nat)
  /-- a list that is never changed (the script), by content -/
  | fl (xs : List D)
  deriving Inhabited
/-- keys of dicts: ints and texts -/
abbrev DK := Sum Int (List Nat)
/-- what stands in the heap: lists, dicts with keys DK, dicts with tuples of such keys -/
inductive O where
  | lst (xs : List D) | dic (kvs : List (DK × D)) | dit (kvs : List (List DK × D))
  /-- an instance of an own class: the class's name, its fields -/
  | obj (cn : List Nat) (fs : List (List Nat × D))
  /-- a dict that is walked: nothing writes it -/
  | lck (kvs : List (DK × D))
  /-- a tuple known to have no attributes of its own -/
  | btp (xs : List D)
  deriving Inhabited
abbrev DH := List O
abbrev Fr := List (Option D)
inductive Out (α : Type) where
  | ok (a : α) (h : DH) | exc (c : Nat) (fs : List (List Nat × D)) (h : DH) | bad
def Out.bind {α β : Type} (o : Out α) (f : α → DH → Out β) : Out β := match o with
  | .ok a h => f a h
  | .exc c fs h => .exc c fs h
  | .bad => .bad
/-- no exception is let through -/
def Out.noexc {α : Type} : Out α → Out α
  | .exc _ _ _ => .bad
  | o => o
def Out.opt {α : Type} (o : Option α) (h : DH) : Out α := match o with
  | some a => .ok a h
  | none => .bad
inductive SO where
  | nx (σ : Fr) (h : DH) | rt (d : D) (h : DH) | brk (σ : Fr) (h : DH) | cnt (σ : Fr) (h : DH) | exc (c : Nat) (fs : List (List Nat × D)) (σ : Fr) (h : DH) | bad
def Out.sbind {α : Type} (o : Out α) (σ : Fr) (f : α → DH → SO) : SO := match o with
  | .ok a h => f a h
  | .exc c fs h => .exc c fs σ h
  | .bad => .bad
def SL : Nat := 16777216

/-! ### values -/
mutual
def D.eqv : D → D → Bool
  | .non, .non => true
  | .bl a, .bl b => a == b
  | .bl a, .int j => (if a then 1 else 0) == j
  | .int i, .bl b => i == (if b then 1 else 0)
  | .int i, .int j => i == j
  | .str x, .str y => x == y
  | .tup xs, .tup ys => D.eqvs xs ys
  | _, _ => false
def D.eqvs : List D → List D → Bool
  | [], [] => true
  | x :: xs, y :: ys => D.eqv x y && D.eqvs xs ys
  | _, _ => false
end
mutual
/-- no reference in it; texts of right signs; at most n tuples one in another -/
def D.shp : Nat → D → Bool
  | _, .non | _, .bl _ | _, .int _ => true
  | _, .str s => s.all (· < 0x110000)
  | 0, .tup _ => false
  | n + 1, .tup xs => D.shps n xs
  | _, .ref _ | _, .fl _ => false
def D.shps : Nat → List D → Bool
  | _, [] => true
  | n, x :: xs => D.shp n x && D.shps n xs
end
mutual
/-- all references are below n -/
def D.blw (n : Nat) : D → Bool
  | .non | .bl _ | .int _ | .str _ => true
  | .tup xs | .fl xs => D.blws n xs
  | .ref k => decide (k < n)
def D.blws (n : Nat) : List D → Bool
  | [] => true
  | x :: xs => D.blw n x && D.blws n xs
end
def O.blw (n : Nat) : O → Bool
  | .lst xs => D.blws n xs
  | .dic kvs => D.blws n (kvs.map (·.2))
  | .dit kvs => D.blws n (kvs.map (·.2))
  | .obj _ fs => D.blws n (fs.map (·.2))
  | .lck kvs => D.blws n (kvs.map (·.2))
  | .btp xs => D.blws n xs
def D.flat : D → Bool
  | .non | .bl _ | .int _ | .str _ => true
  | _ => false
/-- the scalars that == tells apart by being the same -/
def D.scal : D → D → Bool
  | .non, .non | .non, .int _ | .int _, .non | .non, .bl _ | .bl _, .non | .non, .str _ | .str _, .non => true
  | .int _, .int _ | .bl _, .bl _ | .str _, .str _ | .int _, .str _ | .str _, .int _ | .bl _, .str _ | .str _, .bl _ => true
  | _, _ => false

/-! ### the language -/
inductive BOp where | add | sub | mul | fdiv | mod | pow
  deriving DecidableEq
inductive COp where | eq | ne | lt | le | gt | ge | in_ | nin
  deriving DecidableEq
inductive Ty where | int | str | tuple | bool | list
  deriving DecidableEq
/-- what `is` asks for -/
inductive Si where | non | tr | fl
  deriving DecidableEq
inductive Bi where | len | int | str | tuple | ord
  deriving DecidableEq
/-- of a fresh list -/
inductive Bl where | tuple | len | all | any
  deriving DecidableEq
inductive Mt where | append | find2 | find3 | join | split | splitN | part | rpart
  deriving DecidableEq
inductive Ml where | join
  deriving DecidableEq
/-- of a text, without arguments -/
inductive Tm where | ascii | alnum | lower | digit
  deriving DecidableEq

/-- the shapes of the own exceptions: X(place), X(reason), X(place, reason) -/
inductive Xk where | place | reason | text
  deriving DecidableEq
/-- what an except suite may do: tests of the exception's class (the classes for which it is true), values of its fields -/
inductive ST where
  | isi (yes : List Nat) | not_ (t : ST) | and_ (a b : ST) | or_ (a b : ST)
inductive SE where
  | c (d : D) | fld (f : List Nat) | ite (t : ST) (a b : SE) | one (a : SE) | pair (a b : SE)
  | eqs (f s : List Nat)
inductive SU where
  | ret (e : SE) | ite (t : ST) (a b : SU)
mutual
inductive E where
  | sl (i : Nat) | c (d : D)
  | bin (o : BOp) (a b : E)
  | neg (a : E)
  | cmp (o : COp) (a b : E)
  | is_ (pos : Bool) (a : E) (s : Si)
  | and_ (a b : E) | or_ (a b : E) | not_ (a : E) | ite (t a b : E)
  | tup (es : Es) | ofL (l : L)
  | ix (a b : E) | ixL (l : L) (b : E)
  | sli (a : E) (lo hi : Oe)
  | call (f : Nat) (es : Es)
  | isi (a : E) (t : Ty)
  | bi (b : Bi) (a : E) | biL (b : Bl) (l : L)
  | mt (m : Mt) (o : E) (es : Es) | mtL (m : Ml) (o : E) (l : L)
  | repl (c : List Nat) (o : E) (ps : List (Nat × List Nat))
  | dict (ks : List DK) (es : Es)
  | dget1 (o a : E) | dget2 (o a d : E)
  | chain (o o2 : COp) (a b d : E)
  | fstr (es : Es)
  | revS (a : E) | ordL (a : E) | accS (a : E)
  | tm (q : Tm) (a : E)
  /-- o.f, the classes that may be; C(..), its __init__; o.m(..), by class -/
  | fld (cns : List (List Nat)) (o : E) (f : List Nat)
  | mk (cn : List Nat) (f : Nat) (es : Es)
  | meth (m : List Nat) (ds : List (List Nat × Nat)) (o : E) (es : Es)
  /-- {k: v for ..} of nothing; dict(pairs), list(xs), sorted(dict) -/
  | dcomp (it : It)
  | dictP (a : E) | listOf (a : E) | sortD (a : E)
  | btup (l : L)
inductive L where
  | disp (es : Es)
  | comp (elt : E) (vs : List Nat) (tg : T) (it : It) (cond : Oe)
inductive It where
  | e (a : E) | l (l : L) | r1 (a : E) | r2 (a b : E) | enum (a : E) | zip (a b : E)
  | vals (a : E) | ditems (a : E)
inductive T where
  | sl (i : Nat) | tup (ts : Ts) | sub (a b : E)
inductive Ts where | nil | cons (t : T) (ts : Ts)
inductive Es where | nil | cons (e : E) (es : Es)
inductive Oe where | none | some (e : E)
end
mutual
inductive S where
  | asg (t : T) (e : E) | aug (i : Nat) (o : BOp) (e : E) | ex (e : E) | ret (e : E) | retN
  | ite (t : E) (a b : Ss) | whl (t : E) (b : Ss) | fr (t : T) (it : It) (b : Ss)
  | brk | cnt | pass | never
  | sfld (cns : List (List Nat)) (o : E) (f : List Nat) (e : E)
  | par2 (i j : Nat) (es : Es) | par3 (i j l : Nat) (es : Es)
  | rais (c : Nat) (k : Xk) (es : Es) | tryX (b : Ss) (hit : List Nat) (i : Nat) (su : SU)
  /-- the except suite is: slot j.append(e.f) -/
  | tryA (b : Ss) (hit : List Nat) (i j : Nat) (f : List Nat)
  /-- the dict at slot i (or at its field f) is walked -/
  | lock (i : Nat) (f : Option (List Nat)) (s : S)
inductive Ss where | nil | cons (s : S) (ss : Ss)
end

/-! ### operations on values -/
def sIx (n d : Nat) : Option Int → Nat
  | none => d
  | some v => if v < 0 then (v + (n : Int)).toNat else min v.toNat n
def cut {α : Type} (xs : List α) (lo hi : Option Int) : List α := (xs.drop (sIx xs.length 0 lo)).take (sIx xs.length xs.length hi - sIx xs.length 0 lo)
def ixN (n : Nat) (i : Int) : Option Nat := if 0 ≤ i then (if i < n then some i.toNat else none) else if -(n : Int) ≤ i then some (i + n).toNat else none
def atI {α : Type} (xs : List α) (i : Int) : Option α := (ixN xs.length i).bind fun j => xs[j]?
def lget (h : DH) (n : Nat) : Option (List D) := match h[n]? with
  | some (.lst xs) => some xs
  | _ => none
def big : Int := 18446744073709551616
/-- a text many times -/
def repS (s : List Nat) (k : Nat) : List Nat := (List.replicate k s).flatten
def binD (h : DH) : BOp → D → D → Out D
  | .add, .int i, .int j => .ok (.int (i + j)) h
  | .add, .str a, .str b => if a.length + b.length ≤ SL then .ok (.str (a ++ b)) h else .bad
  | .add, .ref n, .ref m => match lget h n, lget h m with
    | some a, some b => if a.length + b.length ≤ SL then .ok (.ref h.length) (h ++ [.lst (a ++ b)]) else .bad
    | _, _ => .bad
  | .add, .tup a, .tup b => if a.length + b.length ≤ SL then .ok (.tup (a ++ b)) h else .bad
  | .sub, .int i, .int j => .ok (.int (i - j)) h
  | .mul, .str s, .int n => if 0 ≤ n ∧ s.length * n.toNat ≤ SL ∧ n ≤ SL then .ok (.str (repS s n.toNat)) h else .bad
  | .mul, .int i, .int j => if (-big < i ∧ i < big) ∨ (-big < j ∧ j < big) then .ok (.int (i * j)) h else .bad
  | .fdiv, .int i, .int j => if j ≠ 0 ∧ j.natAbs < 1073741824 then .ok (.int (i.fdiv j)) h else .bad
  | .mod, .int i, .int j => if j ≠ 0 then .ok (.int (i.fmod j)) h else .bad
  | .pow, .int i, .int j => if 0 ≤ j ∧ j ≤ 1000000 ∧ i.natAbs < 18446744073709551616 then .ok (.int (i ^ j.toNat)) h else .bad
  | _, _, _ => .bad
/-- name op= value -/
def augD (h : DH) : BOp → D → D → Out D
  | .add, .int i, .int j => .ok (.int (i + j)) h
  | .sub, .int i, .int j => .ok (.int (i - j)) h
  | .add, .str a, .str b => if a.length + b.length ≤ SL then .ok (.str (a ++ b)) h else .bad
  | _, _, _ => .bad
def ltS (a b : List Nat) : Bool := decide (a < b)
/-! ### dicts -/
def keyOf : D → Option DK
  | .int i => some (.inl i)
  | .str s => some (.inr s)
  | _ => none
section
variable {κ : Type} [DecidableEq κ]
def dval (kvs : List (κ × D)) (k : κ) : Option D := (kvs.find? fun kv => decide (kv.1 = k)).map (·.2)
def dput (kvs : List (κ × D)) (k : κ) (v : D) : List (κ × D) :=
  if (kvs.any fun kv => decide (kv.1 = k)) = true then kvs.map (fun kv => if kv.1 = k then (kv.1, v) else kv) else kvs ++ [(k, v)]
end
/-- o[y] = v -/
def setItD (h : DH) (x y d : D) : Option DH := match x with
  | .ref n => match h[n]? with
    | some (.lst xs) => match y with
      | .int i => (ixN xs.length i).map fun j => h.set n (.lst (xs.set j d))
      | _ => none
    | some (.dic kvs) => match keyOf y with
      | some k => if kvs.length < SL then some (h.set n (.dic (dput kvs k d))) else none
      | none => none
    | _ => none
  | _ => none
/-- the object at n -/
def oget (h : DH) (n : Nat) : Option (List Nat × List (List Nat × D)) := match h[n]? with
  | some (.obj cn fs) => some (cn, fs)
  | _ => none
def putFd (f : List Nat) (v : D) : List (List Nat × D) → List (List Nat × D)
  | [] => [(f, v)]
  | (g, w) :: r => if g = f then (g, v) :: r else (g, w) :: putFd f v r
def fldD (h : DH) (cns : List (List Nat)) (x : D) (f : List Nat) : Option D := match x with
  | .ref n => match oget h n with
    | some (cn, fs) => if cns.contains cn then fs.lookup f else none
    | none => none
  | _ => none
def sfldD (h : DH) (cns : List (List Nat)) (x : D) (f : List Nat) (v : D) : Option DH := match x with
  | .ref n => match oget h n with
    | some (cn, fs) => if cns.contains cn ∧ fs.length < 1000 then some (h.set n (.obj cn (putFd f v fs))) else none
    | none => none
  | _ => none
/-- which def a method is -/
def methD (h : DH) (m : List Nat) (ds : List (List Nat × Nat)) (x : D) : Option Nat := match x with
  | .ref n => match oget h n with
    | some (cn, fs) => if (fs.lookup m).isNone then ds.lookup cn else none
    | none => none
  | _ => none
def dgetD (h : DH) (n : Nat) (y : D) : Option (Option D) := match h[n]? with
  | some (.dic kvs) => (keyOf y).map (dval kvs)
  | _ => none
/-- .get -/
def dgtD (h : DH) (x y z : D) : Option D := match x with
  | .ref n => (dgetD h n y).map (·.getD z)
  | _ => none
def isDic (h : DH) (x : D) : Bool := match x with
  | .ref n => match h[n]? with
    | some (.dic _) => true
    | _ => false
  | _ => false
/-- {k: v, ..} -/
def dispD (ks : List DK) (vs : List D) (h : DH) : Out D :=
  if ks.length = vs.length ∧ ks.length ≤ 15 then .ok (.ref h.length) (h ++ [.dic ((ks.zip vs).foldl (fun acc kv => dput acc kv.1 kv.2) [])]) else .bad
/-- == -/
def eqD (h : DH) (x y : D) : Option Bool := match x, y with
  | .ref n, .ref m => match h[n]?, h[m]? with
    | some (.lst a), some (.lst b) => if D.shps 63 a && D.shps 63 b then some (D.eqvs a b) else none
    | _, _ => none
  | .ref _, _ | _, .ref _ => none
  | x, y => if D.scal x y || (D.shp 64 x && D.shp 64 y) then some (D.eqv x y) else none
def inD (h : DH) (x y : D) : Option Bool := match x, y with
  | .str [], .str _ => some true
  | .str [c], .str s => some (s.contains c)
  | .str (_ :: _ :: _), .str [] => some false
  | x, .tup ys => if x.flat && ys.all D.flat then some (ys.any fun y => D.eqv y x) else none
  | x, .ref n => match lget h n with
    | some ys => if x.flat && ys.all D.flat then some (ys.any fun y => D.eqv y x) else none
    | none => (dgetD h n x).map Option.isSome
  | _, _ => none
def cmpD (h : DH) : COp → D → D → Option Bool
  | .eq, x, y => eqD h x y
  | .ne, x, y => (eqD h x y).map (!·)
  | .lt, .int i, .int j => some (decide (i < j))
  | .le, .int i, .int j => some (decide (i ≤ j))
  | .gt, .int i, .int j => some (decide (j < i))
  | .ge, .int i, .int j => some (decide (j ≤ i))
  | .lt, .str a, .str b => some (ltS a b)
  | .le, .str a, .str b => some (!ltS b a)
  | .gt, .str a, .str b => some (ltS b a)
  | .ge, .str a, .str b => some (!ltS a b)
  | .in_, x, y => inD h x y
  | .nin, x, y => (inD h x y).map (!·)
  | _, _, _ => none
def isD (x : D) : Si → Bool
  | .non => match x with | .non => true | _ => false
  | .tr => match x with | .bl true => true | _ => false
  | .fl => match x with | .bl false => true | _ => false
def truD (h : DH) : D → Option Bool
  | .non => some false
  | .bl b => some b
  | .int i => some (i != 0)
  | .str s => if s.length ≤ SL then some (!s.isEmpty) else none
  | .tup xs => some (!xs.isEmpty)
  | .ref n => match h[n]? with
    | some (.lst xs) => some (!xs.isEmpty)
    | _ => none
  | .fl _ => none
def ixD (h : DH) (x i : D) : Option D := match x, i with
  | .tup xs, .int i | .fl xs, .int i => atI xs i
  | .str s, .int i => if s.length ≤ SL then (atI s i).map fun c => .str [c] else none
  | .ref n, i => match lget h n, i with
    | some xs, .int i => atI xs i
    | some _, _ => none
    | none, i => (dgetD h n i).join
  | _, _ => none
def sliD (h : DH) (x : D) (l u : Option Int) : Out D := match x with
  | .str s => if s.length ≤ SL then .ok (.str (cut s l u)) h else .bad
  | .ref n => match h[n]? with
    | some (.lst xs) => .ok (.ref h.length) (h ++ [.lst (cut xs l u)])
    | _ => .bad
  | .tup xs => .ok (.tup (cut xs l u)) h
  | _ => .bad
def digit? (c : Nat) : Option Nat := if 48 ≤ c ∧ c ≤ 57 then some (c - 48) else none
def natOf : Nat → List Nat → Option Nat
  | acc, [] => some acc
  | acc, c :: r => match digit? c with
    | some k => natOf (acc * 10 + k) r
    | none => none
/-- digits, or a minus and digits -/
def intOf : List Nat → Option Int
  | [] => none
  | 45 :: r => if r = [] then none else (natOf 0 r).map fun (n : Nat) => -(n : Int)
  | l => (natOf 0 l).map fun (n : Nat) => (n : Int)
def strOf (i : Int) : List Nat := (toString i).toList.map Char.toNat
def biD (h : DH) : Bi → D → Option D
  | .len, .str s => if s.length ≤ SL then some (.int s.length) else none
  | .len, .tup xs | .len, .fl xs => some (.int xs.length)
  | .len, .ref n => match lget h n with
    | some xs => some (.int xs.length)
    | none => none
  | .int, .int i => some (.int i)
  | .int, .bl b => some (.int (if b then 1 else 0))
  | .int, .str s => if s.length ≤ 4300 then (intOf s).map .int else none
  | .str, .int i => if i.natAbs.log2 < 1920 then some (.str (strOf i)) else none
  | .ord, .str [c] => some (.int (c : Int))
  | .tuple, .tup xs => some (.tup xs)
  | .tuple, .ref n => (lget h n).map .tup
  | _, _ => none
def boolsOf : List D → Option (List Bool)
  | [] => some []
  | .bl b :: r => (boolsOf r).map (b :: ·)
  | _ => none
def blD : Bl → List D → Option D
  | .tuple, xs => some (.tup xs)
  | .len, xs => some (.int xs.length)
  | .all, xs => (boolsOf xs).map fun bs => .bl (bs.all id)
  | .any, xs => (boolsOf xs).map fun bs => .bl (bs.any id)
def isiD (h : DH) (x : D) (t : Ty) : Option Bool := match x with
  | .non => some false
  | .bl _ => some (t = .int ∨ t = .bool)
  | .int _ => some (t = .int)
  | .str _ => some (t = .str)
  | .tup _ => some (t = .tuple)
  | .ref n => match h[n]? with
    | some (.lst _) => some (t = .list)
    | _ => none
  | .fl _ => none
/-- the first place of a sign in xs, places counted from k -/
def fndL (c : Nat) : List Nat → Nat → Option Nat
  | [], _ => none
  | x :: r, k => if x = c then some k else fndL c r (k + 1)
def fromIx (len : Nat) (i : Int) : Nat := (max 0 (if i < 0 then i + len else i)).toNat
/-- the place of a sign from lo on, ahead of hi -/
def fnd (s : List Nat) (c lo hi : Nat) : Int := match fndL c ((s.take hi).drop lo) lo with
  | some k => (k : Int)
  | none => -1
def appD (h : DH) (x : D) (es : List D) : Out D := match x, es with
  | .ref n, [y] => match h[n]? with
    | some (.lst xs) => if xs.length < SL then .ok .non (h.set n (.lst (xs ++ [y]))) else .bad
    | _ => .bad
  | _, _ => .bad
def fnd2D (h : DH) (x : D) (es : List D) : Out D := match x, es with
  | .str s, [.str [c], .int i] => .ok (.int (fnd s c (fromIx s.length i) s.length)) h
  | _, _ => .bad
def fnd3D (h : DH) (x : D) (es : List D) : Out D := match x, es with
  | .str s, [.str [c], .int i, .int j] => if 0 ≤ j then .ok (.int (fnd s c (fromIx s.length i) (min j.toNat s.length))) h else .bad
  | _, _ => .bad
def strsOf : List D → Option (List (List Nat))
  | [] => some []
  | .str s :: r => (strsOf r).map (s :: ·)
  | _ => none
def joinS (a : List Nat) : List (List Nat) → List Nat
  | [] => []
  | [x] => x
  | x :: r => x ++ a ++ joinS a r
def mlD : Ml → D → List D → Option D
  | .join, .str a, xs => match strsOf xs with
    | some ys => if (ys.map (·.length)).sum + ys.length * a.length ≤ SL then some (.str (joinS a ys)) else none
    | none => none
  | _, _, _ => none
def joiD (h : DH) (x : D) (es : List D) : Out D := match x, es with
  | .str s, [.ref n] => match h[n]? with
    | some (.lst xs) => .opt (mlD .join (.str s) xs) h
    | _ => .bad
  | _, _ => .bad
/-- the parts between a sign -/
def splitC (c : Nat) : List Nat → List (List Nat)
  | [] => [[]]
  | x :: r => if x = c then [] :: splitC c r else match splitC c r with
    | [] => [[x]]
    | y :: ys => (x :: y) :: ys
/-- .. at most n cuts -/
def splitCN (c : Nat) : Nat → List Nat → List (List Nat)
  | 0, s => [s]
  | _ + 1, [] => [[]]
  | n + 1, x :: r => if x = c then [] :: splitCN c n r else match splitCN c (n + 1) r with
    | [] => [[x]]
    | y :: ys => (x :: y) :: ys
/-- ahead of the first sign c, the sign, behind it -/
def partC (c : Nat) : List Nat → List Nat × List Nat × List Nat
  | [] => ([], [], [])
  | x :: r => if x = c then ([], [c], r) else let p := partC c r; (x :: p.1, p.2)
def splD (h : DH) (x : D) (es : List D) : Out D := match x, es with
  | .str s, [.str [c]] => if s.length + 2 ≤ SL ∧ c < 256 then .ok (.ref h.length) (h ++ [.lst ((splitC c s).map .str)]) else .bad
  | _, _ => .bad
def splND (h : DH) (x : D) (es : List D) : Out D := match x, es with
  | .str s, [.str [c], .int i] => if s.length + 2 ≤ SL ∧ 0 ≤ i ∧ i < SL ∧ c < 256 then .ok (.ref h.length) (h ++ [.lst ((splitCN c i.toNat s).map .str)]) else .bad
  | _, _ => .bad
def parD (h : DH) (x : D) (es : List D) : Out D := match x, es with
  | .str s, [.str [c]] => if s.length ≤ SL then .ok (.tup [.str (partC c s).1, .str (partC c s).2.1, .str (partC c s).2.2]) h else .bad
  | _, _ => .bad
/-- the sign is not there -/
def rparD (h : DH) (x : D) (es : List D) : Out D := match x, es with
  | .str s, [.str [c]] => if s.length ≤ SL ∧ s.contains c = false then .ok (.tup [.str [], .str [], .str s]) h else .bad
  | _, _ => .bad
def mtD (h : DH) : Mt → D → List D → Out D
  | .append => appD h
  | .find2 => fnd2D h
  | .find3 => fnd3D h
  | .join => joiD h
  | .split => splD h
  | .splitN => splND h
  | .part => parD h
  | .rpart => rparD h
/-- the receiver's kind -/
def mtK (h : DH) : Mt → D → Bool
  | .append, .ref n => (lget h n).isSome
  | .find2, .str _ => true
  | .find3, .str _ => true
  | .join, .str _ => true
  | .split, .str _ => true
  | .splitN, .str _ => true
  | .part, .str _ => true
  | .rpart, .str _ => true
  | _, _ => false
def mlK : Ml → D → Bool
  | .join, .str _ => true
  | _, _ => false
def rep1 (c : Nat) (z l : List Nat) : List Nat := l.flatMap fun x => if x = c then z else [x]
def replD : List (Nat × List Nat) → List Nat → Option (List Nat)
  | [], s => some s
  | (c, z) :: r, s => if s.length + (s.length + 1) * z.length ≤ SL then replD r (rep1 c z s) else none
def wipeF (σ : Fr) : List Nat → Fr
  | [] => σ
  | v :: vs => (wipeF σ vs).set v none
/-- walks over lists of the heap: one, one with numbers, two side by side -/
inductive Dy where
  | lst (n : Nat) | enum (n : Nat) | zip (n m : Nat)
/-- what stands at place i: none: nothing is known; some none: the end -/
def dyget (h : DH) (i : Nat) : Dy → Option (Option D)
  | .lst n => (lget h n).map fun xs => xs[i]?
  | .enum n => (lget h n).map fun xs => (xs[i]?).map fun d => .tup [.int i, d]
  | .zip n m => match lget h n, lget h m with
    | some xs, some ys => some (match xs[i]?, ys[i]? with
      | some x, some y => some (.tup [x, y])
      | _, _ => none)
    | _, _ => none
/-- what is walked: items that stand, or lists of the heap -/
inductive Src where
  | items (xs : List D) | dyn (n : Dy)
def srcD (h : DH) : D → Option Src
  | .tup xs => some (.items xs)
  | .ref n => (lget h n).map fun _ => .dyn (.lst n)
  | .str s => some (.items (s.map fun c => .str [c]))
  | _ => none
def enumD (h : DH) : D → Option Src
  | .ref n => (lget h n).map fun _ => .dyn (.enum n)
  | _ => none
def zipD (h : DH) : D → D → Option Src
  | .ref n, .ref m => match lget h n, lget h m with
    | some _, some _ => some (.dyn (.zip n m))
    | _, _ => none
  | .tup xs, .tup ys => some (.items (List.zipWith (fun x y => .tup [x, y]) xs ys))
  | _, _ => none
def keyD : DK → D
  | .inl i => .int i
  | .inr s => .str s
def lckD (h : DH) (x : D) : Option (List (DK × D)) := match x with
  | .ref n => match h[n]? with
    | some (.lck kvs) => some kvs
    | _ => none
  | _ => none
def insI (i : Int) : List Int → List Int
  | [] => [i]
  | j :: r => if i ≤ j then i :: j :: r else j :: insI i r
def isoI : List Int → List Int
  | [] => []
  | i :: r => insI i (isoI r)
def keyI : List (DK × D) → Option (List Int)
  | [] => some []
  | (.inl i, _) :: r => (keyI r).map (i :: ·)
  | _ => none
def sortDD (h : DH) (x : D) : Out D := match x with
  | .ref n => match h[n]? with
    | some (.dic kvs) => match keyI kvs with
      | some ks => if ks.length < 64 then .ok (.ref h.length) (h ++ [.lst ((isoI ks).map .int)]) else .bad
      | none => .bad
    | _ => .bad
  | _ => .bad
def pairsD : List D → Option (List (DK × D))
  | [] => some []
  | .tup [k, v] :: r => match keyOf k, pairsD r with
    | some k', some r' => some ((k', v) :: r')
    | _, _ => none
  | _ => none
def dictPD (h : DH) (x : D) : Out D := match x with
  | .ref n => match h[n]? with
    | some (.btp ps) => match pairsD ps with
      | some kvs => if ps.length ≤ SL then .ok (.ref h.length) (h ++ [.dic (kvs.foldl (fun acc kv => dput acc kv.1 kv.2) [])]) else .bad
      | none => .bad
    | _ => .bad
  | _ => .bad
def listD (h : DH) (x : D) : Out D := match x with
  | .tup xs => .ok (.ref h.length) (h ++ [.lst xs])
  | .ref n => match lget h n with
    | some xs => .ok (.ref h.length) (h ++ [.lst xs])
    | none => .bad
  | _ => .bad
/-- the sums so far, summed -/
def accI : List Int → Int → Int
  | [], _ => 0
  | v :: r, t => (t + v) + accI r (t + v)
def intsOf : List D → Option (List Int)
  | [] => some []
  | .int i :: r => (intsOf r).map (i :: ·)
  | _ :: _ => none
def revD : D → Option D
  | .str s => if s.length ≤ SL then some (.str s.reverse) else none
  | _ => none
def ordD (h : DH) : D → Out D
  | .str s => if s.length ≤ SL then .ok (.ref h.length) (h ++ [.lst (s.map fun c => .int ((c : Nat) : Int))]) else .bad
  | _ => .bad
def accD (h : DH) : D → Option D
  | .ref n => match lget h n with
    | some xs => match intsOf xs with
      | some ns => if (ns.all fun i => decide (0 ≤ i ∧ i < 2097152)) && decide (ns.length ≤ 1000000) then some (.int (accI ns 0)) else none
      | none => none
    | none => none
  | _ => none
def lowC (c : Nat) : Nat := if 65 ≤ c ∧ c ≤ 90 then c + 32 else c
def digC (c : Nat) : Bool := decide (48 ≤ c ∧ c ≤ 57)
def alnC (c : Nat) : Bool := decide (48 ≤ c ∧ c ≤ 57 ∨ 65 ≤ c ∧ c ≤ 90 ∨ 97 ≤ c ∧ c ≤ 122)
def asc (s : List Nat) : Bool := s.all fun c => decide (c < 128)
def tmD : Tm → D → Option D
  | .ascii, .str s => some (.bl (asc s))
  | .alnum, .str s => if asc s then some (.bl (!s.isEmpty && s.all alnC)) else none
  | .lower, .str s => if asc s ∧ s.length ≤ 5592405 then some (.str (s.map lowC)) else none
  | .digit, .str s => if asc s then some (.bl (!s.isEmpty && s.all digC)) else none
  | _, _ => none
/-- one part more of an f-string -/
def fmt1 (acc : List Nat) : D → Option (List Nat)
  | .str s => if acc.length + s.length ≤ SL then some (acc ++ s) else none
  | .int i => if i.natAbs.log2 < 1920 ∧ acc.length + (strOf i).length ≤ SL then some (acc ++ strOf i) else none
  | _ => none
def rngL (lo : Int) : Nat → List D
  | 0 => []
  | n + 1 => .int lo :: rngL (lo + 1) n
def lim : Int := 4611686018427387904
/-- what the evaluator leans on: the defs, how many turns a loop has at most -/
structure Cn where
  fn : Nat → List D → DH → Out D
  /-- the defs with one call less (what makes an instance) -/
  fm : Nat → List D → DH → Out D
  fuel : Nat
  lvl : Nat

def Ts.len : Ts → Nat
  | .nil => 0
  | .cons _ ts => Ts.len ts + 1

/-! ### exceptions -/
def ST.v (c : Nat) : ST → Bool
  | .isi yes => yes.contains c
  | .not_ t => !t.v c
  | .and_ a b => a.v c && b.v c
  | .or_ a b => a.v c || b.v c
def SE.v (c : Nat) (fs : List (List Nat × D)) : SE → Option D
  | .c d => some d
  | .fld f => fs.lookup f
  | .ite t a b => if t.v c then a.v c fs else b.v c fs
  | .one a => (a.v c fs).map fun x => .tup [x]
  | .eqs f s => match fs.lookup f with
    | some (.str z) => some (.bl (z == s))
    | _ => none
  | .pair a b => match a.v c fs, b.v c fs with
    | some x, some y => some (.tup [x, y])
    | _, _ => none
def SU.v (c : Nat) (fs : List (List Nat × D)) : SU → Option D
  | .ret e => e.v c fs
  | .ite t a b => if t.v c then a.v c fs else b.v c fs
def nPlace : List Nat := [112, 108, 97, 99, 101]
def nReason : List Nat := [114, 101, 97, 115, 111, 110]
/-- the fields of a new exception -/
def mkX : Xk → List D → Option (List (List Nat × D))
  | .place, [.int i] => if i.natAbs.log2 < 1920 then some [(nPlace, .int i)] else none
  | .reason, [d] => some [(nReason, d)]
  | .text, [.int i, .str s] => if i.natAbs.log2 < 1920 ∧ (strOf i).length + (2 + s.length) ≤ SL then some [(nReason, .str s), (nPlace, .int i)] else none
  | _, _ => none

/-! ### comprehensions -/
def compI (f : D → DH → Out (Option D)) : List D → List D → DH → Out (List D)
  | [], acc, h => .ok acc h
  | d :: r, acc, h => (f d h).bind fun o h => match o with
    | some y => if acc.length < SL then compI f r (acc ++ [y]) h else .bad
    | none => compI f r acc h
def compN (f : D → DH → Out (Option D)) (n : Dy) : Nat → Nat → List D → DH → Out (List D)
  | 0, _, _, _ => .bad
  | k + 1, i, acc, h => match dyget h i n with
    | none => .bad
    | some xs => match xs with
      | none => .ok acc h
      | some d => (f d h).bind fun o h => match o with
        | some y => if acc.length < SL then compN f n k (i + 1) (acc ++ [y]) h else .bad
        | none => compN f n k (i + 1) acc h
def compS (fuel : Nat) (f : D → DH → Out (Option D)) (s : Src) (h : DH) : Out (List D) := match s with
  | .items xs => compI f xs [] h
  | .dyn n => compN f n fuel 0 [] h

/-- there is nothing to walk -/
def srcE (h : DH) (s : Src) : Bool := match s with
  | .items xs => xs.isEmpty
  | .dyn n => match dyget h 0 n with
    | some none => true
    | _ => false
/-- an expression's value, its truth as a test -/
structure EvP where
  v : Fr → DH → Out D
  t : Fr → DH → Out Bool
def tst (v : Fr → DH → Out D) : EvP := ⟨v, fun σ h => (v σ h).bind fun x h => .opt (truD h x) h⟩
def cmpT (elt : Fr → DH → Out D) (tg : D → Fr → DH → Out Fr) (cond : Fr → DH → Out Bool) (σ : Fr) (d : D) (h : DH) : Out (Option D) :=
  (tg d σ h).bind fun σ' h => (cond σ' h).bind fun b h => if b then (elt σ' h).bind fun y h => .ok (some y) h else .ok none h
mutual
def ev (C : Cn) : E → EvP
  | .sl i => tst fun σ h => match σ[i]? with
    | some (some d) => .ok d h
    | _ => .bad
  | .c d => tst fun _ h => .ok d h
  | .bin o a b => tst fun σ h => ((ev C a).v σ h).bind fun x h => ((ev C b).v σ h).bind fun y h => binD h o x y
  | .neg a => tst fun σ h => ((ev C a).v σ h).bind fun x h => match x with
    | .int i => .ok (.int (-i)) h
    | _ => .bad
  | .cmp o a b => tst fun σ h => ((ev C a).v σ h).bind fun x h => ((ev C b).v σ h).bind fun y h => .opt ((cmpD h o x y).map .bl) h
  | .is_ p a s => tst fun σ h => ((ev C a).v σ h).bind fun x h => .ok (.bl (p == isD x s)) h
  | .and_ a b => ⟨fun σ h => ((ev C a).v σ h).bind fun x h => match truD h x with
      | some true => (ev C b).v σ h
      | some false => .ok x h
      | none => .bad,
    fun σ h => ((ev C a).t σ h).bind fun c h => if c then (ev C b).t σ h else .ok false h⟩
  | .or_ a b => ⟨fun σ h => ((ev C a).v σ h).bind fun x h => match truD h x with
      | some true => .ok x h
      | some false => (ev C b).v σ h
      | none => .bad,
    fun σ h => ((ev C a).t σ h).bind fun c h => if c then .ok true h else (ev C b).t σ h⟩
  | .not_ a => ⟨fun σ h => ((ev C a).v σ h).bind fun x h => .opt ((truD h x).map fun b => .bl (!b)) h, fun σ h => ((ev C a).t σ h).bind fun c h => .ok (!c) h⟩
  | .ite t a b => ⟨fun σ h => ((ev C t).t σ h).bind fun c h => if c then (ev C a).v σ h else (ev C b).v σ h,
    fun σ h => ((ev C t).t σ h).bind fun c h => if c then (ev C a).t σ h else (ev C b).t σ h⟩
  | .tup es => tst fun σ h => (evs C es σ h).bind fun xs h => if xs.length ≤ SL then .ok (.tup xs) h else .bad
  | .ofL l => tst fun σ h => (evL C l σ h).bind fun xs h => .ok (.ref h.length) (h ++ [.lst xs])
  | .ix a b => tst fun σ h => ((ev C a).v σ h).bind fun x h => ((ev C b).v σ h).bind fun y h => .opt (ixD h x y) h
  | .ixL l b => tst fun σ h => (evL C l σ h).bind fun xs h => ((ev C b).v σ h).bind fun y h => match y with
    | .int i => .opt (atI xs i) h
    | _ => .bad
  | .sli a lo hi => tst fun σ h => ((ev C a).v σ h).bind fun x h => (evO C lo σ h).bind fun l h => (evO C hi σ h).bind fun u h => sliD h x l u
  | .call f es => tst fun σ h => (evs C es σ h).bind fun xs h => C.fn f xs h
  | .isi a t => tst fun σ h => ((ev C a).v σ h).bind fun x h => .opt ((isiD h x t).map .bl) h
  | .bi b a => tst fun σ h => ((ev C a).v σ h).bind fun x h => .opt (biD h b x) h
  | .biL b l => tst fun σ h => (evL C l σ h).bind fun xs h => .opt (blD b xs) h
  | .mt m o es => tst fun σ h => ((ev C o).v σ h).bind fun x h => if mtK h m x then (evs C es σ h).bind fun ys h => mtD h m x ys else .bad
  | .mtL m o l => tst fun σ h => ((ev C o).v σ h).bind fun x h => if mlK m x then (evL C l σ h).bind fun ys h => .opt (mlD m x ys) h else .bad
  | .repl c o ps => tst fun σ h => ((ev C o).v σ h).bind fun x h => match x with
    | .str s => match replD ps s with
      | some r => if c.length + r.length ≤ SL then .ok (.str (c ++ r)) h else .bad
      | none => .bad
    | _ => .bad
  | .dget1 o a => tst fun σ h => ((ev C o).v σ h).bind fun x h => if isDic h x then ((ev C a).v σ h).bind fun y h => .opt (dgtD h x y .non) h else .bad
  | .dget2 o a d => tst fun σ h => ((ev C o).v σ h).bind fun x h => if isDic h x then ((ev C a).v σ h).bind fun y h => ((ev C d).v σ h).bind fun z h => .opt (dgtD h x y z) h else .bad
  | .chain o o2 a b d => tst fun σ h => ((ev C a).v σ h).bind fun x h => ((ev C b).v σ h).bind fun y h => match cmpD h o x y with
    | some true => ((ev C d).v σ h).bind fun z h => .opt ((cmpD h o2 y z).map .bl) h
    | some false => .ok (.bl false) h
    | none => .bad
  | .revS a => tst fun σ h => ((ev C a).v σ h).bind fun x h => .opt (revD x) h
  | .ordL a => tst fun σ h => ((ev C a).v σ h).bind fun x h => ordD h x
  | .accS a => tst fun σ h => ((ev C a).v σ h).bind fun x h => .opt (accD h x) h
  | .tm q a => tst fun σ h => ((ev C a).v σ h).bind fun x h => .opt (tmD q x) h
  | .fld cns o f => tst fun σ h => ((ev C o).v σ h).bind fun x h => .opt (fldD h cns x f) h
  | .mk cn f es => tst fun σ h => if C.lvl = 0 then .bad else (evs C es σ h).bind fun xs h => (C.fm f (.ref h.length :: xs) (h ++ [.obj cn []])).bind fun r h' => match r with
    | .non => .ok (.ref h.length) h'
    | _ => .bad
  | .meth m ds o es => tst fun σ h => ((ev C o).v σ h).bind fun x h => match methD h m ds x with
    | some f => (evs C es σ h).bind fun xs h => C.fn f (x :: xs) h
    | none => .bad
  | .dcomp it => tst fun σ h => (evI C it σ h).bind fun s h => if srcE h s then .ok (.ref h.length) (h ++ [.dic []]) else .bad
  | .dictP a => tst fun σ h => ((ev C a).v σ h).bind fun x h => dictPD h x
  | .listOf a => tst fun σ h => ((ev C a).v σ h).bind fun x h => listD h x
  | .btup l => tst fun σ h => (evL C l σ h).bind fun xs h => .ok (.ref h.length) (h ++ [.btp xs])
  | .sortD a => tst fun σ h => ((ev C a).v σ h).bind fun x h => sortDD h x
  | .fstr es => tst fun σ h => (evF C es [] σ h).bind fun s h => .ok (.str s) h
  | .dict ks es => tst fun σ h => (evs C es σ h).bind fun xs h => dispD ks xs h
def evs (C : Cn) : Es → Fr → DH → Out (List D)
  | .nil => fun _ h => .ok [] h
  | .cons e es => fun σ h => ((ev C e).v σ h).bind fun x h => (evs C es σ h).bind fun xs h => .ok (x :: xs) h
def evF (C : Cn) : Es → List Nat → Fr → DH → Out (List Nat)
  | .nil => fun acc _ h => .ok acc h
  | .cons e es => fun acc σ h => ((ev C e).v σ h).bind fun x h => match fmt1 acc x with
    | some a => evF C es a σ h
    | none => .bad
def evO (C : Cn) : Oe → Fr → DH → Out (Option Int)
  | .none => fun _ h => .ok none h
  | .some e => fun σ h => ((ev C e).v σ h).bind fun x h => match x with
    | .int i => .ok (some i) h
    | _ => .bad
def evL (C : Cn) : L → Fr → DH → Out (List D)
  | .disp es => fun σ h => (evs C es σ h).bind fun xs h => if xs.length ≤ SL then .ok xs h else .bad
  | .comp elt vs tg it cond => fun σ h => (evI C it σ h).bind fun s h => (compS C.fuel (cmpT (ev C elt).v (asT C tg) (tsO C cond) (wipeF σ vs)) s h).noexc
def evI (C : Cn) : It → Fr → DH → Out Src
  | .e a => fun σ h => ((ev C a).v σ h).bind fun x h => .opt (srcD h x) h
  | .l l => fun σ h => (evL C l σ h).bind fun xs h => .ok (.items xs) h
  | .enum a => fun σ h => ((ev C a).v σ h).bind fun x h => .opt (enumD h x) h
  | .vals a => fun σ h => ((ev C a).v σ h).bind fun x h => .opt ((lckD h x).map fun kvs => .items (kvs.map (·.2))) h
  | .ditems a => fun σ h => ((ev C a).v σ h).bind fun x h => .opt ((lckD h x).map fun kvs => .items (kvs.map fun p => .tup [keyD p.1, p.2])) h
  | .zip a b => fun σ h => ((ev C a).v σ h).bind fun x h => ((ev C b).v σ h).bind fun y h => .opt (zipD h x y) h
  | .r1 a => fun σ h => ((ev C a).v σ h).bind fun x h => match x with
    | .int j => if -lim ≤ j ∧ j < lim then .ok (.items (rngL 0 j.toNat)) h else .bad
    | _ => .bad
  | .r2 a b => fun σ h => ((ev C a).v σ h).bind fun x h => ((ev C b).v σ h).bind fun y h => match x, y with
    | .int i, .int j => if -lim ≤ i ∧ i < lim ∧ -lim ≤ j ∧ j < lim then .ok (.items (rngL i (j - i).toNat)) h else .bad
    | _, _ => .bad
def asT (C : Cn) : T → D → Fr → DH → Out Fr
  | .sl i => fun d σ h => .ok (σ.set i (some d)) h
  | .tup ts => fun d σ h => match d with
    | .tup xs => if xs.length = ts.len then asTs C ts xs σ h else .bad
    | .ref n => match lget h n with
      | some xs => if xs.length = ts.len then asTs C ts xs σ h else .bad
      | none => .bad
    | _ => .bad
  | .sub a b => fun d σ h => ((ev C a).v σ h).bind fun x h => ((ev C b).v σ h).bind fun y h => match setItD h x y d with
    | some h' => .ok σ h'
    | none => .bad
def asTs (C : Cn) : Ts → List D → Fr → DH → Out Fr
  | .nil => fun xs σ h => match xs with
    | [] => .ok σ h
    | _ => .bad
  | .cons t ts => fun xs σ h => match xs with
    | x :: xs => (asT C t x σ h).bind fun σ h => (asTs C ts xs σ h).noexc
    | [] => .bad
def tsO (C : Cn) : Oe → Fr → DH → Out Bool
  | .none => fun _ h => .ok true h
  | .some e => (ev C e).t
end

/-! ### statements -/
def lockAt (σ : Fr) (h : DH) (i : Nat) (f : Option (List Nat)) : Option (Nat × List (DK × D)) := match σ[i]? with
  | some (some x) => match (match f with
      | none => some x
      | some g => match x with
        | .ref m => match oget h m with
          | some (_, fs) => fs.lookup g
          | none => none
        | _ => none) with
    | some (.ref n) => match h[n]? with
      | some (.dic kvs) => some (n, kvs)
      | _ => none
    | _ => none
  | _ => none
/-- a turn's end -/
def SO.loop (o : SO) (k : Fr → DH → SO) : SO := match o with
  | .nx σ h => k σ h
  | .cnt σ h => k σ h
  | .brk σ h => .nx σ h
  | .rt d h => .rt d h
  | .exc c fs σ h => .exc c fs σ h
  | .bad => .bad
def SO.seq (o : SO) (k : Fr → DH → SO) : SO := match o with
  | .nx σ h => k σ h
  | .cnt σ h => .cnt σ h
  | .brk σ h => .brk σ h
  | .rt d h => .rt d h
  | .exc c fs σ h => .exc c fs σ h
  | .bad => .bad
def frI (f : D → Fr → DH → SO) : List D → Fr → DH → SO
  | [], σ, h => .nx σ h
  | d :: r, σ, h => (f d σ h).loop (frI f r)
def frN (f : D → Fr → DH → SO) (n : Dy) : Nat → Nat → Fr → DH → SO
  | 0, _, _, _ => .bad
  | k + 1, i, σ, h => match dyget h i n with
    | none => .bad
    | some xs => match xs with
      | none => .nx σ h
      | some d => (f d σ h).loop (frN f n k (i + 1))
def frS (fuel : Nat) (f : D → Fr → DH → SO) (s : Src) (σ : Fr) (h : DH) : SO := match s with
  | .items xs => frI f xs σ h
  | .dyn n => frN f n fuel 0 σ h
def whl (t : Fr → DH → Out Bool) (b : Fr → DH → SO) : Nat → Fr → DH → SO
  | 0, _, _ => .bad
  | k + 1, σ, h => (t σ h).sbind σ fun c h => if c then (b σ h).loop (whl t b k) else .nx σ h
mutual
def evS (C : Cn) : S → Fr → DH → SO
  | .asg t e => fun σ h => ((ev C e).v σ h).sbind σ fun d h => (asT C t d σ h).sbind σ fun σ h => .nx σ h
  | .aug i o e => fun σ h => match σ[i]? with
    | some (some x) => ((ev C e).v σ h).sbind σ fun y h => (augD h o x y).sbind σ fun z h => .nx (σ.set i (some z)) h
    | _ => .bad
  | .ex e => fun σ h => ((ev C e).v σ h).sbind σ fun _ h => .nx σ h
  | .ret e => fun σ h => ((ev C e).v σ h).sbind σ fun d h => .rt d h
  | .retN => fun _ h => .rt .non h
  | .ite t a b => fun σ h => ((ev C t).t σ h).sbind σ fun c h => if c then evSs C a σ h else evSs C b σ h
  | .whl t b => fun σ h => whl (ev C t).t (evSs C b) C.fuel σ h
  | .fr t it b => fun σ h => (evI C it σ h).sbind σ fun s h => frS C.fuel (fun d σ h => (asT C t d σ h).sbind σ fun σ h => evSs C b σ h) s σ h
  | .brk => fun σ h => .brk σ h
  | .cnt => fun σ h => .cnt σ h
  | .pass => fun σ h => .nx σ h
  | .sfld cns o f e => fun σ h => ((ev C e).v σ h).sbind σ fun y h => ((ev C o).v σ h).sbind σ fun x h => match sfldD h cns x f y with
    | some h' => .nx σ h'
    | none => .bad
  | .par2 i j es => fun σ h => (evs C es σ h).sbind σ fun ds h => match ds with
    | [x, y] => .nx ((σ.set i (some x)).set j (some y)) h
    | _ => .bad
  | .par3 i j l es => fun σ h => (evs C es σ h).sbind σ fun ds h => match ds with
    | [x, y, z] => .nx (((σ.set i (some x)).set j (some y)).set l (some z)) h
    | _ => .bad
  | .never => fun _ _ => .bad
  | .rais c k es => fun σ h => if C.lvl < 2 then .bad else (evs C es σ h).sbind σ fun ds h => match mkX k ds with
    | some fs => .exc c fs σ h
    | none => .bad
  | .tryX b hit i su => fun σ h => match evSs C b σ h with
    | .exc c fs σ' h' => if hit.contains c then (if i < σ'.length then (match su.v c fs with
      | some d => .rt d h'
      | none => .bad) else .bad) else .exc c fs σ' h'
    | .nx σ h => .nx σ h
    | .rt d h => .rt d h
    | .brk σ h => .brk σ h
    | .cnt σ h => .cnt σ h
    | .bad => .bad
  | .tryA b hit i j f => fun σ h => match evSs C b σ h with
    | .exc c fs σ' h' => if hit.contains c then (if i < σ'.length ∧ i ≠ j then (match σ'[j]?, fs.lookup f with
      | some (some x), some d => (appD h' x [d]).sbind (σ'.set i none) fun _ h2 => .nx (σ'.set i none) h2
      | _, _ => .bad) else .bad) else .exc c fs σ' h'
    | .nx σ h => .nx σ h
    | .rt d h => .rt d h
    | .brk σ h => .brk σ h
    | .cnt σ h => .cnt σ h
    | .bad => .bad
  | .lock i f s => fun σ h => match lockAt σ h i f with
    | some (n, kvs) => match evS C s σ (h.set n (.lck kvs)) with
      | .nx σ' h' => .nx σ' (h'.set n (.dic kvs))
      | .rt d h' => .rt d (h'.set n (.dic kvs))
      | _ => .bad
    | none => .bad
def evSs (C : Cn) : Ss → Fr → DH → SO
  | .nil => fun σ h => .nx σ h
  | .cons s ss => fun σ h => (evS C s σ h).seq (evSs C ss)
end
mutual
/-- the slots that a target sets -/
def T.slots : T → List Nat
  | .sl i => [i]
  | .tup ts => Ts.slots ts
  | .sub _ _ => []
def Ts.slots : Ts → List Nat
  | .nil => []
  | .cons t ts => T.slots t ++ Ts.slots ts
end
/-- a def's frame: the arguments, the other names without a value -/
def frame (n : Nat) (xs : List D) : Fr := xs.map some ++ List.replicate (n - xs.length) none
/-- a call: n names in all, np parameters -/
def runD (C : Cn) (n np : Nat) (b : Ss) (xs : List D) (h : DH) : Out D :=
  if xs.length = np then match evSs C b (frame n xs) h with
    | .nx _ h => .ok .non h
    | .rt d h => .ok d h
    | .exc c fs _ h => .exc c fs h
    | _ => .bad
  else .bad
/-- a def: how many names, how many parameters, its body -/
structure Fn where
  n : Nat
  np : Nat
  b : Ss
/-- the program with k calls one in another -/
def runN (fs : List Fn) (fuel : Nat) : Nat → Cn
  | 0 => ⟨fun _ _ _ => .bad, fun _ _ _ => .bad, fuel, 0⟩
  | k + 1 => ⟨fun f xs h => match fs[f]? with
    | some d => runD (runN fs fuel k) d.n d.np d.b xs h
    | none => .bad, (runN fs fuel k).fn, fuel, k + 1⟩
end FD

set_option Elab.async false
set_option linter.all false
set_option maxRecDepth 100000
set_option maxHeartbeats 1000000
/-! The D layer, 0: what is looked at of a booted module. -/
namespace FD
open PySem PySem.Spec PyProof.Rows L2
abbrev toS (s : List Nat) : Str := ⟨s.toArray⟩
/-- gn: the global name that the def is reached by; qn, cl: its qualified name, its class -/
structure Df where
  gn : Str
  name : Str
  qn : Str
  cl : Option Str
  N : List Str
  ps : List Str
  st : Stmt
/-- a constant of the module -/
inductive Gc where
  | int (x : Str) (i : Int)
  | str (x : Str) (z : List Nat)
def Gc.pair : Gc → Str × D
  | .int x i => (x, .int i)
  | .str x z => (x, .str z)
def Gc.fa : Gc → He.Fa
  | .int x i => .int x i
  | .str x z => .str x (toS z)
def faOf (ds : List Df) (gs : List Gc) (free : List Str) (more : List He.Fa) : List He.Fa := ds.map (fun d => .glo d.gn) ++ (free.map .free ++ (gs.map Gc.fa ++ more))
def atOf (d : Df) : Str × Option Str := match d.cl with
  | none => (d.gn, none)
  | some x => (x, some d.name)
/-- an own exception class with its __init__ -/
structure Xd where
  name : Str
  k : Xk
  qual : Str
  st : Stmt
/-- the classes: the own exceptions, what except and isinstance name (own, built-in: its type's name) with the numbers of those under them -/
structure Xs where
  ac : List Str := []
  t : List (Str × List (List Nat)) := []
  xs : List Xd := []
  n : List (Str × List Nat) := []
  b : List (Str × String × List Nat) := []
  /-- own classes: those that are made with their __init__; methods by class; all; the fields -/
  mks : List (Str × Nat) := []
  mths : List (Str × List (Str × Nat)) := []
  cns : List Str := []
  fds : List Str := []
/-- a tuple of texts stands at a global name -/
def txB (zs : List (List Nat)) (its : List Value) : Bool := match zs, its with
  | [], [] => true
  | z :: zs, .str y _ :: its => decide (y = toS z) && txB zs its
  | _, _ => false
def tupB (K : PySem.W.Frag) (q : Str × List (List Nat)) : Bool := match K.lookup (He.ga K q.1) with
  | some ⟨.type t, _, .seq its _, _⟩ => decide (t = "tuple") && (decide (its.size ≤ sizeLine) && txB q.2 its.toList)
  | _ => false
def oexB (K : PySem.W.Frag) (C : Addr) : Bool := (match K.lookup C with
  | some ⟨.type "type", _, .cls cd, sl⟩ => (match cd.mro, sl.toList with
    | .ref C' :: bm, [_, _, _, _, some (.builtin n), _] => C' == C && (n == "ValueError.__new__" && (!cd.hasDel && (cd.hasDict && PySem.HandSPX.refsVE bm)))
    | _, _ => false)
  | _ => false) && (decide (PySem.W.findIn K (.ref C) "__setattr__" = some (some (.builtin "object.__setattr__"))) && (decide (PySem.W.subIn K (.ref C) (.type "BaseException") = some true) && (decide (PySem.W.typeIn K (.ref C) = some (.type "type")) && PySem.W.keepIn K (.ref C))))
def iniC (P : Program) (K : PySem.W.Frag) (C f : Addr) : Bool := match K.lookup f with
  | some ⟨_, _, .func fd, _⟩ => (match fd.closure, fd.code, fd.defaults with
    | [(nm, cc)], .ref cda, .none => decide (nm = "__class__") && (PySem.W.codeIn K (.ref cda) fd.qualname && ((match K.lookup cda with
      | some ⟨_, _, .fields vs, _⟩ => (match vs[2]? with
        | some (Value.str file _) => (P.main.file : Str) == file
        | _ => false)
      | _ => false) && (match K.lookup cc with
      | some ⟨_, _, .cell (some (.ref C')), _⟩ => C' == C
      | _ => false)))
    | _, _, _ => false)
  | _ => false
def excCB (K : PySem.W.Frag) (D : Addr) : Bool := decide (PySem.W.findIn K (.ref D) "__class__" = some (some (.builtin "object.__class__"))) && (decide (PySem.W.specialIn K (.builtin "object.__class__") "__get__" = some (some (.builtin "getset_descriptor.__get__"))) && (decide (PySem.W.takesIn K (.builtin "object.__class__") = some true) && decide (PySem.W.mroIn K D (.type "object") = some true)))
def xB (P : Program) (K : PySem.W.Frag) (x : Str) : Bool :=
  oexB K (He.ga K x) && (decide (PySem.W.findIn K (.ref (He.ga K x)) "__init__" = some (some (.ref (He.ma K (He.ga K x) "__init__")))) && (decide (PySem.W.typeIn K (.ref (He.ma K (He.ga K x) "__init__")) = some (.type "function")) && ((PySem.W.clsIn K (He.ga K x)).isSome &&
  (decide (PySem.W.mroIn K (He.ga K x) (.ref (He.ga K x)) = some true) && (decide (PySem.W.nsIn K cStatics "thirdparty.any" = some none) && (decide (PySem.W.ks_superIn K (He.ga K x) (He.ga K x) "__init__" = some (some (.builtin "ValueError.__init__"))) &&
  (decide (PySem.W.subIn K (.ref (He.ga K x)) (.type "ValueError") = some true) && (iniC P K (He.ga K x) (He.ma K (He.ga K x) "__init__") && (decide (PySem.W.findIn K (.ref (He.ga K x)) "place" = some none) && (decide (PySem.W.findIn K (.ref (He.ga K x)) "reason" = some none) &&
  (excCB K (He.ga K x) && xfB K (He.ga K x))))))))))))
abbrev FnI : Type := Option (Str × Str × Arguments × FuncBody × Scope × Addr × Addr)
def fnI (K : PySem.W.Frag) (x : Str) : FnI := match K.lookup (He.ma K (He.ga K x) "__init__") with
  | some ⟨_, _, .func fd, _⟩ => some (fd.name, fd.qualname, fd.params, fd.body, fd.scope, fd.globals, fd.builtins)
  | _ => none
def Xd.val (x : Xd) : FnI := some ("__init__", x.qual, defArgs x.st, .stmts (defBody x.st), defScope x.st, mainGlobals, builtinsNs)
/-- all own exceptions by the classes that are named -/
def xmB (K : PySem.W.Frag) (X : Xs) : Bool := (X.n.all fun q => (X.xs.zipIdx).all fun p => decide (PySem.W.exmOne K (.ref (He.ga K p.1.name)) (.ref (He.ga K q.1)) = some (q.2.contains p.2)) && decide (PySem.W.kitOne K (.ref (He.ga K p.1.name)) (.ref (He.ga K q.1)) = some (q.2.contains p.2))) &&
  (X.b.all fun q => decide (bootBuiltins q.1 = some (.type q.2.1)) && (X.xs.zipIdx).all fun p => decide (PySem.W.kitOne K (.ref (He.ga K p.1.name)) (.type q.2.1) = some (q.2.2.contains p.2)))
def acB (K : PySem.W.Frag) (x : Str) : Bool := decide (PySem.W.nsIn K mainGlobals x = some (some (.type "itertools.accumulate")))
def xsB (P : Program) (K : PySem.W.Frag) (X : Xs) : Bool := (X.ac.all (acB K)) && (decide (PySem.W.nsIn K cStatics "sys.int_max_str_digits" = some none) && (X.t.all (tupB K) && ((X.xs.all fun x => xB P K x.name) && xmB K X)))
abbrev AlP : Type := He.AlD × (Bool × List FnI)
def obsP (P : Program) (fa : List He.Fa) (fn : List He.DefD) (X : Xs) (K : PySem.W.Frag) : AlP := (He.obsD fa fn K, (xsB P K X, X.xs.map fun x => fnI K x.name))
def valP (fn : List He.DefD) (X : Xs) : AlP := (He.valD fn, (true, X.xs.map Xd.val))
def SaysP (P : Program) (fa : List He.Fa) (fn : List He.DefD) (X : Xs) (K : PySem.W.Frag) : Prop := obsP P fa fn X K = valP fn X
def obsPG (L : List Addr) (P : Program) (fa : List He.Fa) (fn : List He.DefD) (X : Xs) (g : Addr → Option Obj) : AlP := obsP P fa fn X (He.frG g L)
def hookP (L : List Addr) (P : Program) (fa : List He.Fa) (fn : List He.DefD) (X : Xs) : PySem.W.Hook where
  α := AlP
  obs := fun s => obsPG L P fa fn X s.heap.get?
  val := fun _ => valP fn X
  says := fun _ h => ∃ K : PySem.W.Frag, K.In h ∧ SaysP P fa fn X K
  of := fun _ _ e => ⟨_, He.frG_in, e⟩
  keeps := fun _ _ _ ⟨K, hK, c⟩ k => ⟨K, PySem.W.Frag.In.keeps hK k, c⟩
theorem obsPG_eq {L : List Addr} {P : Program} {fa : List He.Fa} {fn : List He.DefD} {X : Xs} {g : Addr → Option Obj} {s : Shared} (h : ∀ a, g a = s.heap.get? a) : obsPG L P fa fn X g = (hookP L P fa fn X).obs s := by
  have e : g = s.heap.get? := funext h
  rw [e] <;> rfl
def faX (X : Xs) : List He.Fa := X.xs.map (fun x => .glo x.name) ++ (X.n.map (fun q => .glo q.1) ++ (X.b.map (fun q => .free q.1) ++ (X.t.map (fun q => .glo q.1) ++ (X.cns.map .cls ++ (X.cns.flatMap (fun x => X.fds.map fun f => .noat x f) ++ (X.mths.flatMap (fun q => q.2.map fun p => .meth p.1 q.1) ++ (X.mks.map (fun p => .mkr p.1) ++ X.mks.map (fun p => .glo p.1))))))))
def dfOf (d : Df) : He.DefD := ⟨atOf d, d.name, d.qn, defArgs d.st, defBody d.st, defScope d.st, [], []⟩
end FD

set_option Elab.async false
set_option linter.all false
set_option maxRecDepth 100000
set_option maxHeartbeats 0
namespace K27
open PySem PySem.Spec PyProof.Rows L2 FD
def top (i : Nat) : Stmt := PySem.Challenge.pw_flathold_k27_shops_bounds.main.body.getD i (.Pass ⟨0, 0, 0, 0⟩)
def mth (i j : Nat) : Stmt := match top i with | .ClassDef (body := b) .. => b.getD j (.Pass ⟨0, 0, 0, 0⟩) | _ => .Pass ⟨0, 0, 0, 0⟩
/-- law -/
def f0 : Df := ⟨"law", "law", "law", none, ["script", "box", "bad", "name", "start", "others", "rows", "one", "more", "sheet", "due", "hut", "e"], ["script"], top 165⟩
/-- _law_digits -/
def f1 : Df := ⟨"_law_digits", "_law_digits", "_law_digits", none, ["script", "first", "last", "digits", "k", "cell", "turn", "seed"], ["script", "first", "last"], top 155⟩
/-- _law_pick -/
def f2 : Df := ⟨"_law_pick", "_law_pick", "_law_pick", none, ["box", "things"], ["box", "things"], top 157⟩
/-- _law_start -/
def f3 : Df := ⟨"_law_start", "_law_start", "_law_start", none, [], [], top 159⟩
/-- journal_line -/
def f4 : Df := ⟨"journal_line", "journal_line", "journal_line", none, ["n", "before", "entry", "text"], ["n", "before", "entry"], top 137⟩
/-- _law_like -/
def f5 : Df := ⟨"_law_like", "_law_like", "_law_like", none, ["told", "due", "k"], ["told", "due"], top 158⟩
/-- _law_first -/
def f6 : Df := ⟨"_law_first", "_law_first", "_law_first", none, ["name", "others", "start", "e"], ["name", "others", "start"], top 160⟩
/-- shop_of -/
def f7 : Df := ⟨"shop_of", "shop_of", "shop_of", none, ["text", "entries", "signs", "last"], ["text"], top 151⟩
/-- first_line -/
def f8 : Df := ⟨"first_line", "first_line", "first_line", none, ["name", "others", "graph"], ["name", "others", "graph"], top 150⟩
/-- _law_lines_refused -/
def f9 : Df := ⟨"_law_lines_refused", "_law_lines_refused", "_law_lines_refused", none, ["hut", "told"], ["hut"], top 163⟩
/-- _law_long -/
def f10 : Df := ⟨"_law_long", "_law_long", "_law_long", none, ["box", "hut", "cut", "said"], ["box", "hut"], top 164⟩
/-- _law_cell -/
def f11 : Df := ⟨"_law_cell", "_law_cell", "_law_cell", none, ["script", "k"], ["script", "k"], top 154⟩
/-- _law_draw -/
def f12 : Df := ⟨"_law_draw", "_law_draw", "_law_draw", none, ["box", "many", "at"], ["box", "many"], top 156⟩
/-- show_plain -/
def f13 : Df := ⟨"show_plain", "show_plain", "show_plain", none, ["value", "member"], ["value"], top 62⟩
/-- sum_behind -/
def f14 : Df := ⟨"sum_behind", "sum_behind", "sum_behind", none, ["n", "before", "text", "codes"], ["n", "before", "text"], top 136⟩
/-- Shop.__init__ -/
def f15 : Df := ⟨"Shop", "__init__", "Shop.__init__", some "Shop", ["self", "entries", "last_sum", "begin", "name", "others", "graph", "notices", "gave", "told", "promise", "n", "notice", "entry"], ["self", "entries", "last_sum"], mth 152 0⟩
/-- read_journal -/
def f16 : Df := ⟨"read_journal", "read_journal", "read_journal", none, ["text", "entries", "signs", "before", "n", "row", "found", "number", "_", "rest", "worth", "blank", "words"], ["text"], top 141⟩
/-- is_name_wnames -/
def f17 : Df := ⟨"is_name_wnames", "is_name", "is_name", none, ["thing", "sign"], ["thing"], top 74⟩
/-- are_others -/
def f18 : Df := ⟨"are_others", "are_others", "are_others", none, ["thing", "name", "other"], ["thing", "name"], top 149⟩
/-- is_graph -/
def f19 : Df := ⟨"is_graph", "is_graph", "is_graph", none, ["thing", "points", "edges", "one", "row", "_", "a", "b"], ["thing"], top 17⟩
/-- _law_attached -/
def f20 : Df := ⟨"_law_attached", "_law_attached", "_law_attached", none, ["hut", "mark", "other", "e"], ["hut", "mark", "other"], top 161⟩
/-- _law_gone -/
def f21 : Df := ⟨"_law_gone", "_law_gone", "_law_gone", none, ["hut", "told", "e"], ["hut"], top 162⟩
/-- Shop.work -/
def f22 : Df := ⟨"Shop", "work", "Shop.work", some "Shop", ["self", "rows", "line", "notice", "told", "word", "thing", "result", "entry", "notices", "said", "mark", "text"], ["self"], mth 152 10⟩
/-- Shop.say -/
def f23 : Df := ⟨"Shop", "say", "Shop.say", some "Shop", ["self"], ["self"], mth 152 12⟩
/-- Shop.done -/
def f24 : Df := ⟨"Shop", "done", "Shop.done", some "Shop", ["self"], ["self"], mth 152 13⟩
/-- Shop.hear -/
def f25 : Df := ⟨"Shop", "hear", "Shop.hear", some "Shop", ["self", "mark", "text"], ["self", "mark", "text"], mth 152 4⟩
/-- quoted -/
def f26 : Df := ⟨"quoted", "quoted", "quoted", none, ["text"], ["text"], top 63⟩
/-- Register.__init__ -/
def f27 : Df := ⟨"Register", "__init__", "Register.__init__", some "Register", ["self", "graph"], ["self", "graph"], mth 84 0⟩
/-- entry_of -/
def f28 : Df := ⟨"entry_of", "entry_of", "entry_of", none, ["text", "n", "entry", "is_right"], ["text", "n"], top 138⟩
/-- ascends -/
def f29 : Df := ⟨"ascends", "ascends", "ascends", none, ["row", "one", "other"], ["row"], top 77⟩
/-- is_paper -/
def f30 : Df := ⟨"is_paper", "is_paper", "is_paper", none, ["thing", "word", "width"], ["thing", "word", "width"], top 12⟩
/-- is_name_vforms -/
def f31 : Df := ⟨"is_name_vforms", "is_name", "is_name", none, ["thing"], ["thing"], top 9⟩
/-- is_rising -/
def f32 : Df := ⟨"is_rising", "is_rising", "is_rising", none, ["thing", "one", "other"], ["thing"], top 11⟩
/-- is_of -/
def f33 : Df := ⟨"is_of", "is_of", "is_of", none, ["thing", "width"], ["thing", "width"], top 13⟩
/-- Shop.attach -/
def f34 : Df := ⟨"Shop", "attach", "Shop.attach", some "Shop", ["self", "mark", "other"], ["self", "mark", "other"], mth 152 2⟩
/-- Shop.detach -/
def f35 : Df := ⟨"Shop", "detach", "Shop.detach", some "Shop", ["self", "mark"], ["self", "mark"], mth 152 3⟩
/-- Register.notices -/
def f36 : Df := ⟨"Register", "notices", "Register.notices", some "Register", ["self", "number"], ["self"], mth 84 2⟩
/-- Shop._line -/
def f37 : Df := ⟨"Shop", "_line", "Shop._line", some "Shop", ["self", "mark"], ["self", "mark"], mth 152 5⟩
/-- read_plain -/
def f38 : Df := ⟨"read_plain", "read_plain", "read_plain", none, ["text", "value", "place"], ["text"], top 64⟩
/-- is_first -/
def f39 : Df := ⟨"is_first", "is_first", "is_first", none, ["entry"], ["entry"], top 139⟩
/-- is_later -/
def f40 : Df := ⟨"is_later", "is_later", "is_later", none, ["entry", "word", "many"], ["entry"], top 140⟩
/-- Line.__init__ -/
def f41 : Df := ⟨"Line", "__init__", "Line.__init__", some "Line", ["self"], ["self"], mth 147 0⟩
/-- value_at -/
def f42 : Df := ⟨"value_at", "value_at", "value_at", none, ["text", "place", "within", "sign"], ["text", "place", "within"], top 65⟩
/-- Line.say -/
def f43 : Df := ⟨"Line", "say", "Line.say", some "Line", ["self", "notices", "owes", "rows", "notice", "row"], ["self", "notices"], mth 147 6⟩
/-- Line.work -/
def f44 : Df := ⟨"Line", "work", "Line.work", some "Line", ["self", "register", "rows", "told", "row", "notice"], ["self", "register"], mth 147 2⟩
/-- Line.hear -/
def f45 : Df := ⟨"Line", "hear", "Line.hear", some "Line", ["self", "text"], ["self", "text"], mth 147 1⟩
/-- text_at -/
def f46 : Df := ⟨"text_at", "text_at", "text_at", none, ["text", "place", "parts", "quote", "end", "slash", "feed", "behind"], ["text", "place"], top 67⟩
/-- tuple_at -/
def f47 : Df := ⟨"tuple_at", "tuple_at", "tuple_at", none, ["text", "place", "within", "members", "sign", "member"], ["text", "place", "within"], top 68⟩
/-- integer_at -/
def f48 : Df := ⟨"integer_at", "integer_at", "integer_at", none, ["text", "place", "begin", "sign", "end"], ["text", "place"], top 66⟩
/-- have_row -/
def f49 : Df := ⟨"have_row", "have_row", "have_row", none, ["numbers", "runs", "number", "words", "first", "last"], ["numbers"], top 144⟩
/-- Line._do -/
def f50 : Df := ⟨"Line", "_do", "Line._do", some "Line", ["self", "row", "register", "numbers", "number"], ["self", "row", "register"], mth 147 3⟩
/-- Line._break_off -/
def f51 : Df := ⟨"Line", "_break_off", "Line._break_off", some "Line", ["self"], ["self"], mth 147 5⟩
/-- numbers_of -/
def f52 : Df := ⟨"numbers_of", "numbers_of", "numbers_of", none, ["row", "told", "word", "low", "high", "first", "dash", "last"], ["row"], top 146⟩
def ds : List Df := [f0, f1, f2, f3, f4, f5, f6, f7, f8, f9, f10, f11, f12, f13, f14, f15, f16, f17, f18, f19, f20, f21, f22, f23, f24, f25, f26, f27, f28, f29, f30, f31, f32, f33, f34, f35, f36, f37, f38, f39, f40, f41, f42, f43, f44, f45, f46, f47, f48, f49, f50, f51, f52]
def fns : List (Str × Nat) := [(("law" : Str), 0), (("_law_digits" : Str), 1), (("_law_pick" : Str), 2), (("_law_start" : Str), 3), (("journal_line" : Str), 4), (("_law_like" : Str), 5), (("_law_first" : Str), 6), (("shop_of" : Str), 7), (("first_line" : Str), 8), (("_law_lines_refused" : Str), 9), (("_law_long" : Str), 10), (("_law_cell" : Str), 11), (("_law_draw" : Str), 12), (("show_plain" : Str), 13), (("sum_behind" : Str), 14), (("read_journal" : Str), 16), (("is_name_wnames" : Str), 17), (("are_others" : Str), 18), (("is_graph" : Str), 19), (("_law_attached" : Str), 20), (("_law_gone" : Str), 21), (("quoted" : Str), 26), (("entry_of" : Str), 28), (("ascends" : Str), 29), (("is_paper" : Str), 30), (("is_name_vforms" : Str), 31), (("is_rising" : Str), 32), (("is_of" : Str), 33), (("read_plain" : Str), 38), (("is_first" : Str), 39), (("is_later" : Str), 40), (("value_at" : Str), 42), (("text_at" : Str), 46), (("tuple_at" : Str), 47), (("integer_at" : Str), 48), (("have_row" : Str), 49), (("numbers_of" : Str), 52)]
def gs : List Gc := [.int "BY" (99991), .str "LETTERS" [97, 98, 99, 100, 101, 102, 103, 104, 105, 106, 107, 108, 109, 110, 111, 112, 113, 114, 115, 116, 117, 118, 119, 120, 121, 122], .str "SIGNS" [97, 98, 99, 100, 101, 102, 103, 104, 105, 106, 107, 108, 109, 110, 111, 112, 113, 114, 115, 116, 117, 118, 119, 120, 121, 122, 48, 49, 50, 51, 52, 53, 54, 55, 56, 57], .int "MOST_POINTS" (12), .int "MOST_EDGES_graphs" (30), .int "MOST_BRACKETS" (40), .int "MOST_WAITING" (60000), .str "FIGURES" [48, 49, 50, 51, 52, 53, 54, 55, 56, 57], .int "MOST_FIGURES" (2000)]
def free : List Str := ["range", "len", "int", "isinstance", "tuple", "str", "bool", "dict", "list", "map", "ord", "sum", "enumerate", "all", "zip", "sorted", "super"]
def x0 : Xd := ⟨"BadShop", .reason, "BadShop.__init__", mth 6 0⟩
def x1 : Xd := ⟨"BadLine", .reason, "BadLine.__init__", mth 7 0⟩
def x2 : Xd := ⟨"BadPlain", .place, "BadPlain.__init__", mth 5 0⟩
def Xz : Xs := { ac := ["accumulate"], t := [], xs := [x0, x1, x2], n := [("BadShop", [0]), ("FlatError", [0, 1, 2]), ("BadLine", [1]), ("BadNotice", []), ("BadPlain", [2])], b := [], mks := [(("Shop" : Str), 15), (("Register" : Str), 27), (("Line" : Str), 41)], mths := [(("work" : Str), [(("Line" : Str), 44), (("Shop" : Str), 22)]), (("say" : Str), [(("Line" : Str), 43), (("Shop" : Str), 23)]), (("done" : Str), [(("Shop" : Str), 24)]), (("hear" : Str), [(("Line" : Str), 45), (("Shop" : Str), 25)]), (("attach" : Str), [(("Shop" : Str), 34)]), (("detach" : Str), [(("Shop" : Str), 35)]), (("notices" : Str), [(("Register" : Str), 36)]), (("_line" : Str), [(("Shop" : Str), 37)]), (("_do" : Str), [(("Line" : Str), 50)]), (("_break_off" : Str), [(("Line" : Str), 51)])], cns := [("Shop" : Str), ("Register" : Str), ("Line" : Str)], fds := [("_name" : Str), ("_others" : Str), ("_graph" : Str), ("_register" : Str), ("_gave" : Str), ("_told" : Str), ("_rows" : Str), ("_sum" : Str), ("_lines" : Str), ("_asked" : Str), ("_said" : Str), ("_done" : Str), ("_begin" : Str), ("_kept" : Str), ("_waiting" : Str), ("_shared" : Str), ("_did_tell" : Str), ("_is_over" : Str), ("_owes_bye" : Str)] }
theorem lawD : ds[0]? = some f0 := rfl
def fn : List He.DefD := ds.map dfOf
def fa : List He.Fa := faOf ds gs free (faX Xz)
abbrev R : PySem.W.OpenRow := PySem.W.OpenLaw.row PySem.Challenge.rw_flathold_k27_shops_bounds
/-- the objects of the booted module that are looked at -/
def adr : List Addr := [2, 3, 49, 71, 92, 113, 134, 565, 143, 148, 155, 162, 167, 504, 511, 518, 525, 532, 539, 546, 577, 677, 920, 927, 934, 941, 948, 955, 960, 974, 1029, 1038, 1045, 1052, 1201, 1212, 1219, 1226, 1233, 1238, 1245, 1252, 1259, 1266, 1273, 1280, 1287, 48, 91, 112, 133, 564, 142, 147, 154, 161, 166, 503, 510, 517, 524, 531, 538, 545, 576, 676, 919, 926, 933, 940, 947, 954, 959, 973, 1028, 1037, 1044, 1051, 1200, 1211, 1218, 1225, 1232, 1237, 1244, 1251, 1258, 1265, 1272, 1279, 1286, 89, 110, 131, 624, 636, 988, 995, 1002, 1007, 1021, 1026, 1064, 1078, 1085, 1092, 1099, 1132, 1146, 1153, 88, 77, 109, 98, 130, 119, 623, 635, 987, 994, 1001, 1006, 1020, 1025, 1063, 1077, 1084, 1091, 1098, 1131, 1145, 1152]
abbrev hk : PySem.W.Hook := hookP adr R.prog fa fn Xz
def ob (s : PySem.W.SharedT) : AlP := obsPG adr R.prog fa fn Xz (HandSHeadRun.getT s)
theorem ob_eq (s : PySem.W.SharedT) : ob s = hk.obs s.abs := obsPG_eq (HandSHeadRun.getT_eq s)
def loose : List Str := [("_wall" : Str), ("FlatError" : Str), ("BadNotice" : Str), ("BadPlain" : Str), ("BadShop" : Str), ("BadLine" : Str), ("is_name" : Str), ("is_name_vforms" : Str), ("is_rising" : Str), ("is_paper" : Str), ("is_of" : Str), ("MOST_POINTS" : Str), ("MOST_EDGES_graphs" : Str), ("is_graph" : Str), ("ends_of" : Str), ("darts_at" : Str), ("degree" : Str), ("between" : Str), ("back" : Str), ("begins" : Str), ("leads_to" : Str), ("made" : Str), ("edge_row" : Str), ("without_edges" : Str), ("without_points" : Str), ("with_point" : Str), ("with_edge" : Str), ("simple" : Str), ("backwards" : Str), ("write_graph" : Str), ("Walk" : Str), ("blocks" : Str), ("block_graph" : Str), ("Flow" : Str), ("ways" : Str), ("pairs_of" : Str), ("firmness" : Str), ("shortest_way" : Str), ("begun" : Str), ("of_blocks" : Str), ("of_simple" : Str), ("Plane" : Str), ("plane_block" : Str), ("plane" : Str), ("bare_graph" : Str), ("path_from" : Str), ("first_forbidden" : Str), ("flat_or_not" : Str), ("FIGURES" : Str), ("MOST_FIGURES" : Str), ("MOST_BRACKETS" : Str), ("show_plain" : Str), ("quoted" : Str), ("read_plain" : Str), ("value_at" : Str), ("integer_at" : Str), ("text_at" : Str), ("tuple_at" : Str), ("LETTERS" : Str), ("SIGNS" : Str), ("is_whole" : Str), ("is_integer" : Str), ("is_name_wnames" : Str), ("is_form" : Str), ("ascends" : Str), ("edges_of" : Str), ("is_act" : Str), ("is_notice" : Str), ("made_by" : Str), ("told_by" : Str), ("Register" : Str), ("neighbours" : Str), ("colourings" : Str), ("as_rows" : Str), ("coloured" : Str), ("determinant_of" : Str), ("how_many_trees" : Str), ("steps_from" : Str), ("lengths_from" : Str), ("begin_of" : Str), ("shortest" : Str), ("MOST_CHANGES" : Str), ("is_promise" : Str), ("fall_of_way" : Str), ("fall_by" : Str), ("stands" : Str), ("rows_of" : Str), ("all_changes" : Str), ("put_into" : Str), ("smallest" : Str), ("causes" : Str), ("cures" : Str), ("shaken" : Str), ("places_of" : Str), ("joined" : Str), ("leads" : Str), ("raised" : Str), ("added" : Str), ("flat_key" : Str), ("numbers_by" : Str), ("tutte" : Str), ("power" : Str), ("tutte_value" : Str), ("how_many_pieces" : Str), ("colour_count" : Str), ("ALONE" : Str), ("OF_NAMES" : Str), ("MOST_EDGES_questions" : Str), ("is_question" : Str), ("first_word" : Str), ("answer" : Str), ("answer_of_graph" : Str), ("answer_of_promise" : Str), ("BY" : Str), ("sum_behind" : Str), ("journal_line" : Str), ("entry_of" : Str), ("is_first" : Str), ("is_later" : Str), ("read_journal" : Str), ("MOST_WAITING" : Str), ("have_row" : Str), ("small_number" : Str), ("numbers_of" : Str), ("Line" : Str), ("are_others" : Str), ("first_line" : Str), ("shop_of" : Str), ("Shop" : Str), ("_law_cell" : Str), ("_law_digits" : Str), ("_law_draw" : Str), ("_law_pick" : Str), ("_law_like" : Str), ("_law_start" : Str), ("_law_first" : Str), ("_law_attached" : Str), ("_law_gone" : Str), ("_law_lines_refused" : Str), ("_law_long" : Str)]
open HandSHeadRun PySem.W in
theorem runA (w : World) : (wholeF (fun p => stepQ (denQ tabQ) p w) fenceQ 40000 R.prog).map (fun x => looksF R.prog x.1.heap x.2.abs) = some true := by
  kernel_rfl
open HandSHeadRun PySem.W in
theorem runB (w : World) : (wholeF (fun p => stepQ (denQ tabQ) p w) fenceQ 40000 R.prog).map (fun x => seenQ (PySem.W.view R.prog [0, 165]) loose (importedModules R.prog.main.body) (fun s => xlAt (PySem.W.view R.prog [0, 165]) [] s && recOk R.toRowW.records s) x.2.abs) = some (openGood (PySem.W.view R.prog [0, 165]) loose) := by
  kernel_rfl
open HandSHeadRun PySem.W in
theorem runC (w : World) : (wholeF (fun p => stepQ (denQ tabQ) p w) fenceQ 40000 R.prog).map (fun x => ob x.2) = some (hk.val w) := by
  kernel_rfl
theorem map3 {α β γ δ : Type} {o : Option α} {f : α → β} {g : α → γ} {k : α → δ} {b : β} {c : γ} {d : δ} (h1 : o.map f = some b) (h2 : o.map g = some c) (h3 : o.map k = some d) : o.map (fun x => (f x, g x, k x)) = some (b, c, d) := by
  cases o with
  | none => cases h1
  | some x =>
    cases h1
    cases h2
    cases h3
    rfl
theorem run (w : World) : HandSHeadRun.RunEqI R (PySem.W.view R.prog [0, 165]) hk ob 40000 loose w := map3 (runA w) (runB w) (runC w)
end K27

set_option maxRecDepth 100000
namespace K27.A
open FD
/-- law -/
def b0 : Ss := Ss.cons (S.asg (T.sl 1) (E.ofL (L.disp (Es.cons (E.call 1 (Es.cons (E.sl 0) (Es.cons (E.c (D.int 0)) (Es.cons (E.c (D.int 63)) (Es.nil))))) (Es.cons (E.c (D.int 0)) (Es.nil)))))) (Ss.cons (S.asg (T.sl 2) (E.tup (Es.cons (E.c (D.str [103, 114, 97, 112, 104])) (Es.cons (E.tup (Es.cons (E.c (D.str [97])) (Es.nil))) (Es.cons (E.tup (Es.cons (E.tup (Es.cons (E.c (D.str [101, 48])) (Es.cons (E.c (D.str [97])) (Es.cons (E.c (D.str [98])) (Es.nil))))) (Es.nil))) (Es.nil)))))) (Ss.cons (S.par2 3 4 (Es.cons (E.call 2 (Es.cons (E.sl 1) (Es.cons (E.ofL (L.disp (Es.cons (E.c (D.str [])) (Es.cons (E.c (D.str [72, 65])) (Es.cons (E.c (D.str [49, 104, 97])) (Es.cons (E.c (D.str [118, 101, 114, 121, 108, 111, 110, 103, 110, 97, 109, 101, 115])) (Es.nil))))))) (Es.nil)))) (Es.cons (E.call 2 (Es.cons (E.sl 1) (Es.cons (E.ofL (L.disp (Es.cons (E.tup (Es.nil)) (Es.cons (E.tup (Es.cons (E.c (D.str [103, 114, 97, 112, 104])) (Es.nil))) (Es.cons (E.sli (E.call 3 (Es.nil)) (Oe.none) (Oe.some (E.c (D.int 1)))) (Es.cons (E.sl 2) (Es.cons (E.c (D.int 5)) (Es.nil)))))))) (Es.nil)))) (Es.nil)))) (Ss.cons (S.asg (T.sl 5) (E.call 2 (Es.cons (E.sl 1) (Es.cons (E.ofL (L.disp (Es.cons (E.tup (Es.cons (E.c (D.str [104, 97])) (Es.nil))) (Es.cons (E.tup (Es.cons (E.c (D.str [104, 99])) (Es.cons (E.c (D.str [104, 98])) (Es.nil)))) (Es.cons (E.tup (Es.cons (E.c (D.str [104, 98])) (Es.cons (E.c (D.str [104, 98])) (Es.nil)))) (Es.cons (E.tup (Es.cons (E.c (D.str [104, 98])) (Es.cons (E.c (D.str [104, 99])) (Es.cons (E.c (D.str [104, 100])) (Es.cons (E.c (D.str [104, 101])) (Es.cons (E.c (D.str [104, 102])) (Es.nil))))))) (Es.cons (E.tup (Es.cons (E.c (D.str [72])) (Es.nil))) (Es.nil)))))))) (Es.nil))))) (Ss.cons (S.asg (T.sl 6) (E.ofL (L.disp (Es.cons (E.tup (Es.cons (E.sl 3) (Es.cons (E.tup (Es.cons (E.c (D.str [104, 98])) (Es.nil))) (Es.cons (E.call 3 (Es.nil)) (Es.cons (E.tup (Es.cons (E.c (D.str [110, 97, 109, 101])) (Es.nil))) (Es.nil)))))) (Es.cons (E.tup (Es.cons (E.c (D.str [104, 97])) (Es.cons (E.sl 5) (Es.cons (E.call 3 (Es.nil)) (Es.cons (E.tup (Es.cons (E.c (D.str [111, 116, 104, 101, 114, 115])) (Es.nil))) (Es.nil)))))) (Es.cons (E.tup (Es.cons (E.c (D.str [104, 97])) (Es.cons (E.tup (Es.cons (E.c (D.str [104, 98])) (Es.nil))) (Es.cons (E.sl 4) (Es.cons (E.tup (Es.cons (E.c (D.str [103, 114, 97, 112, 104])) (Es.nil))) (Es.nil)))))) (Es.nil))))))) (Ss.cons (S.asg (T.sl 6) (E.bin (BOp.add) (E.sl 6) (E.ofL (L.disp (Es.cons (E.tup (Es.cons (E.sl 3) (Es.cons (E.sl 5) (Es.cons (E.sl 4) (Es.cons (E.tup (Es.cons (E.c (D.str [110, 97, 109, 101])) (Es.nil))) (Es.nil)))))) (Es.cons (E.tup (Es.cons (E.c (D.str [104, 97])) (Es.cons (E.sl 5) (Es.cons (E.sl 4) (Es.cons (E.tup (Es.cons (E.c (D.str [111, 116, 104, 101, 114, 115])) (Es.nil))) (Es.nil)))))) (Es.nil))))))) (Ss.cons (S.ex (E.mt (Mt.append) (E.sl 6) (Es.cons (E.tup (Es.cons (E.c (D.str [104, 97])) (Es.cons (E.tup (Es.cons (E.c (D.str [104, 98])) (Es.nil))) (Es.cons (E.call 3 (Es.nil)) (Es.cons (E.call 4 (Es.cons (E.c (D.int 0)) (Es.cons (E.c (D.int 0)) (Es.cons (E.tup (Es.cons (E.c (D.str [115, 104, 111, 112])) (Es.cons (E.c (D.str [104, 97])) (Es.cons (E.tup (Es.cons (E.c (D.str [104, 98])) (Es.nil))) (Es.cons (E.call 3 (Es.nil)) (Es.nil)))))) (Es.nil))))) (Es.nil)))))) (Es.nil)))) (Ss.cons (S.fr (T.tup (Ts.cons (T.sl 7) (Ts.cons (T.sl 8) (Ts.cons (T.sl 9) (Ts.cons (T.sl 10) (Ts.nil)))))) (It.e (E.sl 6)) (Ss.cons (S.ite (E.not_ (E.call 5 (Es.cons (E.call 6 (Es.cons (E.sl 7) (Es.cons (E.sl 8) (Es.cons (E.sl 9) (Es.nil))))) (Es.cons (E.sl 10) (Es.nil))))) (Ss.cons (S.ret (E.c (D.bl false))) (Ss.nil)) (Ss.nil)) (Ss.nil))) (Ss.cons (S.asg (T.sl 11) (E.ix (E.call 7 (Es.cons (E.call 8 (Es.cons (E.c (D.str [104, 97])) (Es.cons (E.tup (Es.cons (E.c (D.str [104, 98])) (Es.cons (E.c (D.str [104, 99])) (Es.nil)))) (Es.cons (E.call 3 (Es.nil)) (Es.nil))))) (Es.nil))) (E.c (D.int 0)))) (Ss.cons (S.ite (E.or_ (E.cmp (COp.ne) (E.meth [100, 111, 110, 101] [([83, 104, 111, 112], 24)] (E.sl 11) (Es.nil)) (E.tup (Es.nil))) (E.or_ (E.cmp (COp.ne) (E.meth [115, 97, 121] [([76, 105, 110, 101], 43), ([83, 104, 111, 112], 23)] (E.sl 11) (Es.nil)) (E.tup (Es.nil))) (E.or_ (E.not_ (E.call 9 (Es.cons (E.sl 11) (Es.nil)))) (E.not_ (E.call 10 (Es.cons (E.sl 1) (Es.cons (E.sl 11) (Es.nil)))))))) (Ss.cons (S.ret (E.c (D.bl false))) (Ss.nil)) (Ss.nil)) (Ss.cons (S.tryX (Ss.cons (S.ex (E.call 7 (Es.cons (E.call 2 (Es.cons (E.sl 1) (Es.cons (E.ofL (L.disp (Es.cons (E.c (D.str [])) (Es.cons (E.c (D.str [102, 111, 111, 10])) (Es.cons (E.c (D.str [48, 32, 53, 32, 40, 10])) (Es.cons (E.c (D.str [49, 32, 50, 32, 40, 49, 41, 10])) (Es.nil))))))) (Es.nil)))) (Es.nil)))) (Ss.cons (S.ret (E.c (D.bl false))) (Ss.nil))) [0] 12 (SU.ret (SE.eqs [114, 101, 97, 115, 111, 110] [106, 111, 117, 114, 110, 97, 108]))) (Ss.nil)))))))))))
def g0 : Fn := ⟨13, 1, b0⟩
/-- _law_digits -/
def b1 : Ss := Ss.cons (S.asg (T.sl 3) (E.ofL (L.disp (Es.nil)))) (Ss.cons (S.fr (T.sl 4) (It.r2 (E.sl 1) (E.sl 2)) (Ss.cons (S.asg (T.sl 5) (E.call 11 (Es.cons (E.sl 0) (Es.cons (E.sl 4) (Es.nil))))) (Ss.cons (S.ite (E.cmp (COp.lt) (E.sl 5) (E.c (D.int 0))) (Ss.cons (S.asg (T.sl 5) (E.bin (BOp.sub) (E.c (D.int 1)) (E.bin (BOp.mul) (E.c (D.int 2)) (E.sl 5)))) (Ss.nil)) (Ss.nil)) (Ss.cons (S.ite (E.cmp (COp.gt) (E.bi (Bi.len) (E.sl 3)) (E.c (D.int 1500))) (Ss.cons (S.brk) (Ss.nil)) (Ss.nil)) (Ss.cons (S.ite (E.cmp (COp.ge) (E.sl 5) (E.bin (BOp.pow) (E.c (D.int 10)) (E.c (D.int 18)))) (Ss.cons (S.fr (T.sl 6) (It.r1 (E.c (D.int 60))) (Ss.cons (S.ite (E.cmp (COp.gt) (E.sl 5) (E.c (D.int 0))) (Ss.cons (S.ex (E.mt (Mt.append) (E.sl 3) (Es.cons (E.bin (BOp.mod) (E.bi (Bi.int) (E.sl 5)) (E.c (D.int 1000))) (Es.nil)))) (Ss.cons (S.asg (T.sl 5) (E.bin (BOp.fdiv) (E.sl 5) (E.c (D.int 1000)))) (Ss.nil))) (Ss.nil)) (Ss.nil))) (Ss.nil)) (Ss.cons (S.asg (T.sl 7) (E.bin (BOp.mod) (E.bi (Bi.int) (E.bin (BOp.add) (E.bin (BOp.add) (E.bin (BOp.mul) (E.sl 5) (E.c (D.int 48271))) (E.bin (BOp.mul) (E.sl 4) (E.c (D.int 69621)))) (E.c (D.int 11)))) (E.c (D.int 2147483647)))) (Ss.cons (S.fr (T.sl 6) (It.r1 (E.c (D.int 12))) (Ss.cons (S.asg (T.sl 7) (E.bin (BOp.mod) (E.bi (Bi.int) (E.bin (BOp.add) (E.bin (BOp.add) (E.bin (BOp.mul) (E.sl 7) (E.c (D.int 16807))) (E.bin (BOp.mul) (E.c (D.int 7)) (E.sl 6))) (E.c (D.int 1)))) (E.c (D.int 2147483647)))) (Ss.cons (S.ex (E.mt (Mt.append) (E.sl 3) (Es.cons (E.bin (BOp.mod) (E.bi (Bi.int) (E.bin (BOp.fdiv) (E.sl 7) (E.c (D.int 997)))) (E.c (D.int 1000))) (Es.nil)))) (Ss.nil)))) (Ss.nil)))) (Ss.nil)))))) (Ss.cons (S.ret (E.sl 3)) (Ss.nil)))
def g1 : Fn := ⟨8, 3, b1⟩
/-- _law_pick -/
def b2 : Ss := Ss.cons (S.ret (E.ix (E.sl 1) (E.bin (BOp.mod) (E.bi (Bi.int) (E.call 12 (Es.cons (E.sl 0) (Es.cons (E.c (D.int 900)) (Es.nil))))) (E.bi (Bi.len) (E.sl 1))))) (Ss.nil)
def g2 : Fn := ⟨2, 2, b2⟩
/-- _law_start -/
def b3 : Ss := Ss.cons (S.ret (E.tup (Es.cons (E.c (D.str [103, 114, 97, 112, 104])) (Es.cons (E.tup (Es.cons (E.c (D.str [97])) (Es.cons (E.c (D.str [98])) (Es.nil)))) (Es.cons (E.tup (Es.cons (E.tup (Es.cons (E.c (D.str [101, 48])) (Es.cons (E.c (D.str [97])) (Es.cons (E.c (D.str [98])) (Es.nil))))) (Es.nil))) (Es.nil)))))) (Ss.nil)
def g3 : Fn := ⟨0, 0, b3⟩
/-- journal_line -/
def b4 : Ss := Ss.cons (S.asg (T.sl 3) (E.call 13 (Es.cons (E.sl 2) (Es.nil)))) (Ss.cons (S.ret (E.fstr (Es.cons (E.sl 0) (Es.cons (E.c (D.str [32])) (Es.cons (E.call 14 (Es.cons (E.sl 0) (Es.cons (E.sl 1) (Es.cons (E.sl 3) (Es.nil))))) (Es.cons (E.c (D.str [32])) (Es.cons (E.sl 3) (Es.cons (E.c (D.str [10])) (Es.nil))))))))) (Ss.nil))
def g4 : Fn := ⟨4, 3, b4⟩
/-- _law_like -/
def b5 : Ss := Ss.cons (S.ite (E.isi (E.sl 1) (Ty.tuple)) (Ss.cons (S.ite (E.or_ (E.not_ (E.isi (E.sl 0) (Ty.tuple))) (E.cmp (COp.ne) (E.bi (Bi.len) (E.sl 0)) (E.bi (Bi.len) (E.sl 1)))) (Ss.cons (S.ret (E.c (D.bl false))) (Ss.nil)) (Ss.nil)) (Ss.cons (S.ret (E.cmp (COp.eq) (E.ofL (L.comp (E.c (D.int 1)) [2] (T.sl 2) (It.r1 (E.bi (Bi.len) (E.sl 1))) (Oe.some (E.not_ (E.call 5 (Es.cons (E.ix (E.sl 0) (E.sl 2)) (Es.cons (E.ix (E.sl 1) (E.sl 2)) (Es.nil)))))))) (E.ofL (L.disp (Es.nil))))) (Ss.nil))) (Ss.nil)) (Ss.cons (S.ite (E.is_ true (E.sl 1) (Si.non)) (Ss.cons (S.ret (E.is_ true (E.sl 0) (Si.non))) (Ss.nil)) (Ss.nil)) (Ss.cons (S.ite (E.is_ true (E.sl 1) (Si.tr)) (Ss.cons (S.ret (E.is_ true (E.sl 0) (Si.tr))) (Ss.nil)) (Ss.nil)) (Ss.cons (S.ite (E.is_ true (E.sl 1) (Si.fl)) (Ss.cons (S.ret (E.is_ true (E.sl 0) (Si.fl))) (Ss.nil)) (Ss.nil)) (Ss.cons (S.ite (E.isi (E.sl 1) (Ty.str)) (Ss.cons (S.ret (E.and_ (E.isi (E.sl 0) (Ty.str)) (E.cmp (COp.eq) (E.mtL (Ml.join) (E.c (D.str [])) (L.disp (Es.cons (E.sl 0) (Es.nil)))) (E.sl 1)))) (Ss.nil)) (Ss.nil)) (Ss.cons (S.ret (E.and_ (E.isi (E.sl 0) (Ty.int)) (E.and_ (E.not_ (E.isi (E.sl 0) (Ty.bool))) (E.cmp (COp.eq) (E.sl 0) (E.sl 1))))) (Ss.nil))))))
def g5 : Fn := ⟨3, 2, b5⟩
/-- _law_first -/
def b6 : Ss := Ss.cons (S.tryX (Ss.cons (S.ret (E.call 8 (Es.cons (E.sl 0) (Es.cons (E.sl 1) (Es.cons (E.sl 2) (Es.nil)))))) (Ss.nil)) [0] 3 (SU.ret (SE.one (SE.ite (ST.and_ (ST.isi [0, 1, 2]) (ST.not_ (ST.isi [1]))) (SE.fld [114, 101, 97, 115, 111, 110]) (SE.c (D.str [63])))))) (Ss.nil)
def g6 : Fn := ⟨4, 3, b6⟩
/-- shop_of -/
def b7 : Ss := Ss.cons (S.asg (T.tup (Ts.cons (T.sl 1) (Ts.cons (T.sl 2) (Ts.nil)))) (E.call 16 (Es.cons (E.sl 0) (Es.nil)))) (Ss.cons (S.ite (E.not_ (E.sl 1)) (Ss.cons (S.rais 0 (Xk.reason) (Es.cons (E.c (D.str [106, 111, 117, 114, 110, 97, 108])) (Es.nil))) (Ss.nil)) (Ss.nil)) (Ss.cons (S.asg (T.sl 3) (E.ix (E.mt (Mt.rpart) (E.sli (E.sl 0) (Oe.none) (Oe.some (E.bin (BOp.sub) (E.sl 2) (E.c (D.int 1))))) (Es.cons (E.c (D.str [10])) (Es.nil))) (E.c (D.int 2)))) (Ss.cons (S.ret (E.tup (Es.cons (E.mk [83, 104, 111, 112] 15 (Es.cons (E.sl 1) (Es.cons (E.bi (Bi.int) (E.ix (E.mt (Mt.split) (E.sl 3) (Es.cons (E.c (D.str [32])) (Es.nil))) (E.c (D.int 1)))) (Es.nil)))) (Es.cons (E.sl 2) (Es.nil))))) (Ss.nil))))
def g7 : Fn := ⟨4, 1, b7⟩
/-- first_line -/
def b8 : Ss := Ss.cons (S.ite (E.not_ (E.call 17 (Es.cons (E.sl 0) (Es.nil)))) (Ss.cons (S.rais 0 (Xk.reason) (Es.cons (E.c (D.str [110, 97, 109, 101])) (Es.nil))) (Ss.nil)) (Ss.nil)) (Ss.cons (S.ite (E.not_ (E.call 18 (Es.cons (E.sl 1) (Es.cons (E.sl 0) (Es.nil))))) (Ss.cons (S.rais 0 (Xk.reason) (Es.cons (E.c (D.str [111, 116, 104, 101, 114, 115])) (Es.nil))) (Ss.nil)) (Ss.nil)) (Ss.cons (S.ite (E.not_ (E.call 19 (Es.cons (E.sl 2) (Es.nil)))) (Ss.cons (S.rais 0 (Xk.reason) (Es.cons (E.c (D.str [103, 114, 97, 112, 104])) (Es.nil))) (Ss.nil)) (Ss.nil)) (Ss.cons (S.ret (E.call 4 (Es.cons (E.c (D.int 0)) (Es.cons (E.c (D.int 0)) (Es.cons (E.tup (Es.cons (E.c (D.str [115, 104, 111, 112])) (Es.cons (E.sl 0) (Es.cons (E.sl 1) (Es.cons (E.sl 2) (Es.nil)))))) (Es.nil)))))) (Ss.nil))))
def g8 : Fn := ⟨3, 3, b8⟩
/-- _law_lines_refused -/
def b9 : Ss := Ss.cons (S.asg (T.sl 1) (E.ofL (L.disp (Es.cons (E.call 20 (Es.cons (E.sl 0) (Es.cons (E.c (D.str [98])) (Es.cons (E.c (D.str [104, 98])) (Es.nil))))) (Es.cons (E.call 20 (Es.cons (E.sl 0) (Es.cons (E.c (D.str [98])) (Es.cons (E.c (D.str [104, 99])) (Es.nil))))) (Es.cons (E.call 20 (Es.cons (E.sl 0) (Es.cons (E.c (D.str [99])) (Es.cons (E.c (D.str [104, 97])) (Es.nil))))) (Es.nil))))))) (Ss.cons (S.asg (T.sl 1) (E.bin (BOp.add) (E.sl 1) (E.ofL (L.disp (Es.cons (E.call 20 (Es.cons (E.sl 0) (Es.cons (E.c (D.str [99, 32, 100])) (Es.cons (E.c (D.str [104, 99])) (Es.nil))))) (Es.cons (E.call 20 (Es.cons (E.sl 0) (Es.cons (E.c (D.str [])) (Es.cons (E.c (D.str [104, 99])) (Es.nil))))) (Es.cons (E.call 20 (Es.cons (E.sl 0) (Es.cons (E.bin (BOp.mul) (E.c (D.str [109])) (E.c (D.int 21))) (Es.cons (E.c (D.str [104, 99])) (Es.nil))))) (Es.cons (E.call 20 (Es.cons (E.sl 0) (Es.cons (E.bin (BOp.mul) (E.c (D.str [109])) (E.c (D.int 20))) (Es.cons (E.c (D.str [104, 99])) (Es.nil))))) (Es.nil))))))))) (Ss.cons (S.ret (E.and_ (E.cmp (COp.eq) (E.sl 1) (E.ofL (L.disp (Es.cons (E.c (D.non)) (Es.cons (E.c (D.str [109, 97, 114, 107])) (Es.cons (E.c (D.str [119, 104, 111])) (Es.cons (E.c (D.str [109, 97, 114, 107])) (Es.cons (E.c (D.str [109, 97, 114, 107])) (Es.cons (E.c (D.str [109, 97, 114, 107])) (Es.cons (E.c (D.non)) (Es.nil))))))))))) (E.cmp (COp.eq) (E.call 21 (Es.cons (E.sl 0) (Es.nil))) (E.ofL (L.disp (Es.cons (E.c (D.str [109, 97, 114, 107])) (Es.cons (E.c (D.str [109, 97, 114, 107])) (Es.nil)))))))) (Ss.nil)))
def g9 : Fn := ⟨2, 1, b9⟩
/-- _law_long -/
def b10 : Ss := Ss.cons (S.ex (E.meth [119, 111, 114, 107] [([76, 105, 110, 101], 44), ([83, 104, 111, 112], 22)] (E.sl 1) (Es.nil))) (Ss.cons (S.ex (E.meth [115, 97, 121] [([76, 105, 110, 101], 43), ([83, 104, 111, 112], 23)] (E.sl 1) (Es.nil))) (Ss.cons (S.ex (E.meth [100, 111, 110, 101] [([83, 104, 111, 112], 24)] (E.sl 1) (Es.nil))) (Ss.cons (S.ex (E.meth [104, 101, 97, 114] [([76, 105, 110, 101], 45), ([83, 104, 111, 112], 25)] (E.sl 1) (Es.cons (E.c (D.str [98])) (Es.cons (E.c (D.str [104, 97, 118, 101, 10])) (Es.nil))))) (Ss.cons (S.asg (T.sl 2) (E.bin (BOp.add) (E.c (D.int 1)) (E.call 12 (Es.cons (E.sl 0) (Es.cons (E.c (D.int 900)) (Es.nil)))))) (Ss.cons (S.ex (E.meth [104, 101, 97, 114] [([76, 105, 110, 101], 45), ([83, 104, 111, 112], 25)] (E.sl 1) (Es.cons (E.c (D.str [98])) (Es.cons (E.bin (BOp.mul) (E.c (D.str [120])) (E.sl 2)) (Es.nil))))) (Ss.cons (S.ex (E.meth [104, 101, 97, 114] [([76, 105, 110, 101], 45), ([83, 104, 111, 112], 25)] (E.sl 1) (Es.cons (E.c (D.str [98])) (Es.cons (E.bin (BOp.mul) (E.c (D.str [120])) (E.bin (BOp.sub) (E.c (D.int 60000)) (E.sl 2))) (Es.nil))))) (Ss.cons (S.ex (E.meth [119, 111, 114, 107] [([76, 105, 110, 101], 44), ([83, 104, 111, 112], 22)] (E.sl 1) (Es.nil))) (Ss.cons (S.asg (T.sl 3) (E.dget2 (E.dictP (E.meth [115, 97, 121] [([76, 105, 110, 101], 43), ([83, 104, 111, 112], 23)] (E.sl 1) (Es.nil))) (E.c (D.str [98])) (E.c (D.str [])))) (Ss.cons (S.ite (E.or_ (E.cmp (COp.in_) (E.c (D.str [98, 121, 101])) (E.sl 3)) (E.cmp (COp.ne) (E.meth [100, 111, 110, 101] [([83, 104, 111, 112], 24)] (E.sl 1) (Es.nil)) (E.tup (Es.nil)))) (Ss.cons (S.ret (E.c (D.bl false))) (Ss.nil)) (Ss.nil)) (Ss.cons (S.ex (E.meth [104, 101, 97, 114] [([76, 105, 110, 101], 45), ([83, 104, 111, 112], 25)] (E.sl 1) (Es.cons (E.c (D.str [98])) (Es.cons (E.c (D.str [120])) (Es.nil))))) (Ss.cons (S.ex (E.meth [119, 111, 114, 107] [([76, 105, 110, 101], 44), ([83, 104, 111, 112], 22)] (E.sl 1) (Es.nil))) (Ss.cons (S.ret (E.and_ (E.cmp (COp.eq) (E.dget2 (E.dictP (E.meth [115, 97, 121] [([76, 105, 110, 101], 43), ([83, 104, 111, 112], 23)] (E.sl 1) (Es.nil))) (E.c (D.str [98])) (E.c (D.str []))) (E.c (D.str [98, 121, 101, 10]))) (E.cmp (COp.eq) (E.meth [100, 111, 110, 101] [([83, 104, 111, 112], 24)] (E.sl 1) (Es.nil)) (E.tup (Es.nil))))) (Ss.nil)))))))))))))
def g10 : Fn := ⟨4, 2, b10⟩
/-- _law_cell -/
def b11 : Ss := Ss.cons (S.ite (E.cmp (COp.lt) (E.sl 1) (E.bi (Bi.len) (E.sl 0))) (Ss.cons (S.ret (E.ix (E.sl 0) (E.sl 1))) (Ss.nil)) (Ss.nil)) (Ss.cons (S.ret (E.c (D.int 0))) (Ss.nil))
def g11 : Fn := ⟨2, 2, b11⟩
/-- _law_draw -/
def b12 : Ss := Ss.cons (S.asg (T.sl 2) (E.ix (E.sl 0) (E.c (D.int 1)))) (Ss.cons (S.asg (T.sub (E.sl 0) (E.c (D.int 1))) (E.bin (BOp.add) (E.sl 2) (E.c (D.int 1)))) (Ss.cons (S.ite (E.cmp (COp.lt) (E.sl 2) (E.bi (Bi.len) (E.ix (E.sl 0) (E.c (D.int 0))))) (Ss.cons (S.ret (E.bin (BOp.mod) (E.bi (Bi.int) (E.ix (E.ix (E.sl 0) (E.c (D.int 0))) (E.sl 2))) (E.sl 1))) (Ss.nil)) (Ss.nil)) (Ss.cons (S.ret (E.bin (BOp.mod) (E.bi (Bi.int) (E.bin (BOp.mul) (E.sl 2) (E.c (D.int 7)))) (E.sl 1))) (Ss.nil))))
def g12 : Fn := ⟨3, 2, b12⟩
/-- show_plain -/
def b13 : Ss := Ss.cons (S.ite (E.is_ true (E.sl 0) (Si.non)) (Ss.cons (S.ret (E.c (D.str [78]))) (Ss.nil)) (Ss.nil)) (Ss.cons (S.ite (E.is_ true (E.sl 0) (Si.tr)) (Ss.cons (S.ret (E.c (D.str [84]))) (Ss.nil)) (Ss.nil)) (Ss.cons (S.ite (E.is_ true (E.sl 0) (Si.fl)) (Ss.cons (S.ret (E.c (D.str [70]))) (Ss.nil)) (Ss.nil)) (Ss.cons (S.ite (E.isi (E.sl 0) (Ty.int)) (Ss.cons (S.ret (E.bi (Bi.str) (E.sl 0))) (Ss.nil)) (Ss.nil)) (Ss.cons (S.ite (E.isi (E.sl 0) (Ty.str)) (Ss.cons (S.ret (E.call 26 (Es.cons (E.sl 0) (Es.nil)))) (Ss.nil)) (Ss.nil)) (Ss.cons (S.ret (E.bin (BOp.add) (E.bin (BOp.add) (E.c (D.str [40])) (E.mtL (Ml.join) (E.c (D.str [32])) (L.comp (E.call 13 (Es.cons (E.sl 1) (Es.nil))) [1] (T.sl 1) (It.e (E.sl 0)) (Oe.none)))) (E.c (D.str [41])))) (Ss.nil))))))
def g13 : Fn := ⟨2, 1, b13⟩
/-- sum_behind -/
def b14 : Ss := Ss.cons (S.asg (T.sl 3) (E.ordL (E.revS (E.sl 2)))) (Ss.cons (S.ret (E.bin (BOp.mod) (E.bin (BOp.add) (E.bin (BOp.add) (E.sl 1) (E.sl 0)) (E.accS (E.sl 3))) (E.c (D.int 99991)))) (Ss.nil))
def g14 : Fn := ⟨4, 3, b14⟩
/-- Shop.__init__ -/
def b15 : Ss := Ss.cons (S.asg (T.sl 3) (E.ix (E.sl 1) (E.c (D.int 0)))) (Ss.cons (S.ite (E.cmp (COp.eq) (E.ix (E.sl 3) (E.c (D.int 0))) (E.c (D.str [115, 104, 111, 114, 116]))) (Ss.cons (S.asg (T.tup (Ts.cons (T.sl 4) (Ts.cons (T.sl 5) (Ts.cons (T.sl 6) (Ts.cons (T.sl 7) (Ts.cons (T.sl 8) (Ts.cons (T.sl 9) (Ts.nil)))))))) (E.ix (E.sl 3) (E.c (D.int 1)))) (Ss.nil)) (Ss.cons (S.asg (T.tup (Ts.cons (T.sl 4) (Ts.cons (T.sl 5) (Ts.cons (T.sl 6) (Ts.nil))))) (E.sli (E.sl 3) (Oe.some (E.c (D.int 1))) (Oe.none))) (Ss.cons (S.asg (T.tup (Ts.cons (T.sl 7) (Ts.cons (T.sl 8) (Ts.cons (T.sl 9) (Ts.nil))))) (E.tup (Es.cons (E.tup (Es.nil)) (Es.cons (E.tup (Es.nil)) (Es.cons (E.tup (Es.nil)) (Es.nil)))))) (Ss.nil)))) (Ss.cons (S.sfld [[83, 104, 111, 112], [82, 101, 103, 105, 115, 116, 101, 114], [76, 105, 110, 101]] (E.sl 0) [95, 110, 97, 109, 101] (E.sl 4)) (Ss.cons (S.sfld [[83, 104, 111, 112], [82, 101, 103, 105, 115, 116, 101, 114], [76, 105, 110, 101]] (E.sl 0) [95, 111, 116, 104, 101, 114, 115] (E.sl 5)) (Ss.cons (S.sfld [[83, 104, 111, 112], [82, 101, 103, 105, 115, 116, 101, 114], [76, 105, 110, 101]] (E.sl 0) [95, 103, 114, 97, 112, 104] (E.sl 6)) (Ss.cons (S.sfld [[83, 104, 111, 112], [82, 101, 103, 105, 115, 116, 101, 114], [76, 105, 110, 101]] (E.sl 0) [95, 114, 101, 103, 105, 115, 116, 101, 114] (E.mk [82, 101, 103, 105, 115, 116, 101, 114] 27 (Es.cons (E.sl 6) (Es.nil)))) (Ss.cons (S.sfld [[83, 104, 111, 112], [82, 101, 103, 105, 115, 116, 101, 114], [76, 105, 110, 101]] (E.sl 0) [95, 103, 97, 118, 101] (E.dcomp (It.e (E.sl 8)))) (Ss.cons (S.sfld [[83, 104, 111, 112], [82, 101, 103, 105, 115, 116, 101, 114], [76, 105, 110, 101]] (E.sl 0) [95, 116, 111, 108, 100] (E.listOf (E.sl 9))) (Ss.cons (S.fr (T.sl 12) (It.e (E.sl 7)) (Ss.cons (S.never) (Ss.nil))) (Ss.cons (S.fr (T.sl 13) (It.e (E.sli (E.sl 1) (Oe.some (E.c (D.int 1))) (Oe.none))) (Ss.cons (S.never) (Ss.nil))) (Ss.cons (S.sfld [[83, 104, 111, 112], [82, 101, 103, 105, 115, 116, 101, 114], [76, 105, 110, 101]] (E.sl 0) [95, 114, 111, 119, 115] (E.bi (Bi.len) (E.sl 1))) (Ss.cons (S.sfld [[83, 104, 111, 112], [82, 101, 103, 105, 115, 116, 101, 114], [76, 105, 110, 101]] (E.sl 0) [95, 115, 117, 109] (E.sl 2)) (Ss.cons (S.sfld [[83, 104, 111, 112], [82, 101, 103, 105, 115, 116, 101, 114], [76, 105, 110, 101]] (E.sl 0) [95, 108, 105, 110, 101, 115] (E.dict [] (Es.nil))) (Ss.cons (S.sfld [[83, 104, 111, 112], [82, 101, 103, 105, 115, 116, 101, 114], [76, 105, 110, 101]] (E.sl 0) [95, 97, 115, 107, 101, 100] (E.ofL (L.disp (Es.nil)))) (Ss.cons (S.sfld [[83, 104, 111, 112], [82, 101, 103, 105, 115, 116, 101, 114], [76, 105, 110, 101]] (E.sl 0) [95, 115, 97, 105, 100] (E.tup (Es.nil))) (Ss.cons (S.sfld [[83, 104, 111, 112], [82, 101, 103, 105, 115, 116, 101, 114], [76, 105, 110, 101]] (E.sl 0) [95, 100, 111, 110, 101] (E.tup (Es.nil))) (Ss.nil))))))))))))))))
def g15 : Fn := ⟨14, 3, b15⟩
/-- read_journal -/
def b16 : Ss := Ss.cons (S.asg (T.sl 1) (E.ofL (L.disp (Es.nil)))) (Ss.cons (S.asg (T.sl 2) (E.c (D.int 0))) (Ss.cons (S.asg (T.sl 3) (E.c (D.int 0))) (Ss.cons (S.fr (T.tup (Ts.cons (T.sl 4) (Ts.cons (T.sl 5) (Ts.nil)))) (It.enum (E.sli (E.mt (Mt.split) (E.sl 0) (Es.cons (E.c (D.str [10])) (Es.nil))) (Oe.none) (Oe.some (E.neg (E.c (D.int 1)))))) (Ss.cons (S.asg (T.tup (Ts.cons (T.sl 7) (Ts.cons (T.sl 8) (Ts.cons (T.sl 9) (Ts.nil))))) (E.mt (Mt.part) (E.sl 5) (Es.cons (E.c (D.str [32])) (Es.nil)))) (Ss.cons (S.asg (T.tup (Ts.cons (T.sl 10) (Ts.cons (T.sl 11) (Ts.cons (T.sl 12) (Ts.nil))))) (E.mt (Mt.part) (E.sl 9) (Es.cons (E.c (D.str [32])) (Es.nil)))) (Ss.cons (S.ite (E.or_ (E.cmp (COp.ne) (E.sl 7) (E.bi (Bi.str) (E.sl 4))) (E.cmp (COp.eq) (E.sl 11) (E.c (D.str [])))) (Ss.cons (S.brk) (Ss.nil)) (Ss.nil)) (Ss.cons (S.asg (T.sl 3) (E.call 14 (Es.cons (E.sl 4) (Es.cons (E.sl 3) (Es.cons (E.sl 12) (Es.nil)))))) (Ss.cons (S.asg (T.sl 6) (E.call 28 (Es.cons (E.sl 12) (Es.cons (E.sl 4) (Es.nil))))) (Ss.cons (S.ite (E.or_ (E.cmp (COp.ne) (E.sl 10) (E.bi (Bi.str) (E.sl 3))) (E.is_ true (E.sl 6) (Si.non))) (Ss.cons (S.brk) (Ss.nil)) (Ss.nil)) (Ss.cons (S.ex (E.mt (Mt.append) (E.sl 1) (Es.cons (E.ix (E.sl 6) (E.c (D.int 0))) (Es.nil)))) (Ss.cons (S.aug 2 (BOp.add) (E.bin (BOp.add) (E.bi (Bi.len) (E.sl 5)) (E.c (D.int 1)))) (Ss.nil)))))))))) (Ss.cons (S.ret (E.tup (Es.cons (E.bi (Bi.tuple) (E.sl 1)) (Es.cons (E.sl 2) (Es.nil))))) (Ss.nil)))))
def g16 : Fn := ⟨13, 1, b16⟩
/-- is_name_wnames -/
def b17 : Ss := Ss.cons (S.ite (E.or_ (E.not_ (E.isi (E.sl 0) (Ty.str))) (E.or_ (E.not_ (E.chain (COp.le) (COp.le) (E.c (D.int 1)) (E.bi (Bi.len) (E.sl 0)) (E.c (D.int 12)))) (E.cmp (COp.nin) (E.ix (E.sl 0) (E.c (D.int 0))) (E.c (D.str [97, 98, 99, 100, 101, 102, 103, 104, 105, 106, 107, 108, 109, 110, 111, 112, 113, 114, 115, 116, 117, 118, 119, 120, 121, 122]))))) (Ss.cons (S.ret (E.c (D.bl false))) (Ss.nil)) (Ss.nil)) (Ss.cons (S.ret (E.biL (Bl.all) (L.comp (E.cmp (COp.in_) (E.sl 1) (E.c (D.str [97, 98, 99, 100, 101, 102, 103, 104, 105, 106, 107, 108, 109, 110, 111, 112, 113, 114, 115, 116, 117, 118, 119, 120, 121, 122, 48, 49, 50, 51, 52, 53, 54, 55, 56, 57]))) [1] (T.sl 1) (It.e (E.sl 0)) (Oe.none)))) (Ss.nil))
def g17 : Fn := ⟨2, 1, b17⟩
/-- are_others -/
def b18 : Ss := Ss.cons (S.ite (E.or_ (E.not_ (E.isi (E.sl 0) (Ty.tuple))) (E.or_ (E.cmp (COp.gt) (E.bi (Bi.len) (E.sl 0)) (E.c (D.int 4))) (E.not_ (E.biL (Bl.all) (L.comp (E.call 17 (Es.cons (E.sl 2) (Es.nil))) [2] (T.sl 2) (It.e (E.sl 0)) (Oe.none)))))) (Ss.cons (S.ret (E.c (D.bl false))) (Ss.nil)) (Ss.nil)) (Ss.cons (S.ret (E.and_ (E.call 29 (Es.cons (E.sl 0) (Es.nil))) (E.cmp (COp.nin) (E.sl 1) (E.sl 0)))) (Ss.nil))
def g18 : Fn := ⟨3, 2, b18⟩
/-- is_graph -/
def b19 : Ss := Ss.cons (S.ite (E.or_ (E.not_ (E.call 30 (Es.cons (E.sl 0) (Es.cons (E.c (D.str [103, 114, 97, 112, 104])) (Es.cons (E.c (D.int 3)) (Es.nil)))))) (E.or_ (E.not_ (E.isi (E.ix (E.sl 0) (E.c (D.int 1))) (Ty.tuple))) (E.not_ (E.isi (E.ix (E.sl 0) (E.c (D.int 2))) (Ty.tuple))))) (Ss.cons (S.ret (E.c (D.bl false))) (Ss.nil)) (Ss.nil)) (Ss.cons (S.asg (T.tup (Ts.cons (T.sl 1) (Ts.cons (T.sl 2) (Ts.nil)))) (E.sli (E.sl 0) (Oe.some (E.c (D.int 1))) (Oe.none))) (Ss.cons (S.ite (E.or_ (E.cmp (COp.gt) (E.bi (Bi.len) (E.sl 1)) (E.c (D.int 12))) (E.or_ (E.cmp (COp.gt) (E.bi (Bi.len) (E.sl 2)) (E.c (D.int 30))) (E.not_ (E.biL (Bl.all) (L.comp (E.call 31 (Es.cons (E.sl 3) (Es.nil))) [3] (T.sl 3) (It.e (E.sl 1)) (Oe.none)))))) (Ss.cons (S.ret (E.c (D.bl false))) (Ss.nil)) (Ss.nil)) (Ss.cons (S.ite (E.or_ (E.not_ (E.call 32 (Es.cons (E.sl 1) (Es.nil)))) (E.not_ (E.biL (Bl.all) (L.comp (E.and_ (E.call 33 (Es.cons (E.sl 4) (Es.cons (E.c (D.int 3)) (Es.nil)))) (E.biL (Bl.all) (L.comp (E.call 31 (Es.cons (E.sl 3) (Es.nil))) [3] (T.sl 3) (It.e (E.sl 4)) (Oe.none)))) [4] (T.sl 4) (It.e (E.sl 2)) (Oe.none))))) (Ss.cons (S.ret (E.c (D.bl false))) (Ss.nil)) (Ss.nil)) (Ss.cons (S.ite (E.not_ (E.call 32 (Es.cons (E.ofL (L.comp (E.ix (E.sl 4) (E.c (D.int 0))) [4] (T.sl 4) (It.e (E.sl 2)) (Oe.none))) (Es.nil)))) (Ss.cons (S.ret (E.c (D.bl false))) (Ss.nil)) (Ss.nil)) (Ss.cons (S.ret (E.biL (Bl.all) (L.comp (E.and_ (E.cmp (COp.le) (E.sl 6) (E.sl 7)) (E.and_ (E.cmp (COp.in_) (E.sl 6) (E.sl 1)) (E.cmp (COp.in_) (E.sl 7) (E.sl 1)))) [5, 6, 7] (T.tup (Ts.cons (T.sl 5) (Ts.cons (T.sl 6) (Ts.cons (T.sl 7) (Ts.nil))))) (It.e (E.sl 2)) (Oe.none)))) (Ss.nil))))))
def g19 : Fn := ⟨8, 1, b19⟩
/-- _law_attached -/
def b20 : Ss := Ss.cons (S.tryX (Ss.cons (S.ex (E.meth [97, 116, 116, 97, 99, 104] [([83, 104, 111, 112], 34)] (E.sl 0) (Es.cons (E.sl 1) (Es.cons (E.sl 2) (Es.nil))))) (Ss.nil)) [1] 3 (SU.ret (SE.ite (ST.and_ (ST.isi [0, 1, 2]) (ST.not_ (ST.isi []))) (SE.fld [114, 101, 97, 115, 111, 110]) (SE.c (D.str [63]))))) (Ss.cons (S.ret (E.c (D.non))) (Ss.nil))
def g20 : Fn := ⟨4, 3, b20⟩
/-- _law_gone -/
def b21 : Ss := Ss.cons (S.asg (T.sl 1) (E.ofL (L.disp (Es.nil)))) (Ss.cons (S.tryA (Ss.cons (S.ex (E.meth [104, 101, 97, 114] [([76, 105, 110, 101], 45), ([83, 104, 111, 112], 25)] (E.sl 0) (Es.cons (E.c (D.str [122])) (Es.cons (E.c (D.str [104, 97, 118, 101, 10])) (Es.nil))))) (Ss.nil)) [1] 2 1 [114, 101, 97, 115, 111, 110]) (Ss.cons (S.tryA (Ss.cons (S.ex (E.meth [100, 101, 116, 97, 99, 104] [([83, 104, 111, 112], 35)] (E.sl 0) (Es.cons (E.c (D.str [122])) (Es.nil)))) (Ss.nil)) [1] 2 1 [114, 101, 97, 115, 111, 110]) (Ss.cons (S.ret (E.sl 1)) (Ss.nil))))
def g21 : Fn := ⟨3, 1, b21⟩
/-- Shop.work -/
def b22 : Ss := Ss.cons (S.asg (T.sl 1) (E.ofL (L.disp (Es.nil)))) (Ss.cons (S.lock 0 (some [95, 108, 105, 110, 101, 115]) (S.fr (T.sl 2) (It.vals (E.fld [[83, 104, 111, 112], [82, 101, 103, 105, 115, 116, 101, 114], [76, 105, 110, 101]] (E.sl 0) [95, 108, 105, 110, 101, 115])) (Ss.cons (S.fr (T.sl 3) (It.e (E.meth [119, 111, 114, 107] [([76, 105, 110, 101], 44), ([83, 104, 111, 112], 22)] (E.sl 2) (Es.cons (E.fld [[83, 104, 111, 112], [82, 101, 103, 105, 115, 116, 101, 114], [76, 105, 110, 101]] (E.sl 0) [95, 114, 101, 103, 105, 115, 116, 101, 114]) (Es.nil)))) (Ss.cons (S.never) (Ss.nil))) (Ss.nil)))) (Ss.cons (S.asg (T.sl 4) (E.ofL (L.disp (Es.nil)))) (Ss.cons (S.fr (T.tup (Ts.cons (T.sl 5) (Ts.cons (T.sl 6) (Ts.nil)))) (It.e (E.fld [[83, 104, 111, 112], [82, 101, 103, 105, 115, 116, 101, 114], [76, 105, 110, 101]] (E.sl 0) [95, 97, 115, 107, 101, 100])) (Ss.cons (S.never) (Ss.cons (S.ex (E.mt (Mt.append) (E.sl 4) (Es.cons (E.sl 7) (Es.nil)))) (Ss.cons (S.ite (E.is_ false (E.sl 8) (Si.non)) (Ss.cons (S.never) (Ss.nil)) (Ss.nil)) (Ss.nil))))) (Ss.cons (S.sfld [[83, 104, 111, 112], [82, 101, 103, 105, 115, 116, 101, 114], [76, 105, 110, 101]] (E.sl 0) [95, 97, 115, 107, 101, 100] (E.ofL (L.disp (Es.nil)))) (Ss.cons (S.sfld [[83, 104, 111, 112], [82, 101, 103, 105, 115, 116, 101, 114], [76, 105, 110, 101]] (E.sl 0) [95, 100, 111, 110, 101] (E.bi (Bi.tuple) (E.sl 4))) (Ss.cons (S.asg (T.sl 9) (E.meth [110, 111, 116, 105, 99, 101, 115] [([82, 101, 103, 105, 115, 116, 101, 114], 36)] (E.fld [[83, 104, 111, 112], [82, 101, 103, 105, 115, 116, 101, 114], [76, 105, 110, 101]] (E.sl 0) [95, 114, 101, 103, 105, 115, 116, 101, 114]) (Es.nil))) (Ss.cons (S.lock 0 (some [95, 108, 105, 110, 101, 115]) (S.asg (T.sl 10) (E.ofL (L.comp (E.tup (Es.cons (E.sl 11) (Es.cons (E.meth [115, 97, 121] [([76, 105, 110, 101], 43), ([83, 104, 111, 112], 23)] (E.sl 2) (Es.cons (E.sl 9) (Es.nil))) (Es.nil)))) [11, 2] (T.tup (Ts.cons (T.sl 11) (Ts.cons (T.sl 2) (Ts.nil)))) (It.ditems (E.fld [[83, 104, 111, 112], [82, 101, 103, 105, 115, 116, 101, 114], [76, 105, 110, 101]] (E.sl 0) [95, 108, 105, 110, 101, 115])) (Oe.none))))) (Ss.cons (S.sfld [[83, 104, 111, 112], [82, 101, 103, 105, 115, 116, 101, 114], [76, 105, 110, 101]] (E.sl 0) [95, 115, 97, 105, 100] (E.btup (L.comp (E.tup (Es.cons (E.sl 11) (Es.cons (E.sl 12) (Es.nil)))) [11, 12] (T.tup (Ts.cons (T.sl 11) (Ts.cons (T.sl 12) (Ts.nil)))) (It.e (E.sl 10)) (Oe.some (E.cmp (COp.ne) (E.sl 12) (E.c (D.str []))))))) (Ss.cons (S.ret (E.mt (Mt.join) (E.c (D.str [])) (Es.cons (E.sl 1) (Es.nil)))) (Ss.nil))))))))))
def g22 : Fn := ⟨13, 1, b22⟩
/-- Shop.say -/
def b23 : Ss := Ss.cons (S.ret (E.fld [[83, 104, 111, 112], [82, 101, 103, 105, 115, 116, 101, 114], [76, 105, 110, 101]] (E.sl 0) [95, 115, 97, 105, 100])) (Ss.nil)
def g23 : Fn := ⟨1, 1, b23⟩
/-- Shop.done -/
def b24 : Ss := Ss.cons (S.ret (E.fld [[83, 104, 111, 112], [82, 101, 103, 105, 115, 116, 101, 114], [76, 105, 110, 101]] (E.sl 0) [95, 100, 111, 110, 101])) (Ss.nil)
def g24 : Fn := ⟨1, 1, b24⟩
/-- Shop.hear -/
def b25 : Ss := Ss.cons (S.ex (E.meth [104, 101, 97, 114] [([76, 105, 110, 101], 45), ([83, 104, 111, 112], 25)] (E.meth [95, 108, 105, 110, 101] [([83, 104, 111, 112], 37)] (E.sl 0) (Es.cons (E.sl 1) (Es.nil))) (Es.cons (E.sl 2) (Es.nil)))) (Ss.nil)
def g25 : Fn := ⟨3, 3, b25⟩
/-- quoted -/
def b26 : Ss := Ss.cons (S.ret (E.bin (BOp.add) (E.repl [34] (E.sl 0) [(92, [92, 92]), (34, [92, 34]), (10, [92, 110])]) (E.c (D.str [34])))) (Ss.nil)
def g26 : Fn := ⟨1, 1, b26⟩
/-- Register.__init__ -/
def b27 : Ss := Ss.cons (S.sfld [[83, 104, 111, 112], [82, 101, 103, 105, 115, 116, 101, 114], [76, 105, 110, 101]] (E.sl 0) [95, 98, 101, 103, 105, 110] (E.sl 1)) (Ss.cons (S.sfld [[83, 104, 111, 112], [82, 101, 103, 105, 115, 116, 101, 114], [76, 105, 110, 101]] (E.sl 0) [95, 107, 101, 112, 116] (E.dict [] (Es.nil))) (Ss.nil))
def g27 : Fn := ⟨2, 2, b27⟩
/-- entry_of -/
def b28 : Ss := Ss.cons (S.tryX (Ss.cons (S.asg (T.sl 2) (E.call 38 (Es.cons (E.sl 0) (Es.nil)))) (Ss.nil)) [2] 0 (SU.ret (SE.c (D.non)))) (Ss.cons (S.ite (E.or_ (E.not_ (E.isi (E.sl 2) (Ty.tuple))) (E.or_ (E.cmp (COp.lt) (E.bi (Bi.len) (E.sl 2)) (E.c (D.int 2))) (E.not_ (E.isi (E.ix (E.sl 2) (E.c (D.int 0))) (Ty.str))))) (Ss.cons (S.ret (E.c (D.non))) (Ss.nil)) (Ss.nil)) (Ss.cons (S.asg (T.sl 3) (E.ite (E.cmp (COp.eq) (E.sl 1) (E.c (D.int 0))) (E.call 39 (Es.cons (E.sl 2) (Es.nil))) (E.call 40 (Es.cons (E.sl 2) (Es.nil))))) (Ss.cons (S.ret (E.ite (E.sl 3) (E.tup (Es.cons (E.sl 2) (Es.nil))) (E.c (D.non)))) (Ss.nil))))
def g28 : Fn := ⟨4, 2, b28⟩
/-- ascends -/
def b29 : Ss := Ss.cons (S.ret (E.biL (Bl.all) (L.comp (E.cmp (COp.lt) (E.sl 1) (E.sl 2)) [1, 2] (T.tup (Ts.cons (T.sl 1) (Ts.cons (T.sl 2) (Ts.nil)))) (It.zip (E.sl 0) (E.sli (E.sl 0) (Oe.some (E.c (D.int 1))) (Oe.none))) (Oe.none)))) (Ss.nil)
def g29 : Fn := ⟨3, 1, b29⟩
/-- is_paper -/
def b30 : Ss := Ss.cons (S.ret (E.and_ (E.isi (E.sl 0) (Ty.tuple)) (E.and_ (E.cmp (COp.eq) (E.bi (Bi.len) (E.sl 0)) (E.sl 2)) (E.and_ (E.isi (E.ix (E.sl 0) (E.c (D.int 0))) (Ty.str)) (E.cmp (COp.eq) (E.ix (E.sl 0) (E.c (D.int 0))) (E.sl 1)))))) (Ss.nil)
def g30 : Fn := ⟨3, 3, b30⟩
/-- is_name_vforms -/
def b31 : Ss := Ss.cons (S.ite (E.or_ (E.not_ (E.isi (E.sl 0) (Ty.str))) (E.or_ (E.not_ (E.chain (COp.le) (COp.le) (E.c (D.int 1)) (E.bi (Bi.len) (E.sl 0)) (E.c (D.int 12)))) (E.not_ (E.tm (Tm.ascii) (E.sl 0))))) (Ss.cons (S.ret (E.c (D.bl false))) (Ss.nil)) (Ss.nil)) (Ss.cons (S.ite (E.or_ (E.not_ (E.tm (Tm.alnum) (E.sl 0))) (E.cmp (COp.ne) (E.sl 0) (E.tm (Tm.lower) (E.sl 0)))) (Ss.cons (S.ret (E.c (D.bl false))) (Ss.nil)) (Ss.nil)) (Ss.cons (S.ret (E.not_ (E.tm (Tm.digit) (E.ix (E.sl 0) (E.c (D.int 0)))))) (Ss.nil)))
def g31 : Fn := ⟨1, 1, b31⟩
/-- is_rising -/
def b32 : Ss := Ss.cons (S.ret (E.biL (Bl.all) (L.comp (E.cmp (COp.lt) (E.sl 1) (E.sl 2)) [1, 2] (T.tup (Ts.cons (T.sl 1) (Ts.cons (T.sl 2) (Ts.nil)))) (It.zip (E.sl 0) (E.sli (E.sl 0) (Oe.some (E.c (D.int 1))) (Oe.none))) (Oe.none)))) (Ss.nil)
def g32 : Fn := ⟨3, 1, b32⟩
/-- is_of -/
def b33 : Ss := Ss.cons (S.ret (E.and_ (E.isi (E.sl 0) (Ty.tuple)) (E.cmp (COp.eq) (E.bi (Bi.len) (E.sl 0)) (E.sl 1)))) (Ss.nil)
def g33 : Fn := ⟨2, 2, b33⟩
/-- Shop.attach -/
def b34 : Ss := Ss.cons (S.ite (E.or_ (E.not_ (E.isi (E.sl 1) (Ty.str))) (E.or_ (E.not_ (E.chain (COp.le) (COp.le) (E.c (D.int 1)) (E.bi (Bi.len) (E.sl 1)) (E.c (D.int 20)))) (E.or_ (E.cmp (COp.in_) (E.c (D.str [32])) (E.sl 1)) (E.cmp (COp.in_) (E.sl 1) (E.fld [[83, 104, 111, 112], [82, 101, 103, 105, 115, 116, 101, 114], [76, 105, 110, 101]] (E.sl 0) [95, 108, 105, 110, 101, 115]))))) (Ss.cons (S.rais 1 (Xk.reason) (Es.cons (E.c (D.str [109, 97, 114, 107])) (Es.nil))) (Ss.nil)) (Ss.nil)) (Ss.cons (S.ite (E.or_ (E.not_ (E.isi (E.sl 2) (Ty.str))) (E.cmp (COp.nin) (E.sl 2) (E.fld [[83, 104, 111, 112], [82, 101, 103, 105, 115, 116, 101, 114], [76, 105, 110, 101]] (E.sl 0) [95, 111, 116, 104, 101, 114, 115]))) (Ss.cons (S.rais 1 (Xk.reason) (Es.cons (E.c (D.str [119, 104, 111])) (Es.nil))) (Ss.nil)) (Ss.nil)) (Ss.cons (S.asg (T.sub (E.fld [[83, 104, 111, 112], [82, 101, 103, 105, 115, 116, 101, 114], [76, 105, 110, 101]] (E.sl 0) [95, 108, 105, 110, 101, 115]) (E.sl 1)) (E.mk [76, 105, 110, 101] 41 (Es.nil))) (Ss.nil)))
def g34 : Fn := ⟨3, 3, b34⟩
/-- Shop.detach -/
def b35 : Ss := Ss.cons (S.ex (E.meth [95, 108, 105, 110, 101] [([83, 104, 111, 112], 37)] (E.sl 0) (Es.cons (E.sl 1) (Es.nil)))) (Ss.cons (S.never) (Ss.nil))
def g35 : Fn := ⟨2, 2, b35⟩
/-- Register.notices -/
def b36 : Ss := Ss.cons (S.ret (E.biL (Bl.tuple) (L.comp (E.ix (E.fld [[83, 104, 111, 112], [82, 101, 103, 105, 115, 116, 101, 114], [76, 105, 110, 101]] (E.sl 0) [95, 107, 101, 112, 116]) (E.sl 1)) [1] (T.sl 1) (It.e (E.sortD (E.fld [[83, 104, 111, 112], [82, 101, 103, 105, 115, 116, 101, 114], [76, 105, 110, 101]] (E.sl 0) [95, 107, 101, 112, 116]))) (Oe.none)))) (Ss.nil)
def g36 : Fn := ⟨2, 1, b36⟩
/-- Shop._line -/
def b37 : Ss := Ss.cons (S.ite (E.or_ (E.not_ (E.isi (E.sl 1) (Ty.str))) (E.cmp (COp.nin) (E.sl 1) (E.fld [[83, 104, 111, 112], [82, 101, 103, 105, 115, 116, 101, 114], [76, 105, 110, 101]] (E.sl 0) [95, 108, 105, 110, 101, 115]))) (Ss.cons (S.rais 1 (Xk.reason) (Es.cons (E.c (D.str [109, 97, 114, 107])) (Es.nil))) (Ss.nil)) (Ss.nil)) (Ss.cons (S.ret (E.ix (E.fld [[83, 104, 111, 112], [82, 101, 103, 105, 115, 116, 101, 114], [76, 105, 110, 101]] (E.sl 0) [95, 108, 105, 110, 101, 115]) (E.sl 1))) (Ss.nil))
def g37 : Fn := ⟨2, 2, b37⟩
/-- read_plain -/
def b38 : Ss := Ss.cons (S.asg (T.tup (Ts.cons (T.sl 1) (Ts.cons (T.sl 2) (Ts.nil)))) (E.call 42 (Es.cons (E.sl 0) (Es.cons (E.c (D.int 0)) (Es.cons (E.c (D.int 0)) (Es.nil)))))) (Ss.cons (S.ite (E.cmp (COp.lt) (E.sl 2) (E.bi (Bi.len) (E.sl 0))) (Ss.cons (S.rais 2 (Xk.place) (Es.cons (E.sl 2) (Es.nil))) (Ss.nil)) (Ss.nil)) (Ss.cons (S.ret (E.sl 1)) (Ss.nil)))
def g38 : Fn := ⟨3, 1, b38⟩
/-- is_first -/
def b39 : Ss := Ss.cons (S.ite (E.cmp (COp.eq) (E.ix (E.sl 0) (E.c (D.int 0))) (E.c (D.str [115, 104, 111, 112]))) (Ss.cons (S.ret (E.and_ (E.cmp (COp.eq) (E.bi (Bi.len) (E.sl 0)) (E.c (D.int 4))) (E.and_ (E.call 17 (Es.cons (E.ix (E.sl 0) (E.c (D.int 1))) (Es.nil))) (E.call 19 (Es.cons (E.ix (E.sl 0) (E.c (D.int 3))) (Es.nil)))))) (Ss.nil)) (Ss.nil)) (Ss.cons (S.ret (E.and_ (E.cmp (COp.eq) (E.ix (E.sl 0) (E.c (D.int 0))) (E.c (D.str [115, 104, 111, 114, 116]))) (E.cmp (COp.eq) (E.bi (Bi.len) (E.sl 0)) (E.c (D.int 2))))) (Ss.nil))
def g39 : Fn := ⟨1, 1, b39⟩
/-- is_later -/
def b40 : Ss := Ss.cons (S.par2 1 2 (Es.cons (E.ix (E.sl 0) (E.c (D.int 0))) (Es.cons (E.bi (Bi.len) (E.sl 0)) (Es.nil)))) (Ss.cons (S.ite (E.or_ (E.cmp (COp.eq) (E.sl 1) (E.c (D.str [112, 117, 98, 108, 105, 115, 104, 101, 100]))) (E.cmp (COp.eq) (E.sl 1) (E.c (D.str [104, 101, 97, 114, 100])))) (Ss.cons (S.never) (Ss.nil)) (Ss.nil)) (Ss.cons (S.ite (E.cmp (COp.eq) (E.sl 1) (E.c (D.str [103, 105, 118, 101, 110]))) (Ss.cons (S.never) (Ss.nil)) (Ss.nil)) (Ss.cons (S.ite (E.or_ (E.cmp (COp.ne) (E.sl 1) (E.c (D.str [116, 111, 108, 100]))) (E.cmp (COp.ne) (E.sl 2) (E.c (D.int 4)))) (Ss.cons (S.ret (E.c (D.bl false))) (Ss.nil)) (Ss.nil)) (Ss.cons (S.never) (Ss.nil)))))
def g40 : Fn := ⟨3, 1, b40⟩
/-- Line.__init__ -/
def b41 : Ss := Ss.cons (S.sfld [[83, 104, 111, 112], [82, 101, 103, 105, 115, 116, 101, 114], [76, 105, 110, 101]] (E.sl 0) [95, 119, 97, 105, 116, 105, 110, 103] (E.c (D.str []))) (Ss.cons (S.sfld [[83, 104, 111, 112], [82, 101, 103, 105, 115, 116, 101, 114], [76, 105, 110, 101]] (E.sl 0) [95, 115, 104, 97, 114, 101, 100] (E.c (D.non))) (Ss.cons (S.sfld [[83, 104, 111, 112], [82, 101, 103, 105, 115, 116, 101, 114], [76, 105, 110, 101]] (E.sl 0) [95, 100, 105, 100, 95, 116, 101, 108, 108] (E.c (D.bl false))) (Ss.cons (S.sfld [[83, 104, 111, 112], [82, 101, 103, 105, 115, 116, 101, 114], [76, 105, 110, 101]] (E.sl 0) [95, 105, 115, 95, 111, 118, 101, 114] (E.c (D.bl false))) (Ss.cons (S.sfld [[83, 104, 111, 112], [82, 101, 103, 105, 115, 116, 101, 114], [76, 105, 110, 101]] (E.sl 0) [95, 111, 119, 101, 115, 95, 98, 121, 101] (E.c (D.bl false))) (Ss.nil)))))
def g41 : Fn := ⟨1, 1, b41⟩
/-- value_at -/
def b42 : Ss := Ss.cons (S.asg (T.sl 3) (E.sli (E.sl 0) (Oe.some (E.sl 1)) (Oe.some (E.bin (BOp.add) (E.sl 1) (E.c (D.int 1)))))) (Ss.cons (S.ite (E.cmp (COp.eq) (E.sl 3) (E.c (D.str [78]))) (Ss.cons (S.ret (E.tup (Es.cons (E.c (D.non)) (Es.cons (E.bin (BOp.add) (E.sl 1) (E.c (D.int 1))) (Es.nil))))) (Ss.nil)) (Ss.nil)) (Ss.cons (S.ite (E.cmp (COp.eq) (E.sl 3) (E.c (D.str [84]))) (Ss.cons (S.ret (E.tup (Es.cons (E.c (D.bl true)) (Es.cons (E.bin (BOp.add) (E.sl 1) (E.c (D.int 1))) (Es.nil))))) (Ss.nil)) (Ss.nil)) (Ss.cons (S.ite (E.cmp (COp.eq) (E.sl 3) (E.c (D.str [70]))) (Ss.cons (S.ret (E.tup (Es.cons (E.c (D.bl false)) (Es.cons (E.bin (BOp.add) (E.sl 1) (E.c (D.int 1))) (Es.nil))))) (Ss.nil)) (Ss.nil)) (Ss.cons (S.ite (E.cmp (COp.eq) (E.sl 3) (E.c (D.str [34]))) (Ss.cons (S.ret (E.call 46 (Es.cons (E.sl 0) (Es.cons (E.bin (BOp.add) (E.sl 1) (E.c (D.int 1))) (Es.nil))))) (Ss.nil)) (Ss.nil)) (Ss.cons (S.ite (E.cmp (COp.eq) (E.sl 3) (E.c (D.str [40]))) (Ss.cons (S.ite (E.cmp (COp.eq) (E.sl 2) (E.c (D.int 40))) (Ss.cons (S.rais 2 (Xk.place) (Es.cons (E.sl 1) (Es.nil))) (Ss.nil)) (Ss.nil)) (Ss.cons (S.ret (E.call 47 (Es.cons (E.sl 0) (Es.cons (E.bin (BOp.add) (E.sl 1) (E.c (D.int 1))) (Es.cons (E.bin (BOp.add) (E.sl 2) (E.c (D.int 1))) (Es.nil)))))) (Ss.nil))) (Ss.nil)) (Ss.cons (S.ret (E.call 48 (Es.cons (E.sl 0) (Es.cons (E.sl 1) (Es.nil))))) (Ss.nil)))))))
def g42 : Fn := ⟨4, 3, b42⟩
/-- Line.say -/
def b43 : Ss := Ss.cons (S.ite (E.fld [[83, 104, 111, 112], [82, 101, 103, 105, 115, 116, 101, 114], [76, 105, 110, 101]] (E.sl 0) [95, 105, 115, 95, 111, 118, 101, 114]) (Ss.cons (S.asg (T.sl 2) (E.fld [[83, 104, 111, 112], [82, 101, 103, 105, 115, 116, 101, 114], [76, 105, 110, 101]] (E.sl 0) [95, 111, 119, 101, 115, 95, 98, 121, 101])) (Ss.cons (S.sfld [[83, 104, 111, 112], [82, 101, 103, 105, 115, 116, 101, 114], [76, 105, 110, 101]] (E.sl 0) [95, 111, 119, 101, 115, 95, 98, 121, 101] (E.c (D.bl false))) (Ss.cons (S.ret (E.ite (E.sl 2) (E.c (D.str [98, 121, 101, 10])) (E.c (D.str [])))) (Ss.nil)))) (Ss.nil)) (Ss.cons (S.asg (T.sl 3) (E.ofL (L.disp (Es.nil)))) (Ss.cons (S.ite (E.not_ (E.fld [[83, 104, 111, 112], [82, 101, 103, 105, 115, 116, 101, 114], [76, 105, 110, 101]] (E.sl 0) [95, 100, 105, 100, 95, 116, 101, 108, 108])) (Ss.cons (S.sfld [[83, 104, 111, 112], [82, 101, 103, 105, 115, 116, 101, 114], [76, 105, 110, 101]] (E.sl 0) [95, 100, 105, 100, 95, 116, 101, 108, 108] (E.c (D.bl true))) (Ss.cons (S.ex (E.mt (Mt.append) (E.sl 3) (Es.cons (E.call 49 (Es.cons (E.ofL (L.comp (E.ix (E.sl 4) (E.c (D.int 1))) [4] (T.sl 4) (It.e (E.sl 1)) (Oe.none))) (Es.nil))) (Es.nil)))) (Ss.nil))) (Ss.nil)) (Ss.cons (S.ite (E.is_ false (E.fld [[83, 104, 111, 112], [82, 101, 103, 105, 115, 116, 101, 114], [76, 105, 110, 101]] (E.sl 0) [95, 115, 104, 97, 114, 101, 100]) (Si.non)) (Ss.cons (S.fr (T.sl 4) (It.e (E.sl 1)) (Ss.cons (S.ite (E.cmp (COp.nin) (E.ix (E.sl 4) (E.c (D.int 1))) (E.fld [[83, 104, 111, 112], [82, 101, 103, 105, 115, 116, 101, 114], [76, 105, 110, 101]] (E.sl 0) [95, 115, 104, 97, 114, 101, 100])) (Ss.cons (S.asg (T.sub (E.fld [[83, 104, 111, 112], [82, 101, 103, 105, 115, 116, 101, 114], [76, 105, 110, 101]] (E.sl 0) [95, 115, 104, 97, 114, 101, 100]) (E.ix (E.sl 4) (E.c (D.int 1)))) (E.c (D.bl true))) (Ss.cons (S.ex (E.mt (Mt.append) (E.sl 3) (Es.cons (E.bin (BOp.add) (E.c (D.str [103, 105, 118, 101, 32])) (E.call 13 (Es.cons (E.sl 4) (Es.nil)))) (Es.nil)))) (Ss.nil))) (Ss.nil)) (Ss.nil))) (Ss.nil)) (Ss.nil)) (Ss.cons (S.ret (E.mtL (Ml.join) (E.c (D.str [])) (L.comp (E.bin (BOp.add) (E.sl 5) (E.c (D.str [10]))) [5] (T.sl 5) (It.e (E.sl 3)) (Oe.none)))) (Ss.nil)))))
def g43 : Fn := ⟨6, 2, b43⟩
/-- Line.work -/
def b44 : Ss := Ss.cons (S.asg (T.sl 2) (E.mt (Mt.split) (E.fld [[83, 104, 111, 112], [82, 101, 103, 105, 115, 116, 101, 114], [76, 105, 110, 101]] (E.sl 0) [95, 119, 97, 105, 116, 105, 110, 103]) (Es.cons (E.c (D.str [10])) (Es.nil)))) (Ss.cons (S.sfld [[83, 104, 111, 112], [82, 101, 103, 105, 115, 116, 101, 114], [76, 105, 110, 101]] (E.sl 0) [95, 119, 97, 105, 116, 105, 110, 103] (E.ix (E.sl 2) (E.neg (E.c (D.int 1))))) (Ss.cons (S.asg (T.sl 3) (E.ofL (L.disp (Es.nil)))) (Ss.cons (S.fr (T.sl 4) (It.e (E.sli (E.sl 2) (Oe.none) (Oe.some (E.neg (E.c (D.int 1)))))) (Ss.cons (S.ite (E.not_ (E.fld [[83, 104, 111, 112], [82, 101, 103, 105, 115, 116, 101, 114], [76, 105, 110, 101]] (E.sl 0) [95, 105, 115, 95, 111, 118, 101, 114])) (Ss.cons (S.asg (T.sl 5) (E.meth [95, 100, 111] [([76, 105, 110, 101], 50)] (E.sl 0) (Es.cons (E.sl 4) (Es.cons (E.sl 1) (Es.nil))))) (Ss.cons (S.ite (E.is_ false (E.sl 5) (Si.non)) (Ss.cons (S.ex (E.mt (Mt.append) (E.sl 3) (Es.cons (E.sl 5) (Es.nil)))) (Ss.nil)) (Ss.nil)) (Ss.nil))) (Ss.nil)) (Ss.nil))) (Ss.cons (S.ite (E.and_ (E.not_ (E.fld [[83, 104, 111, 112], [82, 101, 103, 105, 115, 116, 101, 114], [76, 105, 110, 101]] (E.sl 0) [95, 105, 115, 95, 111, 118, 101, 114])) (E.cmp (COp.gt) (E.bi (Bi.len) (E.fld [[83, 104, 111, 112], [82, 101, 103, 105, 115, 116, 101, 114], [76, 105, 110, 101]] (E.sl 0) [95, 119, 97, 105, 116, 105, 110, 103])) (E.c (D.int 60000)))) (Ss.cons (S.ex (E.meth [95, 98, 114, 101, 97, 107, 95, 111, 102, 102] [([76, 105, 110, 101], 51)] (E.sl 0) (Es.nil))) (Ss.nil)) (Ss.nil)) (Ss.cons (S.ret (E.sl 3)) (Ss.nil))))))
def g44 : Fn := ⟨6, 2, b44⟩
/-- Line.hear -/
def b45 : Ss := Ss.cons (S.ite (E.not_ (E.fld [[83, 104, 111, 112], [82, 101, 103, 105, 115, 116, 101, 114], [76, 105, 110, 101]] (E.sl 0) [95, 105, 115, 95, 111, 118, 101, 114])) (Ss.cons (S.sfld [[83, 104, 111, 112], [82, 101, 103, 105, 115, 116, 101, 114], [76, 105, 110, 101]] (E.sl 0) [95, 119, 97, 105, 116, 105, 110, 103] (E.bin (BOp.add) (E.fld [[83, 104, 111, 112], [82, 101, 103, 105, 115, 116, 101, 114], [76, 105, 110, 101]] (E.sl 0) [95, 119, 97, 105, 116, 105, 110, 103]) (E.sl 1))) (Ss.nil)) (Ss.nil)) (Ss.nil)
def g45 : Fn := ⟨2, 2, b45⟩
/-- text_at -/
def b46 : Ss := Ss.cons (S.asg (T.sl 2) (E.ofL (L.disp (Es.nil)))) (Ss.cons (S.whl (E.c (D.bl true)) (Ss.cons (S.asg (T.sl 3) (E.mt (Mt.find2) (E.sl 0) (Es.cons (E.c (D.str [34])) (Es.cons (E.sl 1) (Es.nil))))) (Ss.cons (S.asg (T.sl 4) (E.ite (E.cmp (COp.ge) (E.sl 3) (E.c (D.int 0))) (E.sl 3) (E.bi (Bi.len) (E.sl 0)))) (Ss.cons (S.asg (T.sl 5) (E.mt (Mt.find3) (E.sl 0) (Es.cons (E.c (D.str [92])) (Es.cons (E.sl 1) (Es.cons (E.sl 4) (Es.nil)))))) (Ss.cons (S.ite (E.cmp (COp.ge) (E.sl 5) (E.c (D.int 0))) (Ss.cons (S.asg (T.sl 4) (E.sl 5)) (Ss.nil)) (Ss.nil)) (Ss.cons (S.asg (T.sl 6) (E.mt (Mt.find3) (E.sl 0) (Es.cons (E.c (D.str [10])) (Es.cons (E.sl 1) (Es.cons (E.sl 4) (Es.nil)))))) (Ss.cons (S.ite (E.cmp (COp.ge) (E.sl 6) (E.c (D.int 0))) (Ss.cons (S.rais 2 (Xk.place) (Es.cons (E.sl 6) (Es.nil))) (Ss.nil)) (Ss.nil)) (Ss.cons (S.ex (E.mt (Mt.append) (E.sl 2) (Es.cons (E.sli (E.sl 0) (Oe.some (E.sl 1)) (Oe.some (E.sl 4))) (Es.nil)))) (Ss.cons (S.ite (E.cmp (COp.eq) (E.sl 4) (E.sl 3)) (Ss.cons (S.ret (E.tup (Es.cons (E.mt (Mt.join) (E.c (D.str [])) (Es.cons (E.sl 2) (Es.nil))) (Es.cons (E.bin (BOp.add) (E.sl 4) (E.c (D.int 1))) (Es.nil))))) (Ss.nil)) (Ss.nil)) (Ss.cons (S.ite (E.cmp (COp.ne) (E.sl 4) (E.sl 5)) (Ss.cons (S.rais 2 (Xk.place) (Es.cons (E.sl 4) (Es.nil))) (Ss.nil)) (Ss.nil)) (Ss.cons (S.asg (T.sl 7) (E.sli (E.sl 0) (Oe.some (E.bin (BOp.add) (E.sl 4) (E.c (D.int 1)))) (Oe.some (E.bin (BOp.add) (E.sl 4) (E.c (D.int 2)))))) (Ss.cons (S.ite (E.or_ (E.cmp (COp.nin) (E.sl 7) (E.tup (Es.cons (E.c (D.str [34])) (Es.cons (E.c (D.str [92])) (Es.cons (E.c (D.str [110])) (Es.nil)))))) (E.cmp (COp.eq) (E.sl 7) (E.c (D.str [])))) (Ss.cons (S.rais 2 (Xk.place) (Es.cons (E.bin (BOp.add) (E.sl 4) (E.c (D.int 1))) (Es.nil))) (Ss.nil)) (Ss.nil)) (Ss.cons (S.ex (E.mt (Mt.append) (E.sl 2) (Es.cons (E.ite (E.cmp (COp.eq) (E.sl 7) (E.c (D.str [110]))) (E.c (D.str [10])) (E.sl 7)) (Es.nil)))) (Ss.cons (S.asg (T.sl 1) (E.bin (BOp.add) (E.sl 4) (E.c (D.int 2)))) (Ss.nil))))))))))))))) (Ss.nil))
def g46 : Fn := ⟨8, 2, b46⟩
/-- tuple_at -/
def b47 : Ss := Ss.cons (S.ite (E.cmp (COp.eq) (E.sli (E.sl 0) (Oe.some (E.sl 1)) (Oe.some (E.bin (BOp.add) (E.sl 1) (E.c (D.int 1))))) (E.c (D.str [41]))) (Ss.cons (S.ret (E.tup (Es.cons (E.tup (Es.nil)) (Es.cons (E.bin (BOp.add) (E.sl 1) (E.c (D.int 1))) (Es.nil))))) (Ss.nil)) (Ss.nil)) (Ss.cons (S.asg (T.sl 3) (E.ofL (L.disp (Es.nil)))) (Ss.cons (S.whl (E.c (D.bl true)) (Ss.cons (S.asg (T.tup (Ts.cons (T.sl 5) (Ts.cons (T.sl 1) (Ts.nil)))) (E.call 42 (Es.cons (E.sl 0) (Es.cons (E.sl 1) (Es.cons (E.sl 2) (Es.nil)))))) (Ss.cons (S.ex (E.mt (Mt.append) (E.sl 3) (Es.cons (E.sl 5) (Es.nil)))) (Ss.cons (S.asg (T.sl 4) (E.sli (E.sl 0) (Oe.some (E.sl 1)) (Oe.some (E.bin (BOp.add) (E.sl 1) (E.c (D.int 1)))))) (Ss.cons (S.ite (E.cmp (COp.eq) (E.sl 4) (E.c (D.str [41]))) (Ss.cons (S.ret (E.tup (Es.cons (E.bi (Bi.tuple) (E.sl 3)) (Es.cons (E.bin (BOp.add) (E.sl 1) (E.c (D.int 1))) (Es.nil))))) (Ss.nil)) (Ss.nil)) (Ss.cons (S.ite (E.cmp (COp.ne) (E.sl 4) (E.c (D.str [32]))) (Ss.cons (S.rais 2 (Xk.place) (Es.cons (E.sl 1) (Es.nil))) (Ss.nil)) (Ss.nil)) (Ss.cons (S.aug 1 (BOp.add) (E.c (D.int 1))) (Ss.nil)))))))) (Ss.nil)))
def g47 : Fn := ⟨6, 3, b47⟩
/-- integer_at -/
def b48 : Ss := Ss.cons (S.asg (T.sl 2) (E.ite (E.cmp (COp.eq) (E.sli (E.sl 0) (Oe.some (E.sl 1)) (Oe.some (E.bin (BOp.add) (E.sl 1) (E.c (D.int 1))))) (E.c (D.str [45]))) (E.bin (BOp.add) (E.sl 1) (E.c (D.int 1))) (E.sl 1))) (Ss.cons (S.asg (T.sl 3) (E.sli (E.sl 0) (Oe.some (E.sl 2)) (Oe.some (E.bin (BOp.add) (E.sl 2) (E.c (D.int 1)))))) (Ss.cons (S.ite (E.or_ (E.cmp (COp.eq) (E.sl 3) (E.c (D.str []))) (E.or_ (E.cmp (COp.nin) (E.sl 3) (E.c (D.str [48, 49, 50, 51, 52, 53, 54, 55, 56, 57]))) (E.and_ (E.cmp (COp.eq) (E.sl 3) (E.c (D.str [48]))) (E.cmp (COp.gt) (E.sl 2) (E.sl 1))))) (Ss.cons (S.rais 2 (Xk.place) (Es.cons (E.sl 2) (Es.nil))) (Ss.nil)) (Ss.nil)) (Ss.cons (S.asg (T.sl 4) (E.bin (BOp.add) (E.sl 2) (E.c (D.int 1)))) (Ss.cons (S.whl (E.and_ (E.cmp (COp.ne) (E.sli (E.sl 0) (Oe.some (E.sl 4)) (Oe.some (E.bin (BOp.add) (E.sl 4) (E.c (D.int 1))))) (E.c (D.str []))) (E.cmp (COp.in_) (E.sli (E.sl 0) (Oe.some (E.sl 4)) (Oe.some (E.bin (BOp.add) (E.sl 4) (E.c (D.int 1))))) (E.c (D.str [48, 49, 50, 51, 52, 53, 54, 55, 56, 57])))) (Ss.cons (S.ite (E.or_ (E.cmp (COp.eq) (E.sl 3) (E.c (D.str [48]))) (E.cmp (COp.eq) (E.bin (BOp.sub) (E.sl 4) (E.sl 2)) (E.c (D.int 2000)))) (Ss.cons (S.rais 2 (Xk.place) (Es.cons (E.sl 4) (Es.nil))) (Ss.nil)) (Ss.nil)) (Ss.cons (S.aug 4 (BOp.add) (E.c (D.int 1))) (Ss.nil)))) (Ss.cons (S.ret (E.tup (Es.cons (E.bi (Bi.int) (E.sli (E.sl 0) (Oe.some (E.sl 1)) (Oe.some (E.sl 4)))) (Es.cons (E.sl 4) (Es.nil))))) (Ss.nil))))))
def g48 : Fn := ⟨5, 2, b48⟩
/-- have_row -/
def b49 : Ss := Ss.cons (S.asg (T.sl 1) (E.ofL (L.disp (Es.nil)))) (Ss.cons (S.fr (T.sl 2) (It.e (E.sl 0)) (Ss.cons (S.ite (E.and_ (E.sl 1) (E.cmp (COp.eq) (E.bin (BOp.add) (E.ix (E.ix (E.sl 1) (E.neg (E.c (D.int 1)))) (E.c (D.int 1))) (E.c (D.int 1))) (E.sl 2))) (Ss.cons (S.asg (T.sub (E.sl 1) (E.neg (E.c (D.int 1)))) (E.tup (Es.cons (E.ix (E.ix (E.sl 1) (E.neg (E.c (D.int 1)))) (E.c (D.int 0))) (Es.cons (E.sl 2) (Es.nil))))) (Ss.nil)) (Ss.cons (S.ex (E.mt (Mt.append) (E.sl 1) (Es.cons (E.tup (Es.cons (E.sl 2) (Es.cons (E.sl 2) (Es.nil)))) (Es.nil)))) (Ss.nil))) (Ss.nil))) (Ss.cons (S.asg (T.sl 3) (E.ofL (L.comp (E.ite (E.cmp (COp.eq) (E.sl 4) (E.sl 5)) (E.bi (Bi.str) (E.sl 4)) (E.fstr (Es.cons (E.sl 4) (Es.cons (E.c (D.str [45])) (Es.cons (E.sl 5) (Es.nil)))))) [4, 5] (T.tup (Ts.cons (T.sl 4) (Ts.cons (T.sl 5) (Ts.nil)))) (It.e (E.sl 1)) (Oe.none)))) (Ss.cons (S.ret (E.mt (Mt.join) (E.c (D.str [32])) (Es.cons (E.bin (BOp.add) (E.ofL (L.disp (Es.cons (E.c (D.str [104, 97, 118, 101])) (Es.nil)))) (E.sl 3)) (Es.nil)))) (Ss.nil))))
def g49 : Fn := ⟨6, 1, b49⟩
/-- Line._do -/
def b50 : Ss := Ss.cons (S.ite (E.cmp (COp.eq) (E.sl 1) (E.c (D.str [98, 121, 101]))) (Ss.cons (S.sfld [[83, 104, 111, 112], [82, 101, 103, 105, 115, 116, 101, 114], [76, 105, 110, 101]] (E.sl 0) [95, 105, 115, 95, 111, 118, 101, 114] (E.c (D.bl true))) (Ss.cons (S.ret (E.c (D.non))) (Ss.nil))) (Ss.nil)) (Ss.cons (S.ite (E.is_ true (E.fld [[83, 104, 111, 112], [82, 101, 103, 105, 115, 116, 101, 114], [76, 105, 110, 101]] (E.sl 0) [95, 115, 104, 97, 114, 101, 100]) (Si.non)) (Ss.cons (S.asg (T.sl 3) (E.call 52 (Es.cons (E.sl 1) (Es.nil)))) (Ss.cons (S.ite (E.is_ true (E.sl 3) (Si.non)) (Ss.cons (S.ex (E.meth [95, 98, 114, 101, 97, 107, 95, 111, 102, 102] [([76, 105, 110, 101], 51)] (E.sl 0) (Es.nil))) (Ss.nil)) (Ss.cons (S.sfld [[83, 104, 111, 112], [82, 101, 103, 105, 115, 116, 101, 114], [76, 105, 110, 101]] (E.sl 0) [95, 115, 104, 97, 114, 101, 100] (E.dcomp (It.e (E.sl 3)))) (Ss.nil))) (Ss.cons (S.ret (E.c (D.non))) (Ss.nil)))) (Ss.nil)) (Ss.cons (S.never) (Ss.cons (S.never) (Ss.nil))))
def g50 : Fn := ⟨5, 3, b50⟩
/-- Line._break_off -/
def b51 : Ss := Ss.cons (S.sfld [[83, 104, 111, 112], [82, 101, 103, 105, 115, 116, 101, 114], [76, 105, 110, 101]] (E.sl 0) [95, 105, 115, 95, 111, 118, 101, 114] (E.c (D.bl true))) (Ss.cons (S.sfld [[83, 104, 111, 112], [82, 101, 103, 105, 115, 116, 101, 114], [76, 105, 110, 101]] (E.sl 0) [95, 111, 119, 101, 115, 95, 98, 121, 101] (E.c (D.bl true))) (Ss.nil))
def g51 : Fn := ⟨1, 1, b51⟩
/-- numbers_of -/
def b52 : Ss := Ss.cons (S.asg (T.sl 1) (E.ofL (L.disp (Es.nil)))) (Ss.cons (S.fr (T.sl 2) (It.e (E.sli (E.mt (Mt.split) (E.sl 0) (Es.cons (E.c (D.str [32])) (Es.nil))) (Oe.some (E.c (D.int 1))) (Oe.none))) (Ss.cons (S.asg (T.tup (Ts.cons (T.sl 5) (Ts.cons (T.sl 6) (Ts.cons (T.sl 7) (Ts.nil))))) (E.mt (Mt.part) (E.sl 2) (Es.cons (E.c (D.str [45])) (Es.nil)))) (Ss.cons (S.never) (Ss.cons (S.never) (Ss.cons (S.ite (E.or_ (E.is_ true (E.sl 3) (Si.non)) (E.or_ (E.is_ true (E.sl 4) (Si.non)) (E.or_ (E.cmp (COp.lt) (E.sl 3) (E.c (D.int 1))) (E.or_ (E.cmp (COp.lt) (E.sl 4) (E.sl 3)) (E.and_ (E.sl 1) (E.cmp (COp.ge) (E.ix (E.sl 1) (E.neg (E.c (D.int 1)))) (E.sl 3))))))) (Ss.cons (S.ret (E.c (D.non))) (Ss.nil)) (Ss.nil)) (Ss.cons (S.never) (Ss.nil))))))) (Ss.cons (S.ret (E.ite (E.cmp (COp.eq) (E.call 49 (Es.cons (E.sl 1) (Es.nil))) (E.sl 0)) (E.sl 1) (E.c (D.non)))) (Ss.nil)))
def g52 : Fn := ⟨8, 1, b52⟩
def fs : List Fn := [g0, g1, g2, g3, g4, g5, g6, g7, g8, g9, g10, g11, g12, g13, g14, g15, g16, g17, g18, g19, g20, g21, g22, g23, g24, g25, g26, g27, g28, g29, g30, g31, g32, g33, g34, g35, g36, g37, g38, g39, g40, g41, g42, g43, g44, g45, g46, g47, g48, g49, g50, g51, g52]
def lvl : Nat := 150
def fuel : Nat := 100000
end K27.A

set_option autoImplicit false
set_option linter.all false
set_option maxRecDepth 100000
set_option maxHeartbeats 0
/-! k27: names of parts, the long text by the kernel. -/
namespace FD
def bx (as : List Int) (p : Int) (g : DH) : DH := .lst (as.map .int) :: .lst [.ref 0, .int p] :: g
end FD
namespace K27
open FD A
abbrev RR (k : Nat) : Cn := runN A.fs A.fuel k
abbrev nShop : List Nat := [83, 104, 111, 112]
abbrev nLine : List Nat := [76, 105, 110, 101]
/-- a line that is not over -/
abbrev lnO (w : List Nat) (sh tl ow : D) : O := .obj nLine [([95, 119, 97, 105, 116, 105, 110, 103], .str w), ([95, 115, 104, 97, 114, 101, 100], sh), ([95, 100, 105, 100, 95, 116, 101, 108, 108], tl), ([95, 105, 115, 95, 111, 118, 101, 114], .bl false), ([95, 111, 119, 101, 115, 95, 98, 121, 101], ow)]
def tk : Nat → Ss → Ss
  | 0, _ => .nil
  | _, .nil => .nil
  | n + 1, .cons s ss => .cons s (tk n ss)
def dr : Nat → Ss → Ss
  | 0, ss => ss
  | _, .nil => .nil
  | n + 1, .cons _ ss => dr n ss
/-- the state behind statements -/
def frOf : SO → Fr
  | .nx σ _ => σ
  | _ => []
def hpOf : SO → DH
  | .nx _ h => h
  | _ => []
def isNx : SO → Bool
  | .nx _ _ => true
  | _ => false
def hpO {α : Type} : Out α → DH
  | .ok _ h => h
  | _ => []
def okF : Out Bool → Bool
  | .ok false _ => true
  | _ => false
/-- a list by its members -/
def eta {α : Type} (d : α) : Nat → List α → List α
  | 0, _ => []
  | n + 1, l => l.headD d :: eta d n l.tail
/-! the law's parts -/
abbrev stA : Ss := tk 4 (dr 4 b0)
def s8 : S := match dr 8 b0 with | .cons s _ => s | .nil => .never
def s9c : E := match dr 9 b0 with | .cons (.ite t _ _) _ => t | _ => .c .non
def c123 : E := match s9c with | .or_ a (.or_ b (.or_ c _)) => .or_ a (.or_ b c) | _ => .c .non
def bad3 : D := .tup [.str [103, 114, 97, 112, 104], .tup [.str [97]], .tup [.tup [.str [101, 48], .str [97], .str [98]]]]
abbrev names : List D := [.str [], .str [72, 65], .str [49, 104, 97], .str [118, 101, 114, 121, 108, 111, 110, 103, 110, 97, 109, 101, 115]]
abbrev starts : List D := [.tup [], .tup [.str [103, 114, 97, 112, 104]], .tup [.str [103, 114, 97, 112, 104]], bad3, .int 5]
abbrev othersL : List D := [.tup [.str [104, 97]], .tup [.str [104, 99], .str [104, 98]], .tup [.str [104, 98], .str [104, 98]], .tup [.str [104, 98], .str [104, 99], .str [104, 100], .str [104, 101], .str [104, 102]], .tup [.str [72]]]
def frA (sc nm st ot : D) : Fr := [some sc, some (.ref 1), some bad3, some nm, some st, some ot, none, none, none, none, none, none, none]
def gA : DH := [.lst names, .lst starts, .lst othersL]
def pk (o : SO) : Nat × Option (Option D) × DH × Nat := match o with
  | .nx σ h => (σ.length, σ[1]?, h.take 2, h.length)
  | _ => (0, none, [], 0)
def o0 : O := .lst []
def fr2 (a : Option D) (r : Fr) : Fr := a :: some (.ref 1) :: eta none 11 r
def h2 (as : List Int) (n : Nat) (g : DH) : DH := bx as 3 (eta o0 n g)
def r8 (as : List Int) (n : Nat) (g : DH) (a : Option D) (r : Fr) : SO := evS (RR 149) s8 (fr2 a r) (h2 as n g)
def r9 (as : List Int) (n : Nat) (g : DH) (a : Option D) (r : Fr) : Out Bool := (ev (RR 149) c123).t (frOf (r8 as n g a r)) (hpOf (r8 as n g a r))
def hB (as : List Int) (n : Nat) (g : DH) (a : Option D) (r : Fr) : DH := hpO (r9 as n g a r)
def rC (S : Nat) (as : List Int) (n : Nat) (g : DH) (a : Option D) (r : Fr) : SO := evSs (RR 148) (tk 4 b10) [some (.ref 1), some (.ref S), none, none] (hB as n g a r)
def hC (S : Nat) (as : List Int) (n : Nat) (g : DH) (a : Option D) (r : Fr) : DH := hpOf (rC S as n g a r)
def fsOf : Option O → List (List Nat × D)
  | some (.obj _ fs) => fs
  | _ => []
def kvOf : Option O → List (DK × D)
  | some (.dic kv) => kv
  | _ => []
def pkB (o : SO) : Bool × DH × Nat := match o with
  | .rt (.bl b) h => (b, h.take 2, h.length)
  | _ => (false, [], 0)
abbrev lineF (t : List Nat) : O := lnO t .non (.bl true) (.bl false)
abbrev have5 : List Nat := [104, 97, 118, 101, 10]
def rest7 (S : Nat) (c : D) (ll : Nat) (as : List Int) (n : Nat) (g : DH) (a : Option D) (r : Fr) : SO := evSs (RR 148) (dr 7 b10) [some (.ref 1), some (.ref S), some c, none] ((bx as 4 ((hC S as n g a r).drop 2)).set ll (lineF (have5 ++ List.replicate 60000 120)))
theorem heavy1 (as : List Int) (g : DH) (a : Option D) (r : Fr) (c : D) : pkB (rest7 48 c 55 as 20 g a r) = (true, bx as 4 [], 124) := by kernel_rfl
theorem heavy2 (as : List Int) (g : DH) (a : Option D) (r : Fr) (c : D) : pkB (rest7 50 c 57 as 22 g a r) = (true, bx as 4 [], 126) := by kernel_rfl
end K27

set_option Elab.async false
set_option linter.all false
set_option maxRecDepth 100000
set_option maxHeartbeats 1000000
/-! The D layer, 2: how its values and heap stand for the layer's (HandS). -/
namespace FD
open PySem PySem.Spec PyProof.Rows L2

theorem toS_cps (x : Str) : toS x.cps.toList = x := by cases x; simp [toS]
theorem toS_length (s : List Nat) : (toS s).length = s.length := by simp [toS, Str.length]
theorem toS_list (s : List Nat) : (toS s).cps.toList = s := by simp [toS]
theorem toS_inj {s t : List Nat} (h : toS s = toS t) : s = t := by have := congrArg (fun x : Str => x.cps.toList) h; simpa [toS] using this
theorem SL_eq : sizeLine = SL := by rw [sizeLine_eq]; rfl

/-- keys -/
def toK : DK → Key
  | .inl i => .inl i
  | .inr s => .inr (toS s)
theorem toK_inj {a b : DK} (h : toK a = toK b) : a = b := by
  cases a <;> cases b <;> simp only [toK] at h <;> first | (cases h; rfl) | cases h | (injection h with h; rw [toS_inj h])
/-- a list that is never changed -/
def FzL (K : PySem.W.Frag) (H : Hp) (a : Addr) (vs : List V) : Prop := (∃ o, H a = some (.frz o (.lst vs))) ∨
  ∃ (o : Obj) (its : Array Value) (n : Nat), K.lookup a = some o ∧ o.cls = .type "list" ∧ o.dict = none ∧ o.data = .seq its n ∧ its.size ≤ sizeLine ∧ Vals vs its.toList
theorem FzL.sql {K : PySem.W.Frag} {H : Hp} {a : Addr} {vs : List V} (h : FzL K H a vs) : SqL K H a vs := by
  rcases h with ⟨o, h⟩ | h
  · exact .inl (.inr ⟨o, h⟩)
  · exact .inr h
section
variable (K : PySem.W.Frag) (α : List Addr) (H : Hp)
mutual
def VR : D → V → Prop
  | .non, v => v = .non
  | .bl b, v => v = .bl b
  | .int i, v => v = .int i
  | .str s, v => v = .str (toS s)
  | .tup xs, v => ∃ a vs, v = .ref a ∧ SqT K H a vs ∧ VRs xs vs
  | .ref n, v => ∃ a, α[n]? = some a ∧ v = .ref a
  | .fl xs, v => ∃ a vs, v = .ref a ∧ FzL K H a vs ∧ VRs xs vs
def VRs : List D → List V → Prop
  | [], vs => vs = []
  | x :: xs, vs => ∃ v r, vs = v :: r ∧ VR x v ∧ VRs xs r
end
def OR (a : Addr) : O → Prop
  | .lst xs => ∃ vs, H a = some (.lst vs) ∧ VRs K α H xs vs
  | .dic kvs => ∃ ws : List (Key × V), H a = some (.dK ws) ∧ ws.map (·.1) = kvs.map (fun p => toK p.1) ∧ VRs K α H (kvs.map (·.2)) (ws.map (·.2))
  | .dit kvs => ∃ ws : List (List Key × V), H a = some (.dT ws) ∧ ws.map (·.1) = kvs.map (fun p => p.1.map toK) ∧ VRs K α H (kvs.map (·.2)) (ws.map (·.2))
  | .obj cn fs => ∃ (dx : Addr) (gs : List (Str × V)), H a = some (.ins (He.ga K (toS cn)) dx gs) ∧ gs.map (·.1) = fs.map (fun p => toS p.1) ∧ VRs K α H (fs.map (·.2)) (gs.map (·.2))
  | .lck kvs => ∃ (o : Obj) (ws : List (Key × V)), H a = some (.frz o (.dK ws)) ∧ ws.map (·.1) = kvs.map (fun p => toK p.1) ∧ VRs K α H (kvs.map (·.2)) (ws.map (·.2))
  | .btp xs => ∃ (o : Obj) (vs : List V), H a = some (.frz o (.tup vs)) ∧ o.dict = none ∧ VRs K α H xs vs
end
structure RepH (K : PySem.W.Frag) (α : List Addr) (H : Hp) (h : DH) : Prop where
  len : α.length = h.length
  nd : α.Nodup
  ob : ∀ (n : Nat) (o : O), h[n]? = some o → ∃ a, α[n]? = some a ∧ OR K α H a o
structure RepF (K : PySem.W.Frag) (α : List Addr) (H : Hp) (σ : L2.St) (δ : Fr) : Prop where
  len : σ.length = δ.length
  sl : ∀ (i : Nat) (d : D), δ[i]? = some (some d) → ∃ v, σ[i]? = some (some v) ∧ VR K α H d v
/-- what never changes -/
structure Ext0 (α : List Addr) (H : Hp) (α' : List Addr) (H' : Hp) : Prop where
  pre : α <+: α'
  tp : ∀ a vs, H a = some (.tup vs) → H' a = some (.tup vs)
  fz : ∀ a o u, H a = some (.frz o u) → H' a = some (.frz o u)
structure Ext (α : List Addr) (H : Hp) (α' : List Addr) (H' : Hp) : Prop where
  pre : α <+: α'
  new : ∀ a ∈ α', a ∉ α → H a = none
  keep : ∀ a u, H a = some u → a ∉ α → H' a = some u
  tp : ∀ a vs, H a = some (.tup vs) → H' a = some (.tup vs)
  fz : ∀ a o u, H a = some (.frz o u) → H' a = some (.frz o u)
theorem Ext.e0 {α α' : List Addr} {H H' : Hp} (e : Ext α H α' H') : Ext0 α H α' H' := ⟨e.pre, e.tp, e.fz⟩

section
variable {K : PySem.W.Frag} {α α1 α2 : List Addr} {H H1 H2 : Hp} {h : DH} {σ : L2.St} {δ : Fr}
theorem Ext.refl : Ext α H α H := ⟨List.prefix_rfl, fun _ h n => absurd h n, fun _ _ h _ => h, fun _ _ h => h, fun _ _ _ h => h⟩
theorem Ext.trans (a : Ext α H α1 H1) (b : Ext α1 H1 α2 H2) : Ext α H α2 H2 where
  pre := a.pre.trans b.pre
  new := fun x hx hn => by
    by_cases h1 : x ∈ α1
    · exact a.new x h1 hn
    · cases q : H x with
      | none => rfl
      | some u =>
        have := a.keep x u q hn
        rw [b.new x hx h1] at this; cases this
  keep := fun x u q hn => by
    refine b.keep x u (a.keep x u q hn) fun h1 => ?_
    rw [a.new x h1 hn] at q; cases q
  tp := fun x vs q => b.tp x vs (a.tp x vs q)
  fz := fun x o u q => b.fz x o u (a.fz x o u q)
theorem Ext0.get (e : Ext0 α H α1 H1) {n : Nat} {a : Addr} (h : α[n]? = some a) : α1[n]? = some a := by
  obtain ⟨t, rfl⟩ := e.pre
  have hl : n < α.length := by
    rcases Nat.lt_or_ge n α.length with z | z
    · exact z
    · rw [List.getElem?_eq_none z] at h; cases h
  rw [List.getElem?_append_left hl]; exact h
theorem Ext0.sqT (e : Ext0 α H α1 H1) {a : Addr} {vs : List V} (h : SqT K H a vs) : SqT K H1 a vs := by
  rcases h with (h | ⟨o, h⟩) | h
  · exact .inl (.inl (e.tp a vs h))
  · exact .inl (.inr ⟨o, e.fz _ _ _ h⟩)
  · exact .inr h
theorem Ext0.fzL (e : Ext0 α H α1 H1) {a : Addr} {vs : List V} (h : FzL K H a vs) : FzL K H1 a vs := by
  rcases h with ⟨o, h⟩ | h
  · exact .inl ⟨o, e.fz _ _ _ h⟩
  · exact .inr h
mutual
theorem VR.ext0 (e : Ext0 α H α1 H1) : ∀ {d : D} {v : V}, VR K α H d v → VR K α1 H1 d v
  | .non, _, h => h
  | .bl _, _, h => h
  | .int _, _, h => h
  | .str _, _, h => h
  | .tup xs, v, h => by
    unfold VR at h ⊢
    obtain ⟨a, vs, e1, h1, h2⟩ := h
    exact ⟨a, vs, e1, e.sqT h1, VRs.ext0 e h2⟩
  | .ref n, v, h => by
    unfold VR at h ⊢
    obtain ⟨a, h1, h2⟩ := h
    exact ⟨a, e.get h1, h2⟩
  | .fl xs, v, h => by
    unfold VR at h ⊢
    obtain ⟨a, vs, e1, h1, h2⟩ := h
    exact ⟨a, vs, e1, e.fzL h1, VRs.ext0 e h2⟩
theorem VRs.ext0 (e : Ext0 α H α1 H1) : ∀ {ds : List D} {vs : List V}, VRs K α H ds vs → VRs K α1 H1 ds vs
  | [], _, h => h
  | x :: xs, vs, h => by
    unfold VRs at h ⊢
    obtain ⟨v, r, e1, h1, h2⟩ := h
    exact ⟨v, r, e1, VR.ext0 e h1, VRs.ext0 e h2⟩
end
theorem VR.ext (e : Ext α H α1 H1) {d : D} {v : V} (h : VR K α H d v) : VR K α1 H1 d v := VR.ext0 e.e0 h
theorem VRs.ext (e : Ext α H α1 H1) {ds : List D} {vs : List V} (h : VRs K α H ds vs) : VRs K α1 H1 ds vs := VRs.ext0 e.e0 h
theorem VRs.length : ∀ {ds : List D} {vs : List V}, VRs K α H ds vs → vs.length = ds.length
  | [], _, h => by unfold VRs at h; subst h; rfl
  | x :: xs, vs, h => by
    unfold VRs at h
    obtain ⟨v, r, rfl, _, h2⟩ := h
    simp [VRs.length h2]
theorem VRs.append : ∀ {ds es : List D} {vs us : List V}, VRs K α H ds vs → VRs K α H es us → VRs K α H (ds ++ es) (vs ++ us)
  | [], _, _, _, h, h' => by unfold VRs at h; subst h; exact h'
  | x :: xs, es, vs, us, h, h' => by
    unfold VRs at h
    obtain ⟨v, r, rfl, h1, h2⟩ := h
    show VRs K α H (x :: (xs ++ es)) (v :: (r ++ us))
    unfold VRs
    exact ⟨v, _, rfl, h1, VRs.append h2 h'⟩
theorem VRs.one {d : D} {v : V} (h : VR K α H d v) : VRs K α H [d] [v] := ⟨v, [], rfl, h, rfl⟩
theorem VRs.get : ∀ {ds : List D} {vs : List V} {i : Nat} {d : D}, VRs K α H ds vs → ds[i]? = some d → ∃ v, vs[i]? = some v ∧ VR K α H d v
  | [], _, _, _, _, e => by simp at e
  | x :: xs, vs, 0, d, h, e => by
    unfold VRs at h
    obtain ⟨v, r, rfl, h1, h2⟩ := h
    simp at e; subst e
    exact ⟨v, rfl, h1⟩
  | x :: xs, vs, i + 1, d, h, e => by
    unfold VRs at h
    obtain ⟨v, r, rfl, h1, h2⟩ := h
    obtain ⟨u, e1, e2⟩ := VRs.get (i := i) (d := d) h2 (by simpa using e)
    exact ⟨u, by simpa using e1, e2⟩
theorem VRs.set : ∀ {ds : List D} {vs : List V} (i : Nat) {d : D} {v : V}, VRs K α H ds vs → VR K α H d v → VRs K α H (ds.set i d) (vs.set i v)
  | [], _, _, _, _, h, _ => by unfold VRs at h; subst h; exact rfl
  | x :: xs, vs, 0, d, v, h, e => by
    unfold VRs at h
    obtain ⟨u, r, rfl, h1, h2⟩ := h
    exact ⟨v, r, rfl, e, h2⟩
  | x :: xs, vs, i + 1, d, v, h, e => by
    unfold VRs at h
    obtain ⟨u, r, rfl, h1, h2⟩ := h
    exact ⟨u, _, rfl, h1, VRs.set i h2 e⟩
theorem VRs.drop : ∀ {ds : List D} {vs : List V} (n : Nat), VRs K α H ds vs → VRs K α H (ds.drop n) (vs.drop n)
  | _, _, 0, h => h
  | [], _, n + 1, h => by unfold VRs at h; subst h; exact rfl
  | x :: xs, vs, n + 1, h => by
    unfold VRs at h
    obtain ⟨u, r, rfl, h1, h2⟩ := h
    exact VRs.drop n h2
theorem VRs.take : ∀ {ds : List D} {vs : List V} (n : Nat), VRs K α H ds vs → VRs K α H (ds.take n) (vs.take n)
  | _, _, 0, h => rfl
  | [], _, n + 1, h => by unfold VRs at h; subst h; exact rfl
  | x :: xs, vs, n + 1, h => by
    unfold VRs at h
    obtain ⟨u, r, rfl, h1, h2⟩ := h
    exact ⟨u, _, rfl, h1, VRs.take n h2⟩
theorem RepF.ext0 (e : Ext0 α H α1 H1) (r : RepF K α H σ δ) : RepF K α1 H1 σ δ := ⟨r.len, fun i d h => by
  obtain ⟨v, h1, h2⟩ := r.sl i d h
  exact ⟨v, h1, h2.ext0 e⟩⟩
theorem RepF.ext (e : Ext α H α1 H1) (r : RepF K α H σ δ) : RepF K α1 H1 σ δ := r.ext0 e.e0
theorem RepF.set (r : RepF K α H σ δ) (i : Nat) {d : D} {v : V} (h : VR K α H d v) : RepF K α H (σ.set i (some v)) (δ.set i (some d)) := by
  refine ⟨by simp [r.len], fun j e hj => ?_⟩
  by_cases z : i = j
  · subst z
    by_cases hl : i < δ.length
    · rw [List.getElem?_set_self hl] at hj
      cases hj
      exact ⟨v, by rw [List.getElem?_set_self (by rw [r.len]; exact hl)], h⟩
    · rw [List.getElem?_eq_none (by simpa using hl)] at hj; cases hj
  · rw [List.getElem?_set_ne z] at hj ⊢
    exact r.sl j e hj
theorem wipeF_length : ∀ (δ : Fr) (vs : List Nat), (wipeF δ vs).length = δ.length
  | _, [] => rfl
  | δ, v :: vs => by unfold wipeF; rw [List.length_set, wipeF_length δ vs]
theorem RepF.none (r : RepF K α H σ δ) (i : Nat) : RepF K α H (σ.set i none) (δ.set i none) := by
  refine ⟨by simp [r.len], fun j e hj => ?_⟩
  by_cases z : i = j
  · subst z
    by_cases hl : i < δ.length
    · rw [List.getElem?_set_self hl] at hj; cases hj
    · rw [List.getElem?_eq_none (by simpa using hl)] at hj; cases hj
  · rw [List.getElem?_set_ne z] at hj ⊢
    exact r.sl j e hj
theorem RepF.wipe (r : RepF K α H σ δ) : ∀ vs : List Nat, RepF K α H (wipe σ vs) (wipeF δ vs)
  | [] => r
  | v :: vs => by unfold L2.wipe wipeF; exact (RepF.wipe r vs).none v

/-! ### the heap grows, the heap changes -/
theorem RepH.at (r : RepH K α H h) {n : Nat} {o : O} (q : h[n]? = some o) : ∃ a, α[n]? = some a ∧ OR K α H a o := r.ob n o q
theorem RepH.list (r : RepH K α H h) {n : Nat} {xs : List D} (q : h[n]? = some (.lst xs)) : ∃ a vs, α[n]? = some a ∧ H a = some (.lst vs) ∧ VRs K α H xs vs := by
  obtain ⟨a, h1, vs, h2, h3⟩ := r.ob n _ q
  exact ⟨a, vs, h1, h2, h3⟩
theorem or_some {a : Addr} {o : O} (h : OR K α H a o) : ∃ u, H a = Option.some u := by
  cases o with
  | lst xs => obtain ⟨vs, h1, _⟩ := h; exact ⟨_, h1⟩
  | dic _ => obtain ⟨vs, h1, _⟩ := h; exact ⟨_, h1⟩
  | dit _ => obtain ⟨vs, h1, _⟩ := h; exact ⟨_, h1⟩
  | obj _ _ => obtain ⟨dx, gs, h1, _⟩ := h; exact ⟨_, h1⟩
  | lck _ => obtain ⟨_, vs, h1, _⟩ := h; exact ⟨_, h1⟩
  | btp _ => obtain ⟨_, vs, h1, _⟩ := h; exact ⟨_, h1⟩
/-- what stands at a may be written -/
structure Wr (H : Hp) (a : Addr) : Prop where
  tp : ∀ vs : List V, H a ≠ Option.some (.tup vs)
  fz : ∀ (ob : Obj) (u : HO), H a ≠ Option.some (.frz ob u)
theorem Wr.of {a : Addr} {u0 : HO} (h : H a = Option.some u0) (t : ∀ vs : List V, u0 ≠ .tup vs) (f : ∀ (ob : Obj) (u : HO), u0 ≠ .frz ob u) : Wr H a :=
  ⟨fun vs z => t vs (Option.some.inj (h.symm.trans z)), fun ob u z => f ob u (Option.some.inj (h.symm.trans z))⟩
theorem Wr.lst {a : Addr} {vs : List V} (h : H a = Option.some (.lst vs)) : Wr H a := .of h (fun _ z => by cases z) (fun _ _ z => by cases z)
theorem Wr.dK {a : Addr} {ws : List (Key × V)} (h : H a = Option.some (.dK ws)) : Wr H a := .of h (fun _ z => by cases z) (fun _ _ z => by cases z)
theorem Wr.ins {a C dx : Addr} {gs : List (Str × V)} (h : H a = Option.some (.ins C dx gs)) : Wr H a := .of h (fun _ z => by cases z) (fun _ _ z => by cases z)
theorem RepH.mem (r : RepH K α H h) {a : Addr} (ha : a ∈ α) : ∃ (n : Nat) (o : O), α[n]? = Option.some a ∧ h[n]? = Option.some o ∧ OR K α H a o := by
  obtain ⟨n, hn, e⟩ := List.mem_iff_getElem.mp ha
  have hn' : n < h.length := by rw [← r.len]; exact hn
  obtain ⟨b, h1, h2⟩ := r.ob n h[n] (List.getElem?_eq_getElem hn')
  have e1 : α[n]? = Option.some a := by rw [List.getElem?_eq_getElem hn, e]
  rw [e1] at h1; cases h1
  exact ⟨n, _, e1, List.getElem?_eq_getElem hn', h2⟩
theorem RepH.free (r : RepH K α H h) {p : Addr} (hp : H p = none) : p ∉ α := fun ha => by
  obtain ⟨n, o, _, _, h2⟩ := r.mem ha
  obtain ⟨u, h3⟩ := or_some h2
  rw [hp] at h3; cases h3
theorem Ext.laid {p : Addr} {o : HO} (hp : H p = none) : Ext α H α (upd H p o) :=
  ⟨List.prefix_rfl, fun _ h n => absurd h n, fun a u q _ => by rw [upd_ne (ne_of_none q hp)]; exact q, fun a vs q => by rw [upd_ne (ne_of_none q hp)]; exact q, fun a ob u q => by rw [upd_ne (ne_of_none q hp)]; exact q⟩
/-- a tracked object that was new to the outer heap is told of, too -/
theorem Ext.take (e : Ext α H α1 H1) {p : Addr} (hp : H p = none) (h1 : p ∉ α1) : Ext α H (α1 ++ [p]) H1 :=
  ⟨e.pre.trans (List.prefix_append _ _), fun a ha hn => by
    rcases List.mem_append.mp ha with z | z
    · exact e.new a z hn
    · rw [List.mem_singleton.mp z]; exact hp, e.keep, e.tp, e.fz⟩
theorem Ext.grow {p : Addr} (hp : p ∉ α) : (∀ {n : Nat} {a : Addr}, α[n]? = some a → (α ++ [p])[n]? = some a) := fun {n a} e => by
  have hl : n < α.length := by
    rcases Nat.lt_or_ge n α.length with z | z
    · exact z
    · rw [List.getElem?_eq_none z] at e; cases e
  rw [List.getElem?_append_left hl]; exact e
mutual
/-- more names, the same heap -/
theorem VR.more {p : Addr} : ∀ {d : D} {v : V}, VR K α H d v → VR K (α ++ [p]) H d v
  | .non, _, h => h
  | .bl _, _, h => h
  | .int _, _, h => h
  | .str _, _, h => h
  | .tup xs, v, h => by
    unfold VR at h ⊢
    obtain ⟨a, vs, e1, h1, h2⟩ := h
    exact ⟨a, vs, e1, h1, VRs.more h2⟩
  | .ref n, v, h => by
    unfold VR at h ⊢
    obtain ⟨a, h1, h2⟩ := h
    have hl : n < α.length := by
      rcases Nat.lt_or_ge n α.length with z | z
      · exact z
      · rw [List.getElem?_eq_none z] at h1; cases h1
    exact ⟨a, by rw [List.getElem?_append_left hl]; exact h1, h2⟩
  | .fl xs, v, h => by
    unfold VR at h ⊢
    obtain ⟨a, vs, e1, h1, h2⟩ := h
    exact ⟨a, vs, e1, h1, VRs.more h2⟩
theorem VRs.more {p : Addr} : ∀ {ds : List D} {vs : List V}, VRs K α H ds vs → VRs K (α ++ [p]) H ds vs
  | [], _, h => h
  | x :: xs, vs, h => by
    unfold VRs at h ⊢
    obtain ⟨v, r, e1, h1, h2⟩ := h
    exact ⟨v, r, e1, VR.more h1, VRs.more h2⟩
end
theorem or_more {p a : Addr} {o : O} (h : OR K α H a o) : OR K (α ++ [p]) H a o := by
  cases o with
  | lst xs => obtain ⟨vs, h1, h2⟩ := h; exact ⟨vs, h1, h2.more⟩
  | dic _ => obtain ⟨vs, h1, e, h2⟩ := h; exact ⟨vs, h1, e, h2.more⟩
  | dit _ => obtain ⟨vs, h1, e, h2⟩ := h; exact ⟨vs, h1, e, h2.more⟩
  | obj _ _ => obtain ⟨dx, gs, h1, e, h2⟩ := h; exact ⟨dx, gs, h1, e, h2.more⟩
  | lck _ => obtain ⟨o, vs, h1, e, h2⟩ := h; exact ⟨o, vs, h1, e, h2.more⟩
  | btp _ => obtain ⟨o, vs, h1, e, h2⟩ := h; exact ⟨o, vs, h1, e, h2.more⟩
theorem or_ext (e : Ext0 α H α1 H1) {a : Addr} {o : O} (h : OR K α H a o) (k : ∀ u, H a = some u → H1 a = some u) : OR K α1 H1 a o := by
  cases o with
  | lst xs =>
    obtain ⟨vs, h1, h2⟩ := h
    exact ⟨vs, k _ h1, h2.ext0 e⟩
  | dic _ =>
    obtain ⟨vs, h1, e1, h2⟩ := h
    exact ⟨vs, k _ h1, e1, h2.ext0 e⟩
  | dit _ =>
    obtain ⟨vs, h1, e1, h2⟩ := h
    exact ⟨vs, k _ h1, e1, h2.ext0 e⟩
  | obj _ _ =>
    obtain ⟨dx, gs, h1, e1, h2⟩ := h
    exact ⟨dx, gs, k _ h1, e1, h2.ext0 e⟩
  | lck _ =>
    obtain ⟨o, vs, h1, e1, h2⟩ := h
    exact ⟨o, vs, k _ h1, e1, h2.ext0 e⟩
  | btp _ =>
    obtain ⟨o, vs, h1, e1, h2⟩ := h
    exact ⟨o, vs, k _ h1, e1, h2.ext0 e⟩
/-- nothing tracked has changed -/
theorem RepH.same (r : RepH K α H h) (e : Ext0 α H α H1) (k : ∀ a ∈ α, ∀ u, H a = some u → H1 a = some u) : RepH K α H1 h :=
  ⟨r.len, r.nd, fun n o q => by
    obtain ⟨a, h1, h2⟩ := r.ob n o q
    exact ⟨a, h1, or_ext e h2 (k a (List.mem_of_getElem? h1))⟩⟩
theorem RepH.laid (r : RepH K α H h) {p : Addr} {o : HO} (hp : H p = none) : RepH K α (upd H p o) h :=
  r.same (Ext.laid hp).e0 fun a _ u q => by rw [upd_ne (ne_of_none q hp)]; exact q
/-- one more object -/
theorem RepH.add (r : RepH K α H h) {p : Addr} {o : O} (hn : p ∉ α) (ho : OR K α H p o) : RepH K (α ++ [p]) H (h ++ [o]) := by
  refine ⟨by simp [r.len], ?_, fun n o' q => ?_⟩
  · rw [List.nodup_append]
    exact ⟨r.nd, by simp, fun a ha b hb => by rw [List.mem_singleton.mp hb]; exact fun z => hn (z ▸ ha)⟩
  · by_cases hl : n < h.length
    · rw [List.getElem?_append_left hl] at q
      obtain ⟨a, h1, h2⟩ := r.ob n o' q
      have hl' : n < α.length := by rw [r.len]; exact hl
      exact ⟨a, by rw [List.getElem?_append_left hl']; exact h1, or_more h2⟩
    · rw [List.getElem?_append_right (by omega)] at q
      have hn' : n = h.length := by
        rcases Nat.eq_or_lt_of_le (Nat.le_of_not_lt hl) with z | z
        · exact z.symm
        · rw [List.getElem?_eq_none (by simp; omega)] at q; cases q
      subst hn'
      simp at q; subst q
      exact ⟨p, by rw [← r.len]; simp, or_more ho⟩
/-- the object at n changes -/
theorem Ext.write (r : RepH K α H h) {n : Nat} {a : Addr} {u : HO} (ha : α[n]? = some a) (hw : Wr H a) : Ext α H α (upd H a u) := by
  have hm : a ∈ α := List.mem_of_getElem? ha
  refine ⟨List.prefix_rfl, fun _ h n => absurd h n, fun b v q hb => ?_, fun b vs q => ?_, fun b ob v q => ?_⟩
  · rw [upd_ne (fun z : b = a => hb (by rw [z]; exact hm))]; exact q
  · rw [upd_ne (fun z : b = a => hw.tp vs (by rw [← z]; exact q))]; exact q
  · rw [upd_ne (fun z : b = a => hw.fz ob v (by rw [← z]; exact q))]; exact q
theorem RepH.write (r : RepH K α H h) {n : Nat} {a : Addr} {u : HO} {o : O} (ha : α[n]? = some a) (hw : Wr H a) (ho : OR K α (upd H a u) a o) : RepH K α (upd H a u) (h.set n o) := by
  have e := Ext.write (u := u) r ha hw
  refine ⟨by simp [r.len], r.nd, fun m o' q => ?_⟩
  by_cases z : n = m
  · subst z
    have hl : n < h.length := by
      rcases Nat.lt_or_ge n h.length with z | z
      · exact z
      · rw [List.getElem?_eq_none (by simpa using z)] at q; cases q
    rw [List.getElem?_set_self hl] at q
    cases q
    exact ⟨a, ha, ho⟩
  · rw [List.getElem?_set_ne z] at q
    obtain ⟨b, h1, h2⟩ := r.ob m o' q
    refine ⟨b, h1, or_ext e.e0 h2 fun v hv => ?_⟩
    rw [upd_ne]
    · exact hv
    · intro eb
      subst eb
      have hn : n < α.length := (List.getElem?_eq_some_iff.mp ha).1
      have hm : m < α.length := (List.getElem?_eq_some_iff.mp h1).1
      exact z ((List.getElem?_inj hn r.nd).mp (ha.trans h1.symm))
end

/-! ### what is wanted behind an evaluation -/
/-- what an exception is at D's level: cls tells each class's address -/
def XR (K : PySem.W.Frag) (cls : Nat → Option Addr) (c : Nat) (fs : List (List Nat × D)) (α : List Addr) (H : Hp) (cv : Value) (dd : Option Addr) : Prop :=
  ∃ C d gs, cls c = some C ∧ cv = .ref C ∧ dd = some d ∧ H d = some (.xd gs) ∧ gs.map (·.1) = fs.map (fun p => toS p.1) ∧ VRs K α H (fs.map (·.2)) (gs.map (·.2))
def Post {β : Type} (K : PySem.W.Frag) (cls : Nat → Option Addr) (W : WX) (σ : L2.St) (α : List Addr) (H : Hp) (o : Out β) (Z : β → List Addr → Hp → DH → Prop) : Prop := match o with
  | .ok b h' => ∀ α' H', Ext α H α' H' → RepH K α' H' h' → Z b α' H' h'
  | .exc c fs h' => ∀ α' H' cv dd, Ext α H α' H' → RepH K α' H' h' → XR K cls c fs α' H' cv dd → W cv dd σ H'
  | .bad => False
section
variable {K : PySem.W.Frag} {cls : Nat → Option Addr} {W : WX} {σ : L2.St} {α α1 : List Addr} {H H1 : Hp} {β γ : Type}
theorem Post.mono {o : Out β} {Z Z' : β → List Addr → Hp → DH → Prop} (p : Post K cls W σ α H o Z) (h : ∀ b α' H' h', Ext α H α' H' → RepH K α' H' h' → Z b α' H' h' → Z' b α' H' h') : Post K cls W σ α H o Z' := by
  cases o with
  | ok b h' => exact fun α' H' e r => h _ _ _ _ e r (p α' H' e r)
  | exc c fs h' => exact p
  | bad => exact p
theorem Post.from {o : Out β} {Z : β → List Addr → Hp → DH → Prop} (p : Post K cls W σ α H o Z) (e : Ext α H α1 H1) : Post K cls W σ α1 H1 o Z := by
  cases o with
  | ok b h' => exact fun α' H' e' r => p α' H' (e.trans e') r
  | exc c fs h' => exact fun α' H' cv dd e' r => p α' H' cv dd (e.trans e') r
  | bad => exact p
theorem Post.of_bind {o : Out β} {f : β → DH → Out γ} {Z : γ → List Addr → Hp → DH → Prop} (p : Post K cls W σ α H (o.bind f) Z) : Post K cls W σ α H o fun b α' H' h' => Post K cls W σ α' H' (f b h') Z := by
  cases o with
  | ok b h' => exact fun α' H' e _ => Post.from p e
  | exc c fs h' => exact p
  | bad => exact p
theorem Post.ok {b : β} {h : DH} {Z : β → List Addr → Hp → DH → Prop} (p : Post K cls W σ α H (.ok b h) Z) (r : RepH K α H h) : Z b α H h := p α H Ext.refl r
theorem Post.opt {x : Option β} {h : DH} {Z : β → List Addr → Hp → DH → Prop} (p : Post K cls W σ α H (.opt x h) Z) (r : RepH K α H h) : ∃ b, x = some b ∧ Z b α H h := by
  cases x with
  | none => exact p.elim
  | some b => exact ⟨b, rfl, p α H Ext.refl r⟩
end

/-! ### readings -/
/-- but for the slots is nothing is set -/
structure Agree (is : List Nat) (σ σ' : L2.St) : Prop where
  len : σ'.length = σ.length
  at_ : ∀ i, i ∉ is → σ'[i]? = σ[i]?
theorem Agree.wipe {is vs : List Nat} {σ σ' : L2.St} (a : Agree is σ σ') (h : ∀ i ∈ is, i ∈ vs) : L2.wipe σ' vs = L2.wipe σ vs := by
  refine List.ext_getElem? fun i => ?_
  have key : ∀ (us : List Nat) (τ : L2.St), (L2.wipe τ us)[i]? = if i ∈ us ∧ i < τ.length then some none else τ[i]? := by
    intro us
    induction us with
    | nil => intro τ; simp [L2.wipe]
    | cons u us ih =>
      intro τ
      unfold L2.wipe
      rw [List.getElem?_set, wipe_length, ih τ]
      by_cases z : u = i
      · subst z
        by_cases hl : u < τ.length
        · simp [hl]
        · simp only [List.mem_cons, true_or, hl, and_false, if_true, if_false]
          rw [List.getElem?_eq_none (Nat.le_of_not_lt hl)]
      · rw [if_neg z]
        have : i ∈ u :: us ↔ i ∈ us := by simp [Ne.symm z]
        simp only [this]
  rw [key, key, a.len]
  by_cases hi : i ∈ vs
  · by_cases hl : i < σ.length
    · rw [if_pos ⟨hi, hl⟩, if_pos ⟨hi, hl⟩]
    · rw [if_neg (fun z => hl z.2), if_neg (fun z => hl z.2), List.getElem?_eq_none (by rw [a.len]; omega), List.getElem?_eq_none (by omega)]
  · rw [if_neg (fun z => hi z.1), if_neg (fun z => hi z.1)]
    exact a.at_ i fun z => hi (h i z)
theorem Agree.refl {is : List Nat} {σ : L2.St} : Agree is σ σ := ⟨rfl, fun _ _ => rfl⟩
theorem Agree.trans {is js : List Nat} {σ σ1 σ2 : L2.St} (a : Agree is σ σ1) (b : Agree js σ1 σ2) : Agree (is ++ js) σ σ2 :=
  ⟨b.len.trans a.len, fun i hi => (b.at_ i fun z => hi (List.mem_append_right _ z)).trans (a.at_ i fun z => hi (List.mem_append_left _ z))⟩
theorem Agree.set {σ : L2.St} {i : Nat} {v : Option V} : Agree [i] σ (σ.set i v) := ⟨by simp, fun j hj => by
  rw [List.getElem?_set_ne]
  intro e
  exact hj (by simp [e])⟩
section
variable (K : PySem.W.Frag) (cls : Nat → Option Addr) (W : WX)
def rdE (f : Fr → DH → Out D) : TE := fun σ H Q => ∃ α δ h, RepH K α H h ∧ RepF K α H σ δ ∧ Post K cls W σ α H (f δ h) fun d α' H' _ => ∀ v, VR K α' H' d v → Q v H'
def rdT (f : Fr → DH → Out Bool) : TT := fun σ H Q => ∃ α δ h, RepH K α H h ∧ RepF K α H σ δ ∧ Post K cls W σ α H (f δ h) fun b _ H' _ => Q b H'
def rdEs (f : Fr → DH → Out (List D)) : TA := fun σ H Q => ∃ α δ h, RepH K α H h ∧ RepF K α H σ δ ∧ Post K cls W σ α H (f δ h) fun ds α' H' _ => ∀ vs, VRs K α' H' ds vs → Q vs H'
/-- a fresh list that nothing else leads to -/
def rdL (f : Fr → DH → Out (List D)) : TE := fun σ H Q => ∃ α δ h, RepH K α H h ∧ RepF K α H σ δ ∧ Post K cls W σ α H (f δ h) fun ds α' H' _ =>
  ∀ p vs, H p = none → p ∉ α' → H' p = some (.lst vs) → VRs K α' H' ds vs → Q (.ref p) H'
def rdO (f : Fr → DH → Out (Option Int)) : TO := fun σ H Q => ∃ α δ h, RepH K α H h ∧ RepF K α H σ δ ∧ Post K cls W σ α H (f δ h) fun o _ H' _ => Q o H'
/-- a target: the value is given by what stands for it -/
def rdG (is : List Nat) (f : D → Fr → DH → Out Fr) : TG := fun v σ H Q => ∃ α δ h d, RepH K α H h ∧ RepF K α H σ δ ∧ VR K α H d v ∧ Post K cls W σ α H (f d δ h) fun δ' α' H' _ => ∀ σ', RepF K α' H' σ' δ' → Agree is σ σ' → Q σ' H'
def rdGs (is : List Nat) (f : List D → Fr → DH → Out Fr) : TGs := fun vs σ H Q => ∃ α δ h ds, RepH K α H h ∧ RepF K α H σ δ ∧ VRs K α H ds vs ∧ Post K cls W σ α H (f ds δ h) fun δ' α' H' _ => ∀ σ', RepF K α' H' σ' δ' → Agree is σ σ' → Q σ' H'
def PostS (α : List Addr) (H : Hp) (o : SO) (D : Ends) : Prop := match o with
  | .nx δ' h' => ∀ α' σ' H', Ext α H α' H' → RepH K α' H' h' → RepF K α' H' σ' δ' → D.nx σ' H'
  | .rt d h' => ∀ α' H' v, Ext α H α' H' → RepH K α' H' h' → VR K α' H' d v → D.rt v H'
  | .brk δ' h' => ∀ α' σ' H', Ext α H α' H' → RepH K α' H' h' → RepF K α' H' σ' δ' → D.bk σ' H'
  | .cnt δ' h' => ∀ α' σ' H', Ext α H α' H' → RepH K α' H' h' → RepF K α' H' σ' δ' → D.ct σ' H'
  | .exc c fs δ' h' => ∀ α' σ' H' cv dd, Ext α H α' H' → RepH K α' H' h' → RepF K α' H' σ' δ' → XR K cls c fs α' H' cv dd → W cv dd σ' H'
  | .bad => False
def rdS (f : Fr → DH → SO) : TS := fun D σ H => ∃ α δ h, RepH K α H h ∧ RepF K α H σ δ ∧ PostS K cls W α H (f δ h) D
end
end FD

set_option Elab.async false
set_option linter.all false
set_option maxRecDepth 100000
set_option maxHeartbeats 1000000
/-! The D layer, 2b: dicts. -/
namespace FD
open PySem PySem.Spec PyProof.Rows L2
section
variable {K : PySem.W.Frag} {α α1 : List Addr} {H H1 : Hp} {h : DH} {X : Cx}
/-- something or nothing -/
def OVR (K : PySem.W.Frag) (α : List Addr) (H : Hp) : Option D → Option V → Prop
  | none, o => o = none
  | some d, o => ∃ v, o = some v ∧ VR K α H d v
section
variable {κ κ' : Type} [DecidableEq κ] [DecidableEq κ']
theorem dval_vr {f : κ' → κ} (inj : ∀ a b, f a = f b → a = b) {k : κ'} : ∀ {kvs : List (κ' × D)} {ws : List (κ × V)}, ws.map (·.1) = kvs.map (fun p => f p.1) → VRs K α H (kvs.map (·.2)) (ws.map (·.2)) →
    OVR K α H (dval kvs k) (valV ws (f k))
  | [], [], _, _ => rfl
  | [], w :: ws, e, _ => by simp at e
  | p :: kvs, [], e, _ => by simp at e
  | p :: kvs, w :: ws, e, hv => by
    simp only [List.map_cons, List.cons.injEq] at e
    simp only [List.map_cons] at hv
    unfold VRs at hv
    obtain ⟨v, r, e2, h1, h2⟩ := hv
    cases e2
    by_cases q : p.1 = k
    · have q' : w.1 = f k := by rw [e.1, q]
      rw [valV_pos q', show dval (p :: kvs) k = some p.2 by simp [dval, List.find?_cons, q]]
      exact ⟨_, rfl, h1⟩
    · have q' : ¬ w.1 = f k := by rw [e.1]; exact fun z => q (inj _ _ z)
      rw [valV_neg q', show dval (p :: kvs) k = dval kvs k by simp [dval, List.find?_cons, q]]
      exact dval_vr inj e.2 h2
end
/-- pairs -/
def KVR (K : PySem.W.Frag) (α : List Addr) (H : Hp) {κ κ' : Type} (f : κ' → κ) (kvs : List (κ' × D)) (ws : List (κ × V)) : Prop :=
  ws.map (·.1) = kvs.map (fun p => f p.1) ∧ VRs K α H (kvs.map (·.2)) (ws.map (·.2))
section
variable {κ κ' : Type} [DecidableEq κ] [DecidableEq κ'] {f : κ' → κ}
theorem KVR.nil : KVR K α H f ([] : List (κ' × D)) ([] : List (κ × V)) := ⟨rfl, rfl⟩
theorem KVR.uncons {p : κ' × D} {kvs : List (κ' × D)} {ws : List (κ × V)} (h : KVR K α H f (p :: kvs) ws) : ∃ w r, ws = w :: r ∧ w.1 = f p.1 ∧ VR K α H p.2 w.2 ∧ KVR K α H f kvs r := by
  obtain ⟨e, hv⟩ := h
  cases ws with
  | nil => simp at e
  | cons w r =>
    simp only [List.map_cons, List.cons.injEq] at e
    simp only [List.map_cons] at hv
    unfold VRs at hv
    obtain ⟨v, r', e2, h1, h2⟩ := hv
    cases e2
    exact ⟨w, r, rfl, e.1, h1, e.2, h2⟩
theorem KVR.cons {p : κ' × D} {w : κ × V} {kvs : List (κ' × D)} {ws : List (κ × V)} (e : w.1 = f p.1) (hv : VR K α H p.2 w.2) (h : KVR K α H f kvs ws) : KVR K α H f (p :: kvs) (w :: ws) :=
  ⟨by simp only [List.map_cons, e, h.1], w.2, ws.map (·.2), rfl, hv, h.2⟩
theorem KVR.append {kvs js : List (κ' × D)} {ws us : List (κ × V)} (h : KVR K α H f kvs ws) (h' : KVR K α H f js us) : KVR K α H f (kvs ++ js) (ws ++ us) :=
  ⟨by simp only [List.map_append, h.1, h'.1], by simp only [List.map_append]; exact h.2.append h'.2⟩
theorem KVR.any (inj : ∀ a b, f a = f b → a = b) {k : κ'} : ∀ {kvs : List (κ' × D)} {ws : List (κ × V)}, KVR K α H f kvs ws → (ws.any fun kv => decide (kv.1 = f k)) = kvs.any fun kv => decide (kv.1 = k)
  | [], ws, h => by
    have : ws = [] := by have := h.1; simpa using this
    subst this; rfl
  | p :: kvs, ws, h => by
    obtain ⟨w, r, rfl, e, _, h2⟩ := h.uncons
    simp only [List.any_cons]
    rw [KVR.any inj h2, e]
    congr 1
    rw [decide_eq_decide]
    exact ⟨inj _ _, fun z => by rw [z]⟩
theorem KVR.repl (inj : ∀ a b, f a = f b → a = b) {k : κ'} {d : D} {v : V} (hd : VR K α H d v) : ∀ {kvs : List (κ' × D)} {ws : List (κ × V)}, KVR K α H f kvs ws →
    KVR K α H f (kvs.map fun kv => if kv.1 = k then (kv.1, d) else kv) (ws.map fun kv => if kv.1 = f k then (kv.1, v) else kv)
  | [], ws, h => by
    have : ws = [] := by have := h.1; simpa using this
    subst this; exact KVR.nil
  | p :: kvs, ws, h => by
    obtain ⟨w, r, rfl, e, h1, h2⟩ := h.uncons
    simp only [List.map_cons]
    by_cases z : p.1 = k
    · rw [if_pos z, if_pos (by rw [e, z])]
      exact KVR.cons e hd (KVR.repl inj hd h2)
    · rw [if_neg z, if_neg (by rw [e]; exact fun y => z (inj _ _ y))]
      exact KVR.cons e h1 (KVR.repl inj hd h2)
theorem KVR.put (inj : ∀ a b, f a = f b → a = b) {k : κ'} {d : D} {v : V} (hd : VR K α H d v) {kvs : List (κ' × D)} {ws : List (κ × V)} (h : KVR K α H f kvs ws) : KVR K α H f (dput kvs k d) (putK ws (f k) v) := by
  unfold dput putK
  rw [h.any inj]
  split
  · exact h.repl inj hd
  · exact h.append (KVR.cons rfl hd KVR.nil)
theorem KVR.length {kvs : List (κ' × D)} {ws : List (κ × V)} (h : KVR K α H f kvs ws) : ws.length = kvs.length := by
  have := congrArg List.length h.1
  simpa using this
end
/-- the pairs of a display -/
theorem KVR.disp : ∀ {ks : List DK} {ds : List D} {vs : List V} {kvs : List (DK × D)} {ws : List (Key × V)}, VRs K α H ds vs → KVR K α H toK kvs ws → 
    KVR K α H toK ((ks.zip ds).foldl (fun acc kv => dput acc kv.1 kv.2) kvs) (mergeK ws ((ks.map toK).zip vs))
  | [], ds, vs, kvs, ws, _, h => h
  | k :: ks, [], vs, kvs, ws, hv, h => by unfold VRs at hv; subst hv; exact h
  | k :: ks, d :: ds, vs, kvs, ws, hv, h => by
    unfold VRs at hv
    obtain ⟨v, r, rfl, h1, h2⟩ := hv
    exact KVR.disp (ks := ks) h2 (h.put (fun _ _ z => toK_inj z) h1)
theorem keyOf_vr {d : D} {k : DK} {v : V} (hv : VR K α H d v) (e : keyOf d = some k) : v = kV (toK k) := by
  cases d <;> simp only [keyOf] at e <;> cases e
  · exact hv
  · exact hv
/-- what the dict at n holds -/
theorem dget_vr (rp : RepH K α H h) {n : Nat} {y : D} {x v : V} {o : Option D} (hx : VR K α H (.ref n) x) (hy : VR K α H y v) (e : dgetD h n y = some o) :
    ∃ a, x = .ref a ∧ IsD H a ∧ ∃ ov, DGet H a v ov ∧ OVR K α H o ov := by
  unfold dgetD at e
  split at e
  · rename_i kvs hl
    obtain ⟨k, hk, rfl⟩ := Option.map_eq_some_iff.mp e
    obtain ⟨a, ha, hxa⟩ := hx
    obtain ⟨b, hb, ws, h1, h2, h3⟩ := rp.ob n _ hl
    rw [ha] at hb; cases hb
    rw [keyOf_vr hy hk]
    refine ⟨a, hxa, .inl ⟨_, .inl h1⟩, _, DGet.k h1, ?_⟩
    exact dval_vr (fun _ _ z => toK_inj z) h2 h3
  · cases e
theorem isDic_vr (rp : RepH K α H h) {d : D} {x : V} (hx : VR K α H d x) (e : isDic h d = true) : ∃ n a, d = .ref n ∧ x = .ref a ∧ IsD H a := by
  unfold isDic at e
  split at e
  · rename_i n
    split at e
    · rename_i kvs hl
      obtain ⟨a, ha, hxa⟩ := hx
      obtain ⟨b, hb, ws, h1, h2, h3⟩ := rp.ob n _ hl
      rw [ha] at hb; cases hb
      exact ⟨n, a, rfl, hxa, .inl ⟨_, .inl h1⟩⟩
    · cases e
  · cases e
theorem OVR.getD {o : Option D} {ov : Option V} {z : D} {w : V} (h : OVR K α H o ov) (hz : VR K α H z w) : VR K α H (o.getD z) (ov.getD w) := by
  cases o with
  | none => unfold OVR at h; subst h; exact hz
  | some d => obtain ⟨v, rfl, q⟩ := h; exact q
/-- d[y] -/
def rIxDg : R2 := fun x y H Q => ∃ a v, x = .ref a ∧ DGet H a y (some v) ∧ Q v H
theorem ix_dict (hu : X.A.units + 1 < cLine) : IxR X rIxDg := by
  intro value slice pins s σ H x y v u Q I rx ry h hs
  obtain ⟨a, r, rfl, g, q⟩ := h
  obtain rfl : v = Value.ref a := rx
  exact tail_any (dict_typeIs I g) slot_dict_getitem.lookup (d_getItem hu I g ry fun w' s' I' rw' => ⟨r, H, I', rw', q⟩) hs
theorem OVR.isSome {o : Option D} {ov : Option V} (h : OVR K α H o ov) : ov.isSome = o.isSome := by
  cases o with
  | none => unfold OVR at h; subst h; rfl
  | some d => obtain ⟨v, rfl, _⟩ := h; rfl
def rInDg (b : Bool) : R2 := fun y x H Q => ∃ a o, x = .ref a ∧ DGet H a y o ∧ Q (.bl (b == o.isSome)) H
theorem op_in_dict (hu : X.A.units + 1 < cLine) : OpR X (compareOp .In) (rInDg true) := by
  intro pins s σ H y x v u Q I ry rx h
  obtain ⟨a, o, rfl, g, q⟩ := h
  obtain rfl : u = Value.ref a := rx
  exact d_in hu I g ry fun s' I' => ⟨_, H, I', by cases o <;> rfl, q⟩
theorem op_notin_dict (hu : X.A.units + 1 < cLine) : OpR X (compareOp .NotIn) (rInDg false) := by
  intro pins s σ H y x v u Q I ry rx h
  obtain ⟨a, o, rfl, g, q⟩ := h
  obtain rfl : u = Value.ref a := rx
  exact d_notIn hu I g ry fun s' I' => ⟨_, H, I', by cases o <;> rfl, q⟩
end
end FD

set_option Elab.async false
set_option linter.all false
set_option maxRecDepth 100000
set_option maxHeartbeats 1000000
/-! The D layer, 3: operations on values. -/
namespace FD
open PySem PySem.Spec PyProof.Rows L2

section
variable {K : PySem.W.Frag} {α α1 : List Addr} {H H1 : Hp} {h : DH} {X : Cx}
/-! ### inversion -/
theorem vr_non {v : V} (h : VR K α H .non v) : v = .non := h
theorem vr_bl {b : Bool} {v : V} (h : VR K α H (.bl b) v) : v = .bl b := h
theorem vr_int {i : Int} {v : V} (h : VR K α H (.int i) v) : v = .int i := h
theorem vr_str {s : List Nat} {v : V} (h : VR K α H (.str s) v) : v = .str (toS s) := h
theorem vr_tup {xs : List D} {v : V} (h : VR K α H (.tup xs) v) : ∃ a vs, v = .ref a ∧ SqT K H a vs ∧ VRs K α H xs vs := h
theorem vr_fl {xs : List D} {v : V} (h : VR K α H (.fl xs) v) : ∃ a vs, v = .ref a ∧ FzL K H a vs ∧ VRs K α H xs vs := h
theorem vr_ref {n : Nat} {v : V} (h : VR K α H (.ref n) v) : ∃ a, α[n]? = some a ∧ v = .ref a := h
theorem RepH.ref (r : RepH K α H h) {n : Nat} {v : V} (hv : VR K α H (.ref n) v) {xs : List D} (q : h[n]? = some (.lst xs)) : ∃ a vs, α[n]? = some a ∧ v = .ref a ∧ H a = some (.lst vs) ∧ VRs K α H xs vs := by
  obtain ⟨a, h1, rfl⟩ := vr_ref hv
  obtain ⟨b, vs, h2, h3, h4⟩ := r.list q
  rw [h1] at h2; cases h2
  exact ⟨a, vs, h1, rfl, h3, h4⟩
theorem lget_some {n : Nat} {xs : List D} (q : lget h n = some xs) : h[n]? = some (.lst xs) := by
  unfold lget at q
  split at q
  · rename_i e; cases q; exact e
  · cases q

/-! ### data -/
mutual
def toPy : D → PyData
  | .non => .none
  | .bl b => .bool b
  | .int i => .int i
  | .str s => .str (toS s)
  | .tup xs => .tuple (toPys xs)
  | .ref _ | .fl _ => .none
def toPys : List D → List PyData
  | [] => []
  | x :: xs => toPy x :: toPys xs
end
mutual
theorem dp_of : ∀ (n : Nat) (d : D) (v : V), D.shp n d = true → VR K α H d v → Dp K H v (toPy d)
  | _, .non, v, _, h => by rw [vr_non h]; exact .non
  | _, .bl b, v, _, h => by rw [vr_bl h]; exact .bl b
  | _, .int i, v, _, h => by rw [vr_int h]; exact .int i
  | _, .str s, v, _, h => by rw [vr_str h]; exact .str _
  | 0, .tup xs, v, s, _ => by simp [D.shp] at s
  | n + 1, .tup xs, v, s, h => by
    obtain ⟨a, vs, rfl, h1, h2⟩ := vr_tup h
    exact .tup h1 (dps_of n xs vs (by simpa [D.shp] using s) h2)
  | _, .ref _, v, s, _ => by simp [D.shp] at s
  | _, .fl _, v, s, _ => by simp [D.shp] at s
theorem dps_of : ∀ (n : Nat) (ds : List D) (vs : List V), D.shps n ds = true → VRs K α H ds vs → DpAll K H vs (toPys ds)
  | _, [], vs, _, h => by unfold VRs at h; subst h; exact .nil
  | n, x :: xs, vs, s, h => by
    unfold VRs at h
    obtain ⟨v, r, rfl, h1, h2⟩ := h
    simp only [D.shps, Bool.and_eq_true] at s
    exact .cons (dp_of n x v s.1 h1) (dps_of n xs r s.2 h2)
end
mutual
theorem can_of : ∀ (n : Nat) (d : D), D.shp n d = true → (toPy d).canLay0 = true ∧ (toPy d).depth ≤ n
  | _, .non, _ => by simp [toPy, PyData.canLay0, PyData.depth]
  | _, .bl b, _ => by simp [toPy, PyData.canLay0, PyData.depth]
  | _, .int i, _ => by simp [toPy, PyData.canLay0, PyData.depth]
  | _, .str s, h => by
    simp only [D.shp] at h
    refine ⟨?_, by simp [toPy, PyData.depth]⟩
    simp only [toPy, PyData.canLay0, PyData.strOk, toS]
    simpa using h
  | 0, .tup xs, s => by simp [D.shp] at s
  | n + 1, .tup xs, s => by
    have := cans_of n xs (by simpa [D.shp] using s)
    simp only [toPy, PyData.canLay0, PyData.depth]
    exact ⟨this.1, Nat.succ_le_succ this.2⟩
  | _, .ref _, s => by simp [D.shp] at s
  | _, .fl _, s => by simp [D.shp] at s
theorem cans_of : ∀ (n : Nat) (ds : List D), D.shps n ds = true → PyData.canLayAll0 (toPys ds) = true ∧ PyData.depthAll (toPys ds) ≤ n
  | _, [], _ => by simp [toPys, PyData.canLayAll0, PyData.depthAll]
  | n, x :: xs, s => by
    simp only [D.shps, Bool.and_eq_true] at s
    have h1 := can_of n x s.1
    have h2 := cans_of n xs s.2
    simp only [toPys, PyData.canLayAll0, PyData.depthAll, Bool.and_eq_true]
    exact ⟨⟨h1.1, h2.1⟩, Nat.max_le.mpr ⟨h1.2, h2.2⟩⟩
end
theorem shaped_of {n : Nat} {d : D} (hn : n ≤ 64) (h : D.shp n d = true) : SeqAt.shaped (toPy d) = true := by
  have := can_of n d h
  unfold SeqAt.shaped
  simp only [this.1, Bool.true_and, decide_eq_true_eq]
  omega
theorem str_beq {s t : List Nat} : (toS s == toS t) = (s == t) := by
  rw [Bool.eq_iff_iff]
  simp only [beq_iff_eq]
  exact ⟨toS_inj, fun e => by rw [e]⟩
mutual
theorem eqv_py : ∀ (d e : D) (n m : Nat), D.shp n d = true → D.shp m e = true → PyData.eqv (toPy d) (toPy e) = D.eqv d e
  | .non, e, n, m, h1, h2 => by cases e <;> simp_all [toPy, PyData.eqv, D.eqv, D.shp]
  | .bl a, e, n, m, h1, h2 => by cases e <;> simp_all [toPy, PyData.eqv, D.eqv, D.shp]
  | .int a, e, n, m, h1, h2 => by cases e <;> simp_all [toPy, PyData.eqv, D.eqv, D.shp]
  | .str s, e, n, m, h1, h2 => by
    cases e with
    | str t => simp only [toPy, PyData.eqv, D.eqv]; exact str_beq
    | _ => simp_all [toPy, PyData.eqv, D.eqv, D.shp]
  | .tup xs, e, n, m, h1, h2 => by
    cases e with
    | tup ys =>
      cases n with
      | zero => simp [D.shp] at h1
      | succ n =>
        cases m with
        | zero => simp [D.shp] at h2
        | succ m =>
          simp only [toPy, PyData.eqv, D.eqv]
          exact eqvs_py xs ys n m (by simpa [D.shp] using h1) (by simpa [D.shp] using h2)
    | _ => simp_all [toPy, PyData.eqv, D.eqv, D.shp]
  | .ref _, _, _, _, h1, _ => by simp [D.shp] at h1
  | .fl _, _, _, _, h1, _ => by simp [D.shp] at h1
theorem eqvs_py : ∀ (ds es : List D) (n m : Nat), D.shps n ds = true → D.shps m es = true → PyData.eqvAll (toPys ds) (toPys es) = D.eqvs ds es
  | [], [], _, _, _, _ => by simp [toPys, PyData.eqvAll, D.eqvs]
  | [], _ :: _, _, _, _, _ => by simp [toPys, PyData.eqvAll, D.eqvs]
  | _ :: _, [], _, _, _, _ => by simp [toPys, PyData.eqvAll, D.eqvs]
  | x :: xs, y :: ys, n, m, h1, h2 => by
    simp only [D.shps, Bool.and_eq_true] at h1 h2
    simp only [toPys, PyData.eqvAll, D.eqvs]
    rw [eqv_py x y n m h1.1 h2.1, eqvs_py xs ys n m h1.2 h2.2]
end

/-! ### operators -/
/-- what comes of it, without an exception -/
def rD2 (K : PySem.W.Frag) (f : DH → D → D → Out D) : R2 := fun x y H Q => ∃ α h d e r h', RepH K α H h ∧ VR K α H d x ∧ VR K α H e y ∧ f h d e = .ok r h' ∧
  ∀ α' H', Ext α H α' H' → RepH K α' H' h' → ∀ v, VR K α' H' r v → Q v H'
def toOp : BOp → Operator
  | .add => .Add | .sub => .Sub | .mul => .Mult | .fdiv => .FloorDiv | .mod => .Mod | .pow => .Pow
def toCmp : COp → CmpOp
  | .eq => .Eq | .ne => .NotEq | .lt => .Lt | .le => .LtE | .gt => .Gt | .ge => .GtE | .in_ => .In | .nin => .NotIn
theorem OpR.imp {f : Value → Value → Sem Value} {r r' : R2} (h : OpR X f r) (i : ∀ x y H Q, r' x y H Q → r x y H Q) : OpR X f r' := fun pins s σ H x y v u Q I rx ry q => h pins s σ H x y v u Q I rx ry (i _ _ _ _ q)
/-- a rule by cases: where it holds at each point -/
theorem OpR.at {f : Value → Value → Sem Value} {r' : R2} (h : ∀ x y H Q, r' x y H Q → ∃ r, OpR X f r ∧ r x y H Q) : OpR X f r' := fun pins s σ H x y v u Q I rx ry q => by
  obtain ⟨r, h1, h2⟩ := h _ _ _ _ q
  exact h1 pins s σ H x y v u Q I rx ry h2
theorem imod {X : Cx} : OpR X (binaryOp .Mod) (rI (fun _ j => j ≠ 0) fun i j => .int (i.fmod j)) := op_modN
theorem two_big {i : Int} (h : -big < i ∧ i < big) : -(2 ^ 64) < i ∧ i < 2 ^ 64 := by
  have e : (2 : Int) ^ 64 = big := by decide
  rw [e]; exact h
/-- the end of an operation that leaves the heap -/
theorem fin0 {r : D} {h' : DH} {Q : VK} {v : V} (q : ∀ α' H', Ext α H α' H' → RepH K α' H' h' → ∀ v, VR K α' H' r v → Q v H') (rp : RepH K α H h') (hv : VR K α H r v) : Q v H := q α H Ext.refl rp v hv
/-- .. and of one that lays a list -/
theorem fin1 {h' : DH} {zs : List D} {Q : VK} {vs : List V} {p : Addr} (q : ∀ α' H', Ext α H α' H' → RepH K α' H' (h' ++ [.lst zs]) → ∀ v, VR K α' H' (.ref h'.length) v → Q v H') (rp : RepH K α H h') (hp : H p = none) (hv : VRs K α H zs vs) : Q (.ref p) (upd H p (.lst vs)) := by
  have hn := rp.free hp
  have e1 : Ext α H α (upd H p (.lst vs)) := Ext.laid hp
  refine q (α ++ [p]) _ (e1.take hp hn) ((rp.laid hp).add hn ⟨vs, upd_same, hv.ext e1⟩) _ ⟨p, ?_, rfl⟩
  rw [← rp.len]; simp
/-! ### a text many times -/
theorem op_repS : OpR X (binaryOp .Mult) (fun x y H Q => ∃ (a : Str) (n : Int), x = .str a ∧ y = .int n ∧ MulOk a n ∧ Q (.str (Txt.mul a n)) H) := by
  rintro pins s σ H x y v u Q I rx ry ⟨a, n, rfl, rfl, hok, q⟩
  obtain ⟨t, rfl⟩ := rx
  obtain ⟨t', rfl⟩ := ry
  exact SB.mul hok fun t2 k => ⟨.str _, H, I.tok _, ⟨_, rfl⟩, q⟩
theorem foldl_app : ∀ (k : Nat) (s : List Nat) (acc : Array Nat), ((List.replicate k s.toArray).foldl (· ++ ·) acc).toList = acc.toList ++ (List.replicate k s).flatten
  | 0, s, acc => by simp
  | k + 1, s, acc => by
    rw [List.replicate_succ, List.foldl_cons, foldl_app k s]
    simp [List.replicate_succ]
theorem mul_eq {s : List Nat} {n : Int} (h0 : 0 ≤ n) : Txt.mul (toS s) n = toS (repS s n.toNat) := by
  obtain ⟨k, rfl⟩ := Int.eq_ofNat_of_zero_le h0
  unfold Txt.mul
  by_cases h1 : (k : Int) < 1
  · rw [if_pos h1]
    have : k = 0 := by omega
    subst this
    rfl
  · rw [if_neg h1]
    split
    · rename_i h2
      simp only [Bool.or_eq_true, beq_iff_eq] at h2
      rcases h2 with h2 | h2
      · have : k = 1 := by omega
        subst this
        simp [repS]
      · rw [toS_length] at h2
        have : s = [] := List.length_eq_zero_iff.mp h2
        subst this
        simp [repS, toS]
    · show (⟨_⟩ : Str) = ⟨_⟩
      congr 1
      apply Array.toList_inj.mp
      have := foldl_app k s #[]
      simpa [repS] using this
theorem mulOk {s : List Nat} {n : Int} (h : 0 ≤ n ∧ s.length * n.toNat ≤ SL ∧ n ≤ SL) : MulOk (toS s) n := by
  obtain ⟨h0, h1, h2⟩ := h
  have hS : ((SL : Nat) : Int) = 16777216 := rfl
  refine ⟨?_, fun a b => ?_, fun a b => ?_⟩
  · simp only [Bool.or_eq_false_iff, decide_eq_false_iff_not]
    omega
  · rw [toS_length]
    obtain ⟨k, rfl⟩ := Int.eq_ofNat_of_zero_le h0
    have hk : (0 : Int) < (k : Int) := by omega
    have h3 : ((s.length * k : Nat) : Int) ≤ 16777216 := by rw [← hS]; exact_mod_cast h1
    intro z
    have h4 := Int.lt_mul_of_ediv_lt hk z
    rw [← Int.natCast_mul] at h4
    omega
  · refine decide_eq_false ?_
    show ¬ ((toS s).length * n.toNat > sizeLine)
    rw [toS_length, SL_eq]
    omega
theorem bin_ok : ∀ o : BOp, OpR X (binaryOp (toOp o)) (rD2 X.K fun h => binD h o)
  | .add => OpR.at fun x y H Q q => by
    obtain ⟨α, h, d, e, r, h', rp, hd, he, hf, q⟩ := q
    cases d <;> cases e <;> simp only [binD] at hf <;> try contradiction
    · cases hf
      rw [vr_int hd, vr_int he]
      exact ⟨_, op_add, _, _, rfl, rfl, fin0 q rp rfl⟩
    · rename_i a b
      split at hf
      · cases hf
        rename_i hz
        rw [vr_str hd, vr_str he]
        refine ⟨_, op_add_str, _, _, rfl, rfl, by rw [toS_length, toS_length, SL_eq]; exact hz, fin0 q rp ?_⟩
        show V.str _ = V.str _
        congr 1
        simp only [toS]
        show Str.append _ _ = _
        simp [Str.append]
      · cases hf
    · rename_i xs ys
      split at hf
      · rename_i hz
        cases hf
        obtain ⟨a, vs, rfl, h1, h2⟩ := vr_tup hd
        obtain ⟨b, us, rfl, h3, h4⟩ := vr_tup he
        refine ⟨_, op_catA, a, b, vs, us, rfl, rfl, h1, h3, by rw [h2.length, h4.length, SL_eq]; exact hz, fun z => ?_, fun _ z => ?_, fun _ _ p hp => ?_⟩
        · have hl := h2.length
          rw [z] at hl
          have : xs = [] := List.length_eq_zero_iff.mp hl.symm
          subst this
          exact fin0 q rp ⟨b, us, rfl, h3, h4⟩
        · have hl := h4.length
          rw [z] at hl
          have : ys = [] := List.length_eq_zero_iff.mp hl.symm
          subst this
          rw [List.append_nil] at q
          exact fin0 q rp ⟨a, vs, rfl, h1, h2⟩
        · have e2 : Ext α H α (upd H p (.tup (vs ++ us))) := Ext.laid hp
          exact q α _ e2 (rp.laid hp) _ ⟨p, _, rfl, .inl (.inl upd_same), (h2.append h4).ext e2⟩
      · cases hf
    · rename_i n m
      split at hf
      · rename_i a b ha hb
        split at hf
        · rename_i hz
          cases hf
          obtain ⟨p, vs, h1, rfl, h2, h3⟩ := rp.ref hd (lget_some ha)
          obtain ⟨p', vs', h1', rfl, h2', h3'⟩ := rp.ref he (lget_some hb)
          exact ⟨_, op_cat, _, _, _, _, rfl, rfl, h2, h2', by rw [h3.length, h3'.length, SL_eq]; exact hz, fun l hl => fin1 q rp hl (h3.append h3')⟩
        · cases hf
      · cases hf
  | .sub => OpR.at fun x y H Q q => by
    obtain ⟨α, h, d, e, r, h', rp, hd, he, hf, q⟩ := q
    cases d <;> cases e <;> simp only [binD] at hf <;> try contradiction
    cases hf
    rw [vr_int hd, vr_int he]
    exact ⟨_, op_sub, _, _, rfl, rfl, fin0 q rp rfl⟩
  | .mul => OpR.at fun x y H Q q => by
    obtain ⟨α, h, d, e, r, h', rp, hd, he, hf, q⟩ := q
    cases d <;> cases e <;> simp only [binD] at hf <;> try contradiction
    · split at hf
      · rename_i hz
        cases hf
        rw [vr_int hd, vr_int he]
        exact ⟨_, op_mul, _, _, rfl, rfl, hz.imp two_big two_big, fin0 q rp rfl⟩
      · cases hf
    · split at hf
      · rename_i hz
        cases hf
        rw [vr_str hd, vr_int he]
        exact ⟨_, op_repS, _, _, rfl, rfl, mulOk hz, fin0 q rp (by show V.str _ = V.str _; rw [mul_eq hz.1])⟩
      · cases hf
  | .fdiv => OpR.at fun x y H Q q => by
    obtain ⟨α, h, d, e, r, h', rp, hd, he, hf, q⟩ := q
    cases d <;> cases e <;> simp only [binD] at hf <;> try contradiction
    split at hf
    · rename_i hz
      cases hf
      rw [vr_int hd, vr_int he]
      exact ⟨_, op_fdivN, _, _, rfl, rfl, hz, fin0 q rp rfl⟩
    · cases hf
  | .mod => OpR.at fun x y H Q q => by
    obtain ⟨α, h, d, e, r, h', rp, hd, he, hf, q⟩ := q
    cases d <;> cases e <;> simp only [binD] at hf <;> try contradiction
    split at hf
    · rename_i hz
      cases hf
      rw [vr_int hd, vr_int he]
      exact ⟨_, imod, _, _, rfl, rfl, hz, fin0 q rp rfl⟩
    · cases hf
  | .pow => OpR.at fun x y H Q q => by
    obtain ⟨α, h, d, e, r, h', rp, hd, he, hf, q⟩ := q
    cases d <;> cases e <;> simp only [binD] at hf <;> try contradiction
    split at hf
    · rename_i hz
      cases hf
      rw [vr_int hd, vr_int he]
      exact ⟨_, op_pow, _, _, rfl, rfl, ⟨hz.1, hz.2.1, by have := hz.2.2; omega⟩, fin0 q rp rfl⟩
    · cases hf
/-! ### comparisons -/
/-- a value without a heap's change -/
def rB2 (K : PySem.W.Frag) (f : DH → D → D → Option Bool) : R2 := fun x y H Q => ∃ α h d e b, RepH K α H h ∧ VR K α H d x ∧ VR K α H e y ∧ f h d e = some b ∧ Q (.bl b) H
theorem toS_nil : toS [] = (⟨#[]⟩ : Str) := rfl
theorem scal_vr {d e : D} {x y : V} (hs : D.scal d e = true) (hd : VR K α H d x) (he : VR K α H e y) : scal x y = true ∧ decide (x = y) = D.eqv d e := by
  cases d <;> cases e <;> (try (simp [D.scal] at hs; done)) <;> (unfold VR at hd he; subst hd he) <;> refine ⟨rfl, ?_⟩ <;> (try simp [D.eqv])
  · rename_i a b; rw [Bool.eq_iff_iff]; simp
  · rename_i a b; rw [Bool.eq_iff_iff]; simp
  · rename_i a b
    rw [Bool.eq_iff_iff]; simp
theorem shaped_lst {xs : List PyData} (s : PyData.canLayAll0 xs = true ∧ PyData.depthAll xs ≤ 63) : SeqAt.shaped (.list xs) = true := by
  have e1 : (PyData.list xs).canLay0 = true := by simp only [PyData.canLay0]; exact s.1
  have e2 : (PyData.list xs).depth ≤ 64 := by simp only [PyData.depth]; exact Nat.succ_le_succ s.2
  unfold SeqAt.shaped
  rw [e1, decide_eq_true e2]
  rfl
theorem lst_eq {xs ys : List D} : D.eqvs xs ys = D.eqv (.tup xs) (.tup ys) := by simp [D.eqv]
theorem eq_ok (hu : X.A.units + 64 < cLine) : OpR X (compareOp .Eq) (rB2 X.K eqD) := OpR.at fun x y H Q q => by
  obtain ⟨α, h, d, e, b, rp, hd, he, hf, q⟩ := q
  unfold eqD at hf
  split at hf
  · rename_i n m
    split at hf
    · rename_i xs ys h1 h2
      split at hf
      · rename_i hs
        cases hf
        simp only [Bool.and_eq_true] at hs
        obtain ⟨p, vs, _, rfl, g2, g3⟩ := rp.ref hd h1
        obtain ⟨p', vs', _, rfl, g2', g3'⟩ := rp.ref he h2
        have s1 := cans_of 63 xs hs.1
        have s2 := cans_of 63 ys hs.2
        refine ⟨_, op_eqD hu, .list (toPys xs), .list (toPys ys), .lst (SqL.of g2) (dps_of 63 _ _ hs.1 g3), .lst (SqL.of g2') (dps_of 63 _ _ hs.2 g3'), ?_, ?_, ?_⟩
        · exact shaped_lst s1
        · exact shaped_lst s2
        · simp only [PyData.eqv]; rw [eqvs_py _ _ 63 63 hs.1 hs.2]; exact q
      · cases hf
    · cases hf
  · cases hf
  · cases hf
  · split at hf
    · rename_i hs
      cases hf
      by_cases hc : D.scal d e = true
      · obtain ⟨z1, z2⟩ := scal_vr hc hd he
        exact ⟨_, op_eq, z1, by rw [z2]; exact q⟩
      · have hs' : D.shp 64 d = true ∧ D.shp 64 e = true := by simpa [hc] using hs
        exact ⟨_, op_eqD hu, _, _, dp_of 64 _ _ hs'.1 hd, dp_of 64 _ _ hs'.2 he, shaped_of (Nat.le_refl _) hs'.1, shaped_of (Nat.le_refl _) hs'.2, by rw [eqv_py _ _ 64 64 hs'.1 hs'.2]; exact q⟩
    · cases hf
theorem ne_ok (hu : X.A.units + 64 < cLine) : OpR X (compareOp .NotEq) (rB2 X.K fun h d e => (eqD h d e).map (!·)) := OpR.at fun x y H Q q => by
  obtain ⟨α, h, d, e, b, rp, hd, he, hf, q⟩ := q
  obtain ⟨c, hf0, rfl⟩ := Option.map_eq_some_iff.mp hf
  clear hf
  have hf := hf0
  clear hf0
  unfold eqD at hf
  split at hf
  · rename_i n m
    split at hf
    · rename_i xs ys h1 h2
      split at hf
      · rename_i hs
        cases hf
        simp only [Bool.and_eq_true] at hs
        obtain ⟨p, vs, _, rfl, g2, g3⟩ := rp.ref hd h1
        obtain ⟨p', vs', _, rfl, g2', g3'⟩ := rp.ref he h2
        have s1 := cans_of 63 xs hs.1
        have s2 := cans_of 63 ys hs.2
        refine ⟨_, op_neD hu, .list (toPys xs), .list (toPys ys), .lst (SqL.of g2) (dps_of 63 _ _ hs.1 g3), .lst (SqL.of g2') (dps_of 63 _ _ hs.2 g3'), ?_, ?_, ?_⟩
        · exact shaped_lst s1
        · exact shaped_lst s2
        · simp only [PyData.eqv]; rw [eqvs_py _ _ 63 63 hs.1 hs.2]; exact q
      · cases hf
    · cases hf
  · cases hf
  · cases hf
  · split at hf
    · rename_i hs
      cases hf
      by_cases hc : D.scal d e = true
      · obtain ⟨z1, z2⟩ := scal_vr hc hd he
        exact ⟨_, op_ne, z1, by rw [z2]; exact q⟩
      · have hs' : D.shp 64 d = true ∧ D.shp 64 e = true := by simpa [hc] using hs
        exact ⟨_, op_neD hu, _, _, dp_of 64 _ _ hs'.1 hd, dp_of 64 _ _ hs'.2 he, shaped_of (Nat.le_refl _) hs'.1, shaped_of (Nat.le_refl _) hs'.2, by rw [eqv_py _ _ 64 64 hs'.1 hs'.2]; exact q⟩
    · cases hf
theorem flat_vr {d : D} {v : V} (hf : d.flat = true) (h : VR K α H d v) : flatV v = true := by
  cases d <;> (try (simp [D.flat] at hf; done)) <;> (unfold VR at h; subst h; rfl)
theorem flats_vr : ∀ {ds : List D} {vs : List V}, ds.all D.flat = true → VRs K α H ds vs → vs.all flatV = true
  | [], vs, _, h => by unfold VRs at h; subst h; rfl
  | x :: xs, vs, hf, h => by
    unfold VRs at h
    obtain ⟨v, r, rfl, h1, h2⟩ := h
    simp only [List.all_cons, Bool.and_eq_true] at hf ⊢
    exact ⟨flat_vr hf.1 h1, flats_vr hf.2 h2⟩
theorem eqV_vr {d e : D} {x y : V} (hd' : d.flat = true) (he' : e.flat = true) (hd : VR K α H d x) (he : VR K α H e y) : eqV x y = D.eqv d e := by
  cases d <;> (try (simp [D.flat] at hd'; done)) <;> cases e <;> (try (simp [D.flat] at he'; done)) <;> (unfold VR at hd he; subst hd he) <;> simp [eqV, D.eqv]
  rename_i s t
  exact str_beq
theorem inV_vr {d : D} {x : V} (hd' : d.flat = true) (hd : VR K α H d x) : ∀ {ds : List D} {vs : List V}, ds.all D.flat = true → VRs K α H ds vs → inV x vs = ds.any fun y => D.eqv y d
  | [], vs, _, h => by unfold VRs at h; subst h; rfl
  | y :: ys, vs, hf, h => by
    unfold VRs at h
    obtain ⟨v, r, rfl, h1, h2⟩ := h
    simp only [List.all_cons, Bool.and_eq_true] at hf
    have := inV_vr hd' hd hf.2 h2
    unfold inV at this ⊢
    simp only [List.any_cons]
    rw [this, eqV_vr hf.1 hd' h1 hd]
theorem mem_dec {c : Nat} {s : List Nat} : decide (c ∈ s) = s.contains c := by rw [Bool.eq_iff_iff]; simp
theorem in_nil (s : Str) : (!(Builtin.Str.occurrences s ⟨#[]⟩ 0 s.length 1).isEmpty) = true :=
  (StrLaws.found_iff s ⟨#[]⟩).mpr ⟨0, by simp [Str.length], by simp [Builtin.Str.subAt, Str.length]⟩
theorem in_none (a b : Nat) (r : List Nat) : (!(Builtin.Str.occurrences (toS []) (toS (a :: b :: r)) 0 (toS []).length 1).isEmpty) = false := by
  rw [Bool.eq_false_iff]
  intro z
  obtain ⟨i, hi, _⟩ := (StrLaws.found_iff (toS []) (toS (a :: b :: r))).mp z
  rw [toS_length, toS_length] at hi
  simp at hi
theorem in_ok (hu : X.A.units + 1 < cLine) : OpR X (compareOp .In) (rB2 X.K inD) := OpR.at fun x y H Q q => by
  obtain ⟨α, h, d, e, b, rp, hd, he, hf, q⟩ := q
  unfold inD at hf
  split at hf
  · cases hf
    rw [vr_str hd, vr_str he]
    exact ⟨_, op_in_str, _, _, rfl, rfl, by rw [show toS [] = (⟨#[]⟩ : Str) from rfl, in_nil]; exact q⟩
  · cases hf
    rw [vr_str hd, vr_str he]
    refine ⟨_, op_in_sign, _, _, rfl, rfl, ?_⟩
    rw [toS_list]
    rw [mem_dec]
    exact q
  · cases hf
    rw [vr_str hd, vr_str he]
    exact ⟨_, op_in_str, _, _, rfl, rfl, by rw [in_none]; exact q⟩
  · split at hf
    · rename_i hz
      cases hf
      simp only [Bool.and_eq_true] at hz
      obtain ⟨a, vs, rfl, h1, h2⟩ := vr_tup he
      exact ⟨_, op_in_seq, a, vs, rfl, .inr h1, flat_vr hz.1 hd, flats_vr hz.2 h2, by rw [if_neg (by decide), inV_vr hz.1 hd hz.2 h2]; exact q⟩
    · cases hf
  · split at hf
    · rename_i hl
      split at hf
      · rename_i hz
        cases hf
        simp only [Bool.and_eq_true] at hz
        obtain ⟨a, vs, _, rfl, h1, h2⟩ := rp.ref he (lget_some hl)
        exact ⟨_, op_in_seq, a, vs, rfl, .inl (SqL.of h1), flat_vr hz.1 hd, flats_vr hz.2 h2, by rw [if_neg (by decide), inV_vr hz.1 hd hz.2 h2]; exact q⟩
      · cases hf
    · rename_i hl
      obtain ⟨o, ho, rfl⟩ := Option.map_eq_some_iff.mp hf
      obtain ⟨a, rfl, _, ov, g, ro⟩ := dget_vr rp he hd ho
      exact ⟨_, op_in_dict hu, a, ov, rfl, g, by rw [ro.isSome]; cases o <;> exact q⟩
  · cases hf
theorem nin_ok (hu : X.A.units + 1 < cLine) : OpR X (compareOp .NotIn) (rB2 X.K fun h d e => (inD h d e).map (!·)) := OpR.at fun x y H Q q => by
  obtain ⟨α, h, d, e, b, rp, hd, he, hf, q⟩ := q
  obtain ⟨c, hf0, rfl⟩ := Option.map_eq_some_iff.mp hf
  clear hf
  have hf := hf0
  clear hf0
  unfold inD at hf
  split at hf
  · cases hf
    rw [vr_str hd, vr_str he]
    exact ⟨_, op_notin_str, _, _, rfl, rfl, by rw [show toS [] = (⟨#[]⟩ : Str) from rfl, in_nil]; exact q⟩
  · cases hf
    rw [vr_str hd, vr_str he]
    refine ⟨_, op_notIn_sign, _, _, rfl, rfl, ?_⟩
    rw [toS_list]
    rw [mem_dec]
    exact q
  · cases hf
    rw [vr_str hd, vr_str he]
    exact ⟨_, op_notin_str, _, _, rfl, rfl, by rw [in_none]; exact q⟩
  · split at hf
    · rename_i hz
      cases hf
      simp only [Bool.and_eq_true] at hz
      obtain ⟨a, vs, rfl, h1, h2⟩ := vr_tup he
      exact ⟨_, op_notIn_seq, a, vs, rfl, .inr h1, flat_vr hz.1 hd, flats_vr hz.2 h2, by rw [if_pos rfl, inV_vr hz.1 hd hz.2 h2]; exact q⟩
    · cases hf
  · split at hf
    · rename_i hl
      split at hf
      · rename_i hz
        cases hf
        simp only [Bool.and_eq_true] at hz
        obtain ⟨a, vs, _, rfl, h1, h2⟩ := rp.ref he (lget_some hl)
        exact ⟨_, op_notIn_seq, a, vs, rfl, .inl (SqL.of h1), flat_vr hz.1 hd, flats_vr hz.2 h2, by rw [if_pos rfl, inV_vr hz.1 hd hz.2 h2]; exact q⟩
      · cases hf
    · rename_i hl
      obtain ⟨o, ho, rfl⟩ := Option.map_eq_some_iff.mp hf
      obtain ⟨a, rfl, _, ov, g, ro⟩ := dget_vr rp he hd ho
      exact ⟨_, op_notin_dict hu, a, ov, rfl, g, by rw [ro.isSome]; cases o <;> exact q⟩
  · cases hf
theorem cmp_ok (hu : X.A.units + 64 < cLine) : ∀ o : COp, OpR X (compareOp (toCmp o)) (rB2 X.K fun h => cmpD h o)
  | .eq => OpR.imp (eq_ok hu) fun _ _ _ _ q => q
  | .ne => OpR.imp (ne_ok hu) fun _ _ _ _ q => q
  | .in_ => OpR.imp (in_ok (by omega)) fun x y _ _ ⟨α, h, d, e, b, rp, hd, he, hf, q⟩ => ⟨α, h, d, e, b, rp, hd, he, by cases d <;> exact hf, q⟩
  | .nin => OpR.imp (nin_ok (by omega)) fun x y _ _ ⟨α, h, d, e, b, rp, hd, he, hf, q⟩ => ⟨α, h, d, e, b, rp, hd, he, by cases d <;> exact hf, q⟩
  | .lt => OpR.at fun x y H Q q => by
    obtain ⟨α, h, d, e, b, rp, hd, he, hf, q⟩ := q
    cases d <;> cases e <;> simp only [cmpD] at hf <;> try contradiction
    · cases hf; rw [vr_int hd, vr_int he]; exact ⟨_, op_lt, _, _, rfl, rfl, q⟩
    · cases hf; rw [vr_str hd, vr_str he]; exact ⟨_, op_lt_str, _, _, rfl, rfl, by rw [toS_list, toS_list]; exact q⟩
  | .le => OpR.at fun x y H Q q => by
    obtain ⟨α, h, d, e, b, rp, hd, he, hf, q⟩ := q
    cases d <;> cases e <;> simp only [cmpD] at hf <;> try contradiction
    · cases hf; rw [vr_int hd, vr_int he]; exact ⟨_, op_le, _, _, rfl, rfl, q⟩
    · cases hf; rw [vr_str hd, vr_str he]; exact ⟨_, op_le_str, _, _, rfl, rfl, by rw [toS_list, toS_list]; exact q⟩
  | .gt => OpR.at fun x y H Q q => by
    obtain ⟨α, h, d, e, b, rp, hd, he, hf, q⟩ := q
    cases d <;> cases e <;> simp only [cmpD] at hf <;> try contradiction
    · cases hf; rw [vr_int hd, vr_int he]; exact ⟨_, op_gt, _, _, rfl, rfl, q⟩
    · cases hf; rw [vr_str hd, vr_str he]; exact ⟨_, op_gt_str, _, _, rfl, rfl, by rw [toS_list, toS_list]; exact q⟩
  | .ge => OpR.at fun x y H Q q => by
    obtain ⟨α, h, d, e, b, rp, hd, he, hf, q⟩ := q
    cases d <;> cases e <;> simp only [cmpD] at hf <;> try contradiction
    · cases hf; rw [vr_int hd, vr_int he]; exact ⟨_, op_ge, _, _, rfl, rfl, q⟩
    · cases hf; rw [vr_str hd, vr_str he]; exact ⟨_, op_ge_str, _, _, rfl, rfl, by rw [toS_list, toS_list]; exact q⟩
end
end FD

set_option linter.all false
set_option maxRecDepth 100000
/-! int() of a long text: where nothing says another limit than 4,300. -/
namespace FD
open PySem PySem.Calls PySem.NumText PyProof.Rows PySem.W
theorem wp_textL {M : Model} {A : Around} {E : Value → Shared → Prop} {s : Shared} {Q : Value → Shared → Prop} {v : Value} {text : List Nat} {n : Int} (hn : s.heap.NoDigits)
    (hr : (int_private% "readNumeral") (if (text.takeWhile (· != 0)).length ≤ 640 then 0 else 4300) 10 (text.takeWhile (· != 0)) = (int_private% "Numeral.value") n)
    (ha : ((text.takeWhile (· != 0)).length == text.length) = true) (h : Q (.int n s.toks) { s with toks := s.toks + 1 }) :
    wpAny M A ((int_private% "intFromText") v text 10) Q E s := by
  by_cases hs : (text.takeWhile (· != 0)).length ≤ 640
  · rw [if_pos hs] at hr
    exact KIN.wp_text hs hr ha h
  · rw [if_neg hs] at hr
    obtain ⟨mc, hns, hnone⟩ := hn
    have lim : ∀ {Q : Nat → Shared → Prop}, Q 4300 s → wpAny M A Builtin.intMaxStrDigits Q E s := by
      intro Q q
      unfold Builtin.intMaxStrDigits
      refine wpAny_bind (wpAny_nsGet hns ?_)
      rw [hnone]
      exact wpAny_pure q
    clear hns hnone
    obtain ⟨hp, g, d, tk, os⟩ := s
    repeat (any_goals (first
      | assumption
      | (with_reducible refine wpAny_ite_false (decide_eq_false hs) ?_)
      | (with_reducible refine wpAny_ite_true (decide_eq_true ha) ?_)
      | ((with_reducible show wpAny _ _ Builtin.intMaxStrDigits _ _ _); refine lim ?_)
      | wp_step))
    all_goals (try rw [hr])
    all_goals (try dsimp only)
    repeat (any_goals (first
      | assumption
      | (with_reducible refine wpAny_ite_true (decide_eq_true ha) ?_)
      | wp_step))
structure Hid (p : Prop) : Prop where
  out : p
set_option maxHeartbeats 4000000 in
theorem meets_text {x : PySem.Str} {u : Tok} {n : Int} (hl : x.length ≤ sizeLine) (hn : PySem.intText? x = some n) : Meets (Builtin.«int.__new__» ⟨[.type "int", .str x u], []⟩) (fun A R s => s.heap.NoDigits ∧ (Made.int n).post (fun v s' => R (.ok (.ret v)) s') s) := by
  intro prog w A R s hq
  obtain ⟨hd, h⟩ := hq
  refine wpAny_mono (Q := fun fin s' => ∃ v, fin = .done (.ret v) ∧ R (.ok (.ret v)) s') ?_ (fun fin s' h' => by obtain ⟨v, rfl, hv⟩ := h'; exact hv) fun _ _ x => x
  have f1 := F.conv_sub_int
  have f2 := F.madeHere_int
  have f3 := KIN.str_int
  have f4 := KIN.str_idx
  have f5 := KIN.str_trunc
  have f6 : typeOf (.str x u) = pure (.type "str") := rfl
  have hr : (int_private% "readNumeral") (numLimitOf x) 10 (numSeenOf x) = (int_private% "Numeral.value") n ∧ ((numSeenOf x).length == (numTextOf x).length) = true := by
    rcases readAny x hl with ⟨m, h1, h2, h3⟩ | ⟨h1, _⟩
    · rw [hn] at h1
      injection h1 with h1
      subst h1
      exact ⟨h3, h2⟩
    · rw [hn] at h1
      cases h1
  have hk := Hid.mk (And.intro hd hr)
  clear hd hr hl hn
  obtain ⟨hp, g, d, tk, os⟩ := s
  repeat (any_goals (first
    | assumption
    | ((with_reducible show wpAny _ _ ((int_private% "intFromText") _ _ _) _ _ _); refine wp_textL hk.out.1 hk.out.2.1 hk.out.2.2 ?_)
    | wp_step))
  all_goals first | exact ⟨_, rfl, h⟩ | skip
theorem call_textL {prog : Program} {w : World} {A : Around} {E : Value → Shared → Prop} {s : Shared} {Q : Value → Shared → Prop} {x : PySem.Str} {t : Tok} {n : Int} (hd : s.heap.NoDigits) (hn : PySem.intText? x = some n) (hl : x.length ≤ sizeLine) (h : Q (.int n s.toks) { s with toks := s.toks + 1 }) : wpAny (model prog w) A (call (.type "int") [.str x t]) Q E s :=
  call_int_1 (meets_text hl hn) ⟨hd, show (Made.int n).post _ s from ⟨rfl, h⟩⟩
end FD

set_option Elab.async false
set_option linter.all false
set_option maxRecDepth 100000
set_option maxHeartbeats 1000000
/-! The D layer, 4: more operations on values. -/
namespace FD
open PySem PySem.Spec PyProof.Rows L2
section
variable {K : PySem.W.Frag} {α α1 : List Addr} {H H1 : Hp} {h : DH} {X : Cx}
/-! ### is -/
def siV : Si → V
  | .non => .non
  | .tr => .bl true
  | .fl => .bl false
theorem isD_vr {d : D} {v : V} (hv : VR K α H d v) (s : Si) : decide (v = siV s) = isD d s := by
  cases d <;> cases s <;> (first | (unfold VR at hv; subst hv; simp [siV, isD]; done) | (obtain ⟨a, vs, rfl, _⟩ := vr_tup hv; simp [siV, isD]; done) | (obtain ⟨a, _, rfl⟩ := vr_ref hv; simp [siV, isD]; done) | (obtain ⟨a, vs, rfl, _⟩ := vr_fl hv; simp [siV, isD]; done) | (rename_i b; unfold VR at hv; subst hv; cases b <;> simp [siV, isD]; done))
theorem is_b {M : Model} {A : Around} {E : Value → Shared → Prop} {s : Shared} {Q : Value → Shared → Prop} {x : V} {v : Value} {b : Bool} (r : RelV x v) (h : Q (.bool (decide (x = .bl b))) s) : wpAny M A (compareOp .Is v (.bool b)) Q E s := by
  have e : (v == Value.bool b) = decide (x = .bl b) := by
    cases x <;> (first | (cases r; simp; done) | (obtain ⟨t, rfl⟩ := r; simp; done) | (cases r; rw [Bool.eq_iff_iff]; simp; done) | skip)
  rw [← e] at h
  cases x <;> (first | (cases r; exact wpAny_pure h) | (obtain ⟨t, rfl⟩ := r; exact wpAny_pure h))
theorem isn_b {M : Model} {A : Around} {E : Value → Shared → Prop} {s : Shared} {Q : Value → Shared → Prop} {x : V} {v : Value} {b : Bool} (r : RelV x v) (h : Q (.bool (!decide (x = .bl b))) s) : wpAny M A (compareOp .IsNot v (.bool b)) Q E s := by
  have e : (v == Value.bool b) = decide (x = .bl b) := by
    cases x <;> (first | (cases r; simp; done) | (obtain ⟨t, rfl⟩ := r; simp; done) | (cases r; rw [Bool.eq_iff_iff]; simp; done) | skip)
  rw [← e] at h
  cases x <;> (first | (cases r; exact wpAny_pure h) | (obtain ⟨t, rfl⟩ := r; exact wpAny_pure h))
theorem is_ok (s : Si) : OpR X (compareOp .Is) (fun x y H Q => y = siV s ∧ Q (.bl (decide (x = siV s))) H) := by
  intro pins st σ H x y v u Q I rx ry hq
  obtain ⟨rfl, q⟩ := hq
  cases s with
  | non => exact op_isN pins st σ H x _ v u Q I rx ry ⟨rfl, q⟩
  | tr => cases ry; exact is_b rx (fin_bl I q rfl)
  | fl => cases ry; exact is_b rx (fin_bl I q rfl)
theorem isnot_ok (s : Si) : OpR X (compareOp .IsNot) (fun x y H Q => y = siV s ∧ Q (.bl (!decide (x = siV s))) H) := by
  intro pins st σ H x y v u Q I rx ry hq
  obtain ⟨rfl, q⟩ := hq
  cases s with
  | non => exact op_notN pins st σ H x _ v u Q I rx ry ⟨rfl, q⟩
  | tr => cases ry; exact isn_b rx (fin_bl I q rfl)
  | fl => cases ry; exact isn_b rx (fin_bl I q rfl)

/-! ### truth -/
theorem emp_vrs {ds : List D} {vs : List V} (h : VRs K α H ds vs) : vs.isEmpty = ds.isEmpty := by
  have := h.length
  cases ds <;> cases vs <;> simp_all
theorem tru_vr (rp : RepH K α H h) {d : D} {v : V} (hv : VR K α H d v) {b : Bool} (e : truD h d = some b) : TruV K v H b := by
  cases d with
  | non => cases e; rw [vr_non hv]; rfl
  | bl k => cases e; rw [vr_bl hv]; rfl
  | int i => cases e; rw [vr_int hv]; rfl
  | str s =>
    rw [vr_str hv]
    simp only [truD] at e
    split at e
    · rename_i hz
      cases e
      refine ⟨by rw [toS_length, SL_eq]; exact hz, ?_⟩
      rw [toS_length]
      cases s with
      | nil => rfl
      | cons a r => simp; omega
    · cases e
  | tup xs =>
    cases e
    obtain ⟨a, vs, rfl, h1, h2⟩ := vr_tup hv
    exact .inr (.inl ⟨vs, h1, by rw [emp_vrs h2]⟩)
  | ref n =>
    simp only [truD] at e
    split at e
    · rename_i xs hl
      cases e
      obtain ⟨a, vs, _, rfl, h1, h2⟩ := rp.ref hv hl
      exact .inl ⟨vs, SqL.of h1, by rw [emp_vrs h2]⟩
    · cases e
  | fl xs => cases e

/-! ### subscripts -/
theorem atI_vrs {ds : List D} {vs : List V} {i : Int} {d : D} (h : VRs K α H ds vs) (e : FD.atI ds i = some d) : ∃ v, L2.atI vs i = some v ∧ VR K α H d v := by
  unfold FD.atI at e
  obtain ⟨j, e1, e2⟩ := Option.bind_eq_some_iff.mp e
  obtain ⟨v, h1, h2⟩ := h.get e2
  refine ⟨v, ?_, h2⟩
  unfold L2.atI
  rw [h.length]
  have e1' : L2.ixN ds.length i = some j := e1
  rw [e1']
  exact h1
/-- x[i] -/
def rIx (K : PySem.W.Frag) : R2 := fun x y H Q => ∃ α h d e r, RepH K α H h ∧ VR K α H d x ∧ VR K α H e y ∧ ixD h d e = some r ∧ ∀ v, VR K α H r v → Q v H
theorem IxR.at {r' : R2} (h : ∀ x y H Q, r' x y H Q → ∃ r, IxR X r ∧ r x y H Q) : IxR X r' := fun value slice pins s σ H x y v u Q I rx ry q => by
  obtain ⟨r, h1, h2⟩ := h _ _ _ _ q
  exact h1 value slice pins s σ H x y v u Q I rx ry h2
theorem ix_ok (hu : X.A.units + 1 < cLine) : IxR X (rIx X.K) := IxR.at fun x y H Q q => by
  obtain ⟨α, h, d, e, r, rp, hd, he, hf, q⟩ := q
  unfold ixD at hf
  split at hf
  · obtain ⟨a, vs, rfl, h1, h2⟩ := vr_tup hd
    obtain ⟨v, e1, e2⟩ := atI_vrs h2 hf
    rw [vr_int he]
    exact ⟨_, ix_tup, _, _, _, _, rfl, rfl, h1, e1, q v e2⟩
  · obtain ⟨a, vs, rfl, h1, h2⟩ := vr_fl hd
    obtain ⟨v, e1, e2⟩ := atI_vrs h2 hf
    rw [vr_int he]
    exact ⟨_, ix_list, _, _, _, _, rfl, rfl, h1.sql, e1, q v e2⟩
  · split at hf
    · rename_i hz
      obtain ⟨c, hc, rfl⟩ := Option.map_eq_some_iff.mp hf
      rw [vr_str hd, vr_int he]
      refine ⟨_, ix_str, _, _, c, rfl, rfl, by rw [toS_length, SL_eq]; exact hz, ?_, q _ rfl⟩
      rw [toS_list]; exact hc
    · cases hf
  · split at hf
    · rename_i hl
      obtain ⟨a, vs, _, rfl, h1, h2⟩ := rp.ref hd (lget_some hl)
      obtain ⟨v, e1, e2⟩ := atI_vrs h2 hf
      rw [vr_int he]
      exact ⟨_, ix_list, _, _, _, _, rfl, rfl, SqL.of h1, e1, q v e2⟩
    · cases hf
    · obtain ⟨o, ho, e⟩ := Option.join_eq_some_iff.mp hf |> fun z => (⟨some r, z, rfl⟩ : ∃ o, dgetD h _ _ = some o ∧ o = some r)
      subst e
      obtain ⟨a, rfl, _, ov, g, ro⟩ := dget_vr rp hd he ho
      obtain ⟨v, rfl, hv⟩ := ro
      exact ⟨_, ix_dict hu, a, v, rfl, g, q v hv⟩
  · cases hf

/-! ### slices -/
theorem cut_vrs {ds : List D} {vs : List V} (h : VRs K α H ds vs) (lo hi : Option Int) : VRs K α H (cut ds lo hi) (cutV vs lo hi) := by
  unfold cut cutV
  have e : ∀ n d o, HT.sIx n d o = sIx n d o := fun _ _ o => by cases o <;> rfl
  rw [e, e, h.length]
  exact (h.drop _).take _
/-- x[lo:hi] -/
def rSli (K : PySem.W.Frag) : V → Option Int → Option Int → Hp → VK → Prop := fun x lo hi H Q => ∃ α h d r h', RepH K α H h ∧ VR K α H d x ∧ sliD h d lo hi = .ok r h' ∧
  ∀ α' H', Ext α H α' H' → RepH K α' H' h' → ∀ v, VR K α' H' r v → Q v H'
theorem cutS_toS (s : List Nat) (lo hi : Option Int) : cutS (toS s) lo hi = toS (cut s lo hi) := by
  unfold cutS cut toS
  have e : ∀ n d o, HT.sIx n d o = sIx n d o := fun _ _ o => by cases o <;> rfl
  have l : (⟨s.toArray⟩ : Str).length = s.length := toS_length s
  rw [l, e, e]
theorem SlR.at {r' : V → Option Int → Option Int → Hp → VK → Prop} (h : ∀ x lo hi H Q, r' x lo hi H Q → ∃ r, SlR X r ∧ r x lo hi H Q) : SlR X r' := fun pins s σ H x v vl vu lo hi sl Q I rx hs pl pu q => by
  obtain ⟨r, h1, h2⟩ := h _ _ _ _ _ q
  exact h1 pins s σ H x v vl vu lo hi sl Q I rx hs pl pu h2
theorem sli_ok : SlR X (rSli X.K) := SlR.at fun x lo hi H Q q => by
  obtain ⟨α, h, d, r, h', rp, hd, hf, q⟩ := q
  unfold sliD at hf
  split at hf
  · split at hf
    · rename_i hz
      cases hf
      rw [vr_str hd]
      refine ⟨_, sl_str, _, rfl, by rw [toS_length, SL_eq]; exact hz, ?_⟩
      rw [cutS_toS]
      exact fin0 q rp rfl
    · cases hf
  · split at hf
    · rename_i hl
      cases hf
      obtain ⟨a, vs, _, rfl, h1, h2⟩ := rp.ref hd hl
      exact ⟨_, sl_list, _, _, rfl, SqL.of h1, fun p hp => fin1 q rp hp (cut_vrs h2 lo hi)⟩
    · cases hf
  · rename_i xs
    cases hf
    obtain ⟨a, vs, rfl, h1, h2⟩ := vr_tup hd
    have e : ∀ n d o, HT.sIx n d o = sIx n d o := fun _ _ o => by cases o <;> rfl
    refine ⟨_, sl_tupA, a, vs, rfl, h1, fun z => ?_, fun _ p hp => ?_⟩
    · rw [e, e, h2.length] at z
      have : cut xs lo hi = xs := by unfold cut; rw [z.1, z.2]; simp
      rw [this] at q
      exact q _ _ Ext.refl rp _ hd
    · have e0 := Ext.laid (α := α) (o := .tup (cutV vs lo hi)) hp
      exact q _ _ e0 (rp.laid hp) _ ⟨p, _, rfl, SqT.of upd_same, (cut_vrs h2 lo hi).ext e0⟩
  · cases hf

/-! ### built-ins -/
theorem CallR.at {f : Value} {r' : List V → Hp → VK → Prop} (h : ∀ xs H Q, r' xs H Q → ∃ r, CallR X f r ∧ r xs H Q) : CallR X f r' := fun pins s σ H xs us Q I rx q => by
  obtain ⟨r, h1, h2⟩ := h _ _ _ q
  exact h1 pins s σ H xs us Q I rx h2
theorem digit_of' {c k : Nat} (h : digit? c = some k) : (48 ≤ c ∧ c ≤ 57) ∧ k = c - 48 := by
  unfold digit? at h
  split at h
  · rename_i hc
    cases h
    exact ⟨hc, rfl⟩
  · cases h
theorem natOf_val : ∀ {l : List Nat} {acc n : Nat}, natOf acc l = some n → NumText.AllDigits l ∧ n = l.foldl (fun acc c => acc * 10 + (c - 48)) acc
  | [], acc, n, h => by cases h; exact ⟨fun _ h => (by cases h), rfl⟩
  | c :: r, acc, n, h => by
    unfold natOf at h
    split at h
    · rename_i k hk
      obtain ⟨h1, rfl⟩ := digit_of' hk
      obtain ⟨h2, h3⟩ := natOf_val h
      refine ⟨fun d hd => ?_, h3⟩
      rcases List.mem_cons.mp hd with rfl | hd
      · exact h1
      · exact h2 d hd
    · cases h
theorem intOf_text {s : List Nat} {n : Int} (hl : s.length ≤ 4300) (h : intOf s = some n) : PySem.intText? (toS s) = some n := by
  unfold intOf at h
  split at h
  · cases h
  · rename_i r
    split at h
    · cases h
    · rename_i hr
      obtain ⟨k, hk, rfl⟩ := Option.map_eq_some_iff.mp h
      obtain ⟨h1, h2⟩ := natOf_val hk
      have := PySem.intText_neg (x := toS (45 :: r)) (cs := r) (toS_list _) h1 hr (by rw [toS_length]; omega)
      rw [this, h2]
      rfl
  · rename_i hne _
    obtain ⟨k, hk, rfl⟩ := Option.map_eq_some_iff.mp h
    obtain ⟨h1, h2⟩ := natOf_val hk
    have := PySem.intText_digits (x := toS s) (by rw [toS_list]; exact h1) (by rw [toS_list]; intro e; exact hne e) (by rw [toS_length]; omega)
    rw [this, h2, toS_list]
    rfl
theorem strOf_eq (i : Int) : (toString i : Str) = toS (strOf i) := by
  show Str.ofString _ = _
  rw [Str.ofString_eq_toList]
  rfl
def rBi (K : PySem.W.Frag) (b : Bi) : List V → Hp → VK → Prop := fun xs H Q => ∃ α h d x r, xs = [x] ∧ RepH K α H h ∧ VR K α H d x ∧ biD h b d = some r ∧ ∀ α' H', Ext α H α' H' → RepH K α' H' h → ∀ v, VR K α' H' r v → Q v H'
theorem len_ok : CallR X (.builtin "len") (rBi X.K .len) := CallR.at fun xs H Q q => by
  obtain ⟨α, h, d, x, r, rfl, rp, hd, hf, q⟩ := q
  cases d <;> simp only [biD] at hf <;> try contradiction
  · split at hf
    · rename_i hz
      cases hf
      rw [vr_str hd]
      exact ⟨_, call_len, _, _, rfl, ⟨by rw [toS_length, SL_eq]; exact hz, rfl⟩, q _ _ Ext.refl rp _ (by rw [toS_length]; rfl)⟩
    · cases hf
  · cases hf
    obtain ⟨a, vs, rfl, h1, h2⟩ := vr_tup hd
    exact ⟨_, call_len, _, _, rfl, .inr ⟨vs, h1, rfl⟩, q _ _ Ext.refl rp _ (by rw [h2.length]; rfl)⟩
  · split at hf
    · rename_i hl
      cases hf
      obtain ⟨a, vs, _, rfl, h1, h2⟩ := rp.ref hd (lget_some hl)
      exact ⟨_, call_len, _, _, rfl, .inl ⟨vs, SqL.of h1, rfl⟩, q _ _ Ext.refl rp _ (by rw [h2.length]; rfl)⟩
    · cases hf
  · cases hf
    obtain ⟨a, vs, rfl, h1, h2⟩ := vr_fl hd
    exact ⟨_, call_len, _, _, rfl, .inl ⟨vs, h1.sql, rfl⟩, q _ _ Ext.refl rp _ (by rw [h2.length]; rfl)⟩
/-- int(text) -/
theorem call_int_long (hd : PySem.W.nsIn X.K cStatics "sys.int_max_str_digits" = some none) : CallR X (.type "int") (fun xs H Q => ∃ a n, xs = [.str a] ∧ PySem.intText? a = some n ∧ a.length ≤ 4300 ∧ Q (.int n) H) := by
  intro pins s σ H xs us Q I rs h
  obtain ⟨a, n, rfl, hn, hl, h⟩ := h
  cases rs with
  | cons r1 rs =>
    cases rs
    obtain ⟨t, rfl⟩ := r1
    obtain ⟨mc, m1, _⟩ := I.nolimit
    exact call_textL ⟨mc, m1, PySem.W.ns_none_of I.kIn m1 hd⟩ hn (Nat.le_trans hl (by rw [sizeLine_eq]; decide)) ⟨.int n, H, I.tok _, ⟨_, rfl⟩, h⟩
theorem int_ok (hdg : PySem.W.nsIn X.K cStatics "sys.int_max_str_digits" = some none) : CallR X (.type "int") (rBi X.K .int) := CallR.at fun xs H Q q => by
  obtain ⟨α, h, d, x, r, rfl, rp, hd, hf, q⟩ := q
  cases d <;> simp only [biD] at hf <;> try contradiction
  · cases hf
    rw [vr_bl hd]
    exact ⟨_, call_int1, .inr ⟨_, rfl, q _ _ Ext.refl rp _ rfl⟩⟩
  · cases hf
    rw [vr_int hd]
    exact ⟨_, call_int1, .inl ⟨_, rfl, q _ _ Ext.refl rp _ rfl⟩⟩
  · split at hf
    · rename_i hz
      obtain ⟨n, hn, rfl⟩ := Option.map_eq_some_iff.mp hf
      rw [vr_str hd]
      exact ⟨_, call_int_long hdg, _, n, rfl, intOf_text hz hn, by rw [toS_length]; exact hz, q _ _ Ext.refl rp _ rfl⟩
    · cases hf
theorem ord_ok : CallR X (.builtin "ord") (rBi X.K .ord) := CallR.at fun xs H Q q => by
  obtain ⟨α, h, d, x, r, rfl, rp, hd, hf, q⟩ := q
  have hs : ∃ c, d = .str [c] ∧ r = .int (c : Int) := by
    cases d with
    | str s =>
      cases s with
      | nil => cases hf
      | cons c s =>
        cases s with
        | nil => cases hf; exact ⟨c, rfl, rfl⟩
        | cons _ _ => cases hf
    | _ => cases hf
  obtain ⟨c, rfl, rfl⟩ := hs
  rw [vr_str hd]
  exact ⟨_, call_ord, _, rfl, by rw [toS_length]; rfl, q _ _ Ext.refl rp _ rfl⟩
theorem str_ok : CallR X (.type "str") (rBi X.K .str) := CallR.at fun xs H Q q => by
  obtain ⟨α, h, d, x, r, rfl, rp, hd, hf, q⟩ := q
  cases d <;> simp only [biD] at hf <;> try contradiction
  split at hf
  · rename_i hz
    cases hf
    rw [vr_int hd]
    exact ⟨_, call_str_int, _, rfl, hz, q _ _ Ext.refl rp _ (by rw [strOf_eq]; rfl)⟩
  · cases hf
theorem tup_ok : CallR X (.type "tuple") (rBi X.K .tuple) := CallR.at fun xs H Q q => by
  obtain ⟨α, h, d, x, r, rfl, rp, hd, hf, q⟩ := q
  cases d <;> simp only [biD] at hf <;> try contradiction
  · cases hf
    obtain ⟨a, vs, rfl, h1, h2⟩ := vr_tup hd
    exact ⟨_, call_tuple_of, _, _, rfl, .inr ⟨h1, q _ _ Ext.refl rp _ hd⟩⟩
  · obtain ⟨ys, hl, rfl⟩ := Option.map_eq_some_iff.mp hf
    obtain ⟨a, vs, _, rfl, h1, h2⟩ := rp.ref hd (lget_some hl)
    refine ⟨_, call_tuple_of, _, _, rfl, .inl ⟨SqL.of h1, fun l hl => ?_⟩⟩
    have e := Ext.laid (α := α) (o := .tup vs) hl
    exact q _ _ e (rp.laid hl) _ ⟨l, vs, rfl, SqT.of upd_same, h2.ext e⟩
end
end FD

set_option Elab.async false
set_option linter.all false
set_option maxRecDepth 100000
set_option maxHeartbeats 1000000
/-! Instances of own classes: made, their fields, their methods. -/
namespace FD
open PySem PySem.Spec PyProof.Rows L2
section
variable {X : Cx} {CX : CXT} {k : Nat} {f C : Addr} {fd : FuncData} {ps : List Str} {sp : Sp} {E : L2.St → XK} {x m : Str} {p pos apos : Pos} {e o : Expr} {es : List Expr} {ta : TE} {t : TA}
theorem run_makeA {E : XK} {pins : List (Addr × Obj)} {σ : L2.St} {H : Hp} {s : Shared} {Q : VK} {us : List Value} {vs : List V} (M : Mk X.K C f) (F : FnOk X.prog X.w X.K X.mg X.base CX k f fd ps sp) (hr : Room (k + 1) X.A) (hb : Binds X.K fd ps []) (hx : PassesAt CX X σ E)
    (I : Inv X pins σ H s) (r : Vals vs us) (h : ∀ x dx, H x = none → H dx = none → dx ≠ x → sp (.ref x :: vs) (upd (upd H dx (.own x)) x (.ins C dx [])) (fun v H2 => v = .non ∧ Q (.ref x) H2) E) : wpAny (model X.prog X.w) X.A (call (.ref C) us) (EP X pins σ Q) X.xe s := by
  have hq := h (s.heap.objs.size + 1) s.heap.objs.size (I.hok.fresh (Nat.le_succ _)) (I.hok.fresh (Nat.le_refl _)) (Nat.ne_of_lt (Nat.lt_succ_self _))
  have I2 := Inv.made (C := C) I
  have r2 : Vals (V.ref (s.heap.objs.size + 1) :: vs) (Value.ref (s.heap.objs.size + 1) :: us) := .cons rfl r
  have hl : (Value.ref (s.heap.objs.size + 1) :: us ++ []).length = ps.length := by
    rw [List.append_nil, ← r2.length]
    exact F.len _ _ _ _ hq
  have hbb := hb _ (Value.ref (s.heap.objs.size + 1) :: us) I2.kIn hl
  rw [List.append_nil] at hbb
  refine wpAny_call (make_map (f := f) I.kIn M.makes M.init (beq_iff_eq.mp M.fn) (codeAny_mono (F.run _ X.stack _ _ ⟨Value.ref (s.heap.objs.size + 1) :: us, []⟩ (Value.ref (s.heap.objs.size + 1) :: us) _ _ E (hr.make C us []) (I2.env0.make C us []) hbb r2 hq) fun r s' hq' => ?_))
  cases r with
  | error e => exact hx pins _ _ e s' I2 hq'
  | ok fl =>
    cases fl with
    | ret u =>
      obtain ⟨v, H', I3, rv, ev, q3⟩ := I2.after hq'
      subst ev
      exact ⟨rv, ⟨V.ref (s.heap.objs.size + 1), H', I3, rfl, q3⟩⟩
    | next => exact False.elim hq'
    | brk => exact False.elim hq'
    | cont => exact False.elim hq'
/-- C(..) -/
def tMakeA (C : Addr) (sp : Sp) (E : L2.St → XK) (t : TA) : TE := fun σ H Q => t σ H fun vs H1 => ∀ x dx, H1 x = none → H1 dx = none → dx ≠ x → sp (.ref x :: vs) (upd (upd H1 dx (.own x)) x (.ins C dx [])) (fun v H2 => v = .non ∧ Q (.ref x) H2) (E σ)
theorem pe_makeA (M : Mk X.K C f) (F : FnOk X.prog X.w X.K X.mg X.base CX k f fd ps sp) (hr : Room (k + 1) X.A) (hg : Gl X x) (hm : X.mg x = some (.ref C)) (hb : Binds X.K fd ps []) (hx : ∀ σ, PassesAt CX X σ (E σ))
    (ha : PA X (e :: es) t) (hdb : (x == ("__debug__" : Str)) = false) (he : starEach (e :: es) X.env = (false, eval e X.env) :: starEach es X.env) (hpl : (backTo pos (starEach es X.env)).any (·.1) = false) :
    PE X (.Call (.Name x p) (e :: es) [] pos) (tMakeA C sp E t) := by
  refine ⟨fun pins s σ H Q I h => ?_⟩
  refine wpAny_Call_Name_kw (ld_glob I hg hm ?_ hdb)
  refine PySem.W.callWith_K (h₀ := X.base) I.ok.mod.kin M.kp (thn (ha.run pos pins s σ H _ I h) fun us s1 ⟨vs, H1, I1, r, q⟩ => ⟨I1.kIn, ?_⟩) he hpl
  exact run_makeA M F hr hb (hx σ) I1 r q
theorem pe_makeA0 (M : Mk X.K C f) (F : FnOk X.prog X.w X.K X.mg X.base CX k f fd ps sp) (hr : Room (k + 1) X.A) (hg : Gl X x) (hm : X.mg x = some (.ref C)) (hb : Binds X.K fd ps []) (hx : ∀ σ, PassesAt CX X σ (E σ))
    (hdb : (x == ("__debug__" : Str)) = false) : PE X (.Call (.Name x p) [] [] pos) (tMakeA C sp E tNil) := by
  refine ⟨fun pins s σ H Q I h => ?_⟩
  refine wpAny_Call_Name_kw (ld_glob I hg hm ?_ hdb)
  exact PySem.W.callWith_K0 I.kIn M.kp (run_makeA (us := []) (vs := []) M F hr hb (hx σ) I .nil h)
theorem wp_methA {prog : Program} {w : World} {A : Around} {E : Value → Shared → Prop} {s : Shared} {env : Env} {o : Expr} {name : Str} {apos pos : Pos} {args : List Expr} {Q : Value → Shared → Prop}
    (hbase : attributeBase o name env (eval o env) = eval o env)
    (hfew : ((backTo pos (starEach args env)).all (fun x => !x.1) && (backToKw pos (keywordEach [] env)).all (fun x => x.1.isSome) && decide (args.length + ([] : List Keyword).length + (if ([] : List Keyword).isEmpty then 0 else 1) < 30)) = true)
    (hline : (apos.endLine == pos.line) = true)
    (h : wpAny (model prog w) A (eval o env) (fun ov s₁ => wpAny (model prog w) A (calleeOf true o env ov name) (fun fx s₂ => wpAny (model prog w) A (callWith pos fx.1 fx.2 (backTo pos (starEach args env)) (backToKw pos (keywordEach [] env))) Q E s₂) E s₁) E s) :
    wpAny (model prog w) A (eval (.Call (.Attribute o name apos) args [] pos) env) Q E s := by
  rw [arm_eval_Call, hbase]
  refine wpAny_bind (wpAny_mono h (fun ov s₁ h₁ => ?_) fun _ _ e => e)
  refine wpAny_bind (wpAny_standAt ?_)
  have hform : methodCallForm (args.length + ([] : List Keyword).length) (backTo pos (starEach args env)) (backToKw pos (keywordEach [] env)) = true := hfew
  have hpos : methodCallPos true o env apos pos = pure pos := by unfold methodCallPos; simp [hline]
  unfold methodCall
  rw [hform]
  refine wpAny_bind (wpAny_holding (wpAny_mono h₁ (fun fx s₂ h₂ => ?_) fun _ _ x => x))
  exact wpAny_bind (wpAny_of_eq hpos h₂)
/-- o.m(..): the class is told by the object -/
def tMethA (X : Cx) (m : Str) (k : Nat) (E : L2.St → XK) (ta : TE) (t : TA) : TE := fun σ H Q => ta σ H fun x H1 => ∃ (a C dx g : Addr) (fs : List (Str × V)) (fd : FuncData) (ps : List Str) (sp : Sp), x = .ref a ∧ H1 a = some (.ins C dx fs) ∧ fs.lookup m = none ∧ Cls X.K C ∧ Meth X.K C m g ∧
  FnOk X.prog X.w X.K X.mg X.base (L2.CX X.prog X.w) k g fd ps sp ∧ Binds X.K fd ps [] ∧ t σ H1 fun vs H2 => sp (x :: vs) H2 Q (E σ)
theorem pe_methA (he : PE X o ta) (hr : Room k X.A) (hx : ∀ σ, PassesAt (L2.CX X.prog X.w) X σ (E σ)) (ha : PA X (e :: es) t) (hst : starEach (e :: es) X.env = (false, eval e X.env) :: starEach es X.env) (hpl : (backTo pos (starEach es X.env)).any (·.1) = false)
    (hbase : attributeBase o m X.env (eval o X.env) = eval o X.env) (hline : (apos.endLine == pos.line) = true)
    (hfew : ((backTo pos (starEach (e :: es) X.env)).all (fun x => !x.1) && (backToKw pos (keywordEach [] X.env)).all (fun x => x.1.isSome) && decide ((e :: es).length + ([] : List Keyword).length + (if ([] : List Keyword).isEmpty then 0 else 1) < 30)) = true) :
    PE X (.Call (.Attribute o m apos) (e :: es) [] pos) (tMethA X m k E ta t) := by
  refine ⟨fun pins s σ H Q I h => ?_⟩
  refine wp_methA hbase hfew hline (thn (he.run pins s σ H _ I h) fun u s1 ⟨x, H1, I1, rx, a, C, dx, g, fs, fd, ps, sp, ex, ea, l, c, hm, F, hb, q⟩ => ?_)
  subst ex
  obtain rfl : u = Value.ref a := rx
  refine getmeth_ok I1 ea c hm l ?_
  refine PySem.W.callWith_K (first := [.ref a]) (h₀ := X.base) I.ok.mod.kin hm.kp (thn (ha.run pos pins s1 σ H1 _ I1 q) fun us s2 ⟨vs, H2, I2, r, q2⟩ => ⟨I2.kIn, ?_⟩) hst hpl
  exact run_fnSD (us := .ref a :: us) (vs := .ref a :: vs) (ds := []) (dvs := []) F hr hb .nil (hx σ) I2 (.cons rfl r) (by rw [List.append_nil]; exact q2)
theorem pe_methA0 (he : PE X o ta) (hr : Room k X.A) (hx : ∀ σ, PassesAt (L2.CX X.prog X.w) X σ (E σ))
    (hbase : attributeBase o m X.env (eval o X.env) = eval o X.env) (hline : (apos.endLine == pos.line) = true) :
    PE X (.Call (.Attribute o m apos) [] [] pos) (tMethA X m k E ta tNil) := by
  refine ⟨fun pins s σ H Q I h => ?_⟩
  refine wp_methA hbase rfl hline (thn (he.run pins s σ H _ I h) fun u s1 ⟨x, H1, I1, rx, a, C, dx, g, fs, fd, ps, sp, ex, ea, l, c, hm, F, hb, q⟩ => ?_)
  subst ex
  obtain rfl : u = Value.ref a := rx
  refine getmeth_ok I1 ea c hm l ?_
  exact PySem.W.callWith_K0 (first := [.ref a]) I1.kIn hm.kp (run_fnSD (us := [.ref a]) (vs := [.ref a]) (ds := []) (dvs := []) F hr hb .nil (hx σ) I1 (.cons rfl .nil) (by exact q))
end
end FD

set_option Elab.async false
set_option linter.all false
set_option maxRecDepth 100000
set_option maxHeartbeats 1000000
/-! The D layer, 5: isinstance, fresh lists, methods of texts and lists. -/
namespace FD
open PySem PySem.Spec PyProof.Rows L2
section
variable {K : PySem.W.Frag} {α α1 : List Addr} {H H1 : Hp} {h : DH} {X : Cx}
/-! ### isinstance -/
def tyN : Ty → String
  | .int => "int" | .str => "str" | .tuple => "tuple" | .bool => "bool" | .list => "list"
theorem kit_all : ∀ t : Ty, kitB "NoneType" (tyN t) = some false ∧ kitB "bool" (tyN t) = some (decide (t = .int ∨ t = .bool)) ∧ kitB "int" (tyN t) = some (decide (t = .int)) ∧ kitB "str" (tyN t) = some (decide (t = .str)) ∧
    kitB "tuple" (tyN t) = some (decide (t = .tuple)) ∧ kitB "list" (tyN t) = some (decide (t = .list))
  | .int => by decide +kernel
  | .str => by decide +kernel
  | .tuple => by decide +kernel
  | .bool => by decide +kernel
  | .list => by decide +kernel
theorem isi_vr (rp : RepH K α H h) {d : D} {v : V} (hv : VR K α H d v) {t : Ty} {b : Bool} (e : isiD h d t = some b) : ∃ T : String, TyX K H v (.type T) ∧ PySem.W.kitOne K (.type T) (.type (tyN t)) = some b := by
  obtain ⟨k1, k2, k3, k4, k5, k6⟩ := kit_all t
  cases d with
  | non => cases e; rw [vr_non hv]; exact ⟨_, .base .non, kit_ty k1⟩
  | bl k => cases e; rw [vr_bl hv]; exact ⟨_, .base (.bl _), kit_ty k2⟩
  | int i => cases e; rw [vr_int hv]; exact ⟨_, .base (.int _), kit_ty k3⟩
  | str s => cases e; rw [vr_str hv]; exact ⟨_, .base (.str _), kit_ty k4⟩
  | tup xs =>
    cases e
    obtain ⟨a, vs, rfl, (h1 | ⟨o, h1⟩) | ⟨o, its, n, h1, h2, _⟩, _⟩ := vr_tup hv
    · exact ⟨_, .base (.tup h1), kit_ty k5⟩
    · exact ⟨_, .fTuple h1, kit_ty k5⟩
    · exact ⟨_, .kTuple h1 h2, kit_ty k5⟩
  | ref n =>
    simp only [isiD] at e
    split at e
    · rename_i xs hl
      cases e
      obtain ⟨a, vs, _, rfl, h1, _⟩ := rp.ref hv hl
      exact ⟨_, .base (.lst h1), kit_ty k6⟩
    · cases e
  | fl xs => cases e

/-! ### built-ins of a fresh list -/
theorem bools_vr : ∀ {ds : List D} {vs : List V} {bs : List Bool}, boolsOf ds = some bs → VRs K α H ds vs → vs = bs.map V.bl
  | [], vs, bs, e, h => by cases e; exact h
  | d :: r, vs, bs, e, h => by
    unfold VRs at h
    obtain ⟨v, us, rfl, h1, h2⟩ := h
    cases d <;> simp only [boolsOf] at e <;> try contradiction
    obtain ⟨cs, hc, rfl⟩ := Option.map_eq_some_iff.mp e
    rw [vr_bl h1, bools_vr hc h2]
    rfl
/-- at p a list that nothing leads to -/
def rBl (K : PySem.W.Frag) (b : Bl) : List V → Hp → VK → Prop := fun xs H Q => ∃ α h ds p vs r, xs = [.ref p] ∧ RepH K α H h ∧ H p = some (.lst vs) ∧ p ∉ α ∧ VRs K α H ds vs ∧ blD b ds = some r ∧
  ∀ α' H', Ext α H α' H' → RepH K α' H' h → ∀ v, VR K α' H' r v → Q v H'
theorem blen_ok : CallR X (.builtin "len") (rBl X.K .len) := CallR.at fun xs H Q q => by
  obtain ⟨α, h, ds, p, vs, r, rfl, rp, hp, hn, hv, hf, q⟩ := q
  cases hf
  exact ⟨_, call_len, _, _, rfl, .inl ⟨vs, SqL.of hp, rfl⟩, q _ _ Ext.refl rp _ (by rw [hv.length]; rfl)⟩
theorem btup_ok : CallR X (.type "tuple") (rBl X.K .tuple) := CallR.at fun xs H Q q => by
  obtain ⟨α, h, ds, p, vs, r, rfl, rp, hp, hn, hv, hf, q⟩ := q
  cases hf
  refine ⟨_, call_tuple_of, _, _, rfl, .inl ⟨SqL.of hp, fun l hl => ?_⟩⟩
  have e := Ext.laid (α := α) (o := .tup vs) hl
  exact q _ _ e (rp.laid hl) _ ⟨l, vs, rfl, SqT.of upd_same, hv.ext e⟩
theorem ball_ok (hc : X.calm = true) : CallR X (.builtin "all") (rBl X.K .all) := CallR.at fun xs H Q q => by
  obtain ⟨α, h, ds, p, vs, r, rfl, rp, hp, hn, hv, hf, q⟩ := q
  obtain ⟨bs, hb, rfl⟩ := Option.map_eq_some_iff.mp hf
  rw [bools_vr hb hv] at hp
  exact ⟨_, cr_all hc, _, _, rfl, SqL.of hp, q _ _ Ext.refl rp _ rfl⟩
theorem bany_ok (hc : X.calm = true) : CallR X (.builtin "any") (rBl X.K .any) := CallR.at fun xs H Q q => by
  obtain ⟨α, h, ds, p, vs, r, rfl, rp, hp, hn, hv, hf, q⟩ := q
  obtain ⟨bs, hb, rfl⟩ := Option.map_eq_some_iff.mp hf
  rw [bools_vr hb hv] at hp
  exact ⟨_, cr_any hc, _, _, rfl, SqL.of hp, q _ _ Ext.refl rp _ rfl⟩

/-! ### find -/
theorem fndL_none {c : Nat} : ∀ {l : List Nat} {k : Nat}, fndL c l k = none → ∀ m : Nat, l[m]? ≠ some c
  | [], k, _, m => by simp
  | x :: r, k, h, m => by
    unfold fndL at h
    split at h
    · cases h
    · rename_i hx
      cases m with
      | zero => simp; exact hx
      | succ m => simpa using fndL_none h m
theorem fndL_some {c : Nat} : ∀ {l : List Nat} {k j : Nat}, fndL c l k = some j → k ≤ j ∧ l[j - k]? = some c ∧ ∀ m : Nat, m < j - k → l[m]? ≠ some c
  | [], k, j, h => by cases h
  | x :: r, k, j, h => by
    unfold fndL at h
    split at h
    · rename_i hx
      cases h
      exact ⟨Nat.le_refl _, by simp [hx], fun m hm => by omega⟩
    · rename_i hx
      obtain ⟨h1, h2, h3⟩ := fndL_some h
      refine ⟨by omega, ?_, fun m hm => ?_⟩
      · have e : j - k = (j - (k + 1)) + 1 := by omega
        rw [e]; simpa using h2
      · cases m with
        | zero => simp; exact hx
        | succ m => simpa using h3 m (by omega)
theorem occ_head_in (x y : Str) (lo hi limit : Nat) (hl : 1 ≤ limit) :
    (Builtin.Str.occurrences x y lo hi limit = [] ∧ ∀ i, lo ≤ i → ¬ StrLaws.At x y hi i) ∨
    ∃ i r, Builtin.Str.occurrences x y lo hi limit = i :: r ∧ lo ≤ i ∧ StrLaws.At x y hi i ∧ ∀ k, lo ≤ k → k < i → ¬ StrLaws.At x y hi k := by
  rw [StrLaws.occ_eq]
  rcases StrLaws.occ_first x y hi limit hl (List.range' lo (hi + 1 - lo)) lo (fun i hi => by have := List.mem_range'_1.mp hi; omega) with ⟨h0, hn⟩ | ⟨pre, a, post, e, h0, ha, hn⟩
  · refine .inl ⟨by rw [h0], fun i hlo hi => ?_⟩
    exact hn i (by have := hi.1; rw [List.mem_range'_1]; omega) hi
  · have hs := StrLaws.range'_split_from e
    refine .inr ⟨a, ((forIn (List.range' lo (hi + 1 - lo)) ((#[] : Array Nat), lo) (StrLaws.occBody x y hi limit)).run.fst.toList).tail, ?_, hs.1, ha, fun k hk0 hk => hn k (hs.2 k hk0 hk)⟩
    generalize (forIn (List.range' lo (hi + 1 - lo)) ((#[] : Array Nat), lo) (StrLaws.occBody x y hi limit)).run.fst = arr at h0
    have h1 : arr.toList[0]? = some a := by simpa using h0
    cases hL : arr.toList with
    | nil => rw [hL] at h1; cases h1
    | cons b t => rw [hL] at h1; simp at h1; rw [h1]; rfl
theorem at_one {s : List Nat} {c hi i : Nat} : StrLaws.At (toS s) ⟨#[c]⟩ hi i ↔ i + 1 ≤ hi ∧ s[i]? = some c := by
  unfold StrLaws.At
  rw [StrLaws.subAt_eq, toS_list]
  show i + 1 ≤ hi ∧ ((s.drop i).take 1 == [c]) = true ↔ _
  rw [StrLaws.take1_drop]
theorem td_get {s : List Nat} {hi lo m : Nat} : ((s.take hi).drop lo)[m]? = if lo + m < hi then s[lo + m]? else none := by
  rw [List.getElem?_drop, List.getElem?_take]
theorem fnd_eq (s : List Nat) (c lo hi : Nat) : (match Builtin.Str.occurrences (toS s) ⟨#[c]⟩ lo hi 1 with | k :: _ => (k : Int) | [] => -1) = fnd s c lo hi := by
  unfold fnd
  rcases occ_head_in (toS s) ⟨#[c]⟩ lo hi 1 (Nat.le_refl 1) with ⟨h0, hn⟩ | ⟨i, r, h0, hlo, ha, hn⟩
  · rw [h0]
    cases e : fndL c ((s.take hi).drop lo) lo with
    | none => rfl
    | some j =>
      exfalso
      obtain ⟨h1, h2, _⟩ := fndL_some e
      rw [td_get] at h2
      split at h2
      · rename_i hlt
        exact hn (lo + (j - lo)) (by omega) (at_one.mpr ⟨by omega, h2⟩)
      · cases h2
  · rw [h0]
    obtain ⟨a1, a2⟩ := at_one.mp ha
    cases e : fndL c ((s.take hi).drop lo) lo with
    | none =>
      exfalso
      refine fndL_none e (i - lo) ?_
      rw [td_get, if_pos (by omega), show lo + (i - lo) = i by omega]
      exact a2
    | some j =>
      obtain ⟨h1, h2, h3⟩ := fndL_some e
      rw [td_get] at h2
      split at h2
      · rename_i hlt
        have ej : lo + (j - lo) = j := by omega
        rw [ej] at h2
        rcases Nat.lt_trichotomy i j with z | z | z
        · exfalso
          refine h3 (i - lo) (by omega) ?_
          rw [td_get, if_pos (by omega), show lo + (i - lo) = i by omega]
          exact a2
        · rw [z]
        · exact absurd (at_one.mpr ⟨by omega, h2⟩) (hn j h1 z)
      · cases h2

/-! ### methods -/
def rMt (K : PySem.W.Frag) (m : Mt) : V → List V → Hp → VK → Prop := fun x xs H Q => ∃ α h d es r h', RepH K α H h ∧ VR K α H d x ∧ VRs K α H es xs ∧ mtD h m d es = .ok r h' ∧
  ∀ α' H', Ext α H α' H' → RepH K α' H' h' → ∀ v, VR K α' H' r v → Q v H'
theorem MtR.at {id : String} {r' : V → List V → Hp → VK → Prop} (h : ∀ x xs H Q, r' x xs H Q → ∃ r, MtR X id r ∧ r x xs H Q) : MtR X id r' := fun pins s σ H x xs v us Q I rx rs q => by
  obtain ⟨r, h1, h2⟩ := h _ _ _ _ q
  exact h1 pins s σ H x xs v us Q I rx rs h2
theorem append_ok : MtR X "list.append" (rMt X.K .append) := MtR.at fun x xs H Q q => by
  obtain ⟨α, h, d, es, r, h', rp, hd, he, hf, q⟩ := q
  simp only [mtD] at hf
  unfold appD at hf
  split at hf
  · split at hf
    · rename_i n y _ xs' hl
      split at hf
      · rename_i hz
        cases hf
        obtain ⟨a, vs, ha, rfl, h1, h2⟩ := rp.ref hd hl
        unfold VRs at he
        obtain ⟨w', us, rfl, g1, g2⟩ := he
        unfold VRs at g2
        subst g2
        refine ⟨_, mt_append, a, vs, w', rfl, rfl, h1, by rw [h2.length, SL_eq]; exact hz, ?_⟩
        have e := Ext.write (u := .lst (vs ++ [w'])) rp ha (.lst h1)
        exact q _ _ e (rp.write ha (.lst h1) ⟨_, upd_same, (h2.ext e).append (VRs.one (g1.ext e))⟩) _ rfl
      · cases hf
    · cases hf
  · cases hf
theorem vrs1 {d : D} {vs : List V} (h : VRs K α H [d] vs) : ∃ v, vs = [v] ∧ VR K α H d v := by
  unfold VRs at h
  obtain ⟨v, us, rfl, h1, h2⟩ := h
  unfold VRs at h2
  subst h2
  exact ⟨v, rfl, h1⟩
theorem vrs2 {d e : D} {vs : List V} (h : VRs K α H [d, e] vs) : ∃ v u, vs = [v, u] ∧ VR K α H d v ∧ VR K α H e u := by
  unfold VRs at h
  obtain ⟨v, us, rfl, h1, h2⟩ := h
  obtain ⟨u, rfl, h3⟩ := vrs1 h2
  exact ⟨v, u, rfl, h1, h3⟩
theorem vrs3 {d e f : D} {vs : List V} (h : VRs K α H [d, e, f] vs) : ∃ v u w, vs = [v, u, w] ∧ VR K α H d v ∧ VR K α H e u ∧ VR K α H f w := by
  unfold VRs at h
  obtain ⟨v, us, rfl, h1, h2⟩ := h
  obtain ⟨u, w, rfl, h3, h4⟩ := vrs2 h2
  exact ⟨v, u, w, rfl, h1, h3, h4⟩
theorem find3_eq (s : List Nat) (c : Nat) (i : Int) : Txt.find3 (toS s) ⟨#[c]⟩ i = fnd s c (fromIx s.length i) s.length := by
  rw [← fnd_eq, ← toS_length s]
  unfold Txt.find3
  rfl
theorem find4_eq (s : List Nat) (c : Nat) (i j : Int) (hj : 0 ≤ j) : Txt.findIn (toS s) ⟨#[c]⟩ i j = fnd s c (fromIx s.length i) (min j.toNat s.length) := by
  have e : toIndexW (toS s).length j = min j.toNat s.length := by
    unfold toIndexW
    rw [if_neg (by omega), toS_length]
    have : max 0 j = j := by omega
    rw [this]
  rw [← fnd_eq, ← e]
  unfold Txt.findIn
  rw [toS_length]
  rfl
theorem find2_ok : MtR X "str.find" (rMt X.K .find2) := MtR.at fun x xs H Q q => by
  obtain ⟨α, h, d, es, r, h', rp, hd, he, hf, q⟩ := q
  simp only [mtD] at hf
  unfold fnd2D at hf
  split at hf
  · cases hf
    obtain ⟨v, u, rfl, h1, h2⟩ := vrs2 he
    rw [vr_str hd, vr_str h1, vr_int h2]
    refine ⟨_, mt_find3, _, _, _, rfl, rfl, ?_⟩
    rw [show toS [_] = (⟨#[_]⟩ : Str) from rfl, find3_eq]
    exact fin0 q rp rfl
  · cases hf
theorem find3_ok : MtR X "str.find" (rMt X.K .find3) := MtR.at fun x xs H Q q => by
  obtain ⟨α, h, d, es, r, h', rp, hd, he, hf, q⟩ := q
  simp only [mtD] at hf
  unfold fnd3D at hf
  split at hf
  · split at hf
    · rename_i hj
      cases hf
      obtain ⟨v, u, w, rfl, h1, h2, h3⟩ := vrs3 he
      rw [vr_str hd, vr_str h1, vr_int h2, vr_int h3]
      refine ⟨_, mt_find4, _, _, _, _, rfl, rfl, ?_⟩
      rw [show toS [_] = (⟨#[_]⟩ : Str) from rfl, find4_eq _ _ _ _ hj]
      exact fin0 q rp rfl
    · cases hf
  · cases hf

/-! ### join -/
theorem strs_vr : ∀ {ds : List D} {vs : List V} {ss : List (List Nat)}, strsOf ds = some ss → VRs K α H ds vs → vs = (ss.map toS).map V.str
  | [], vs, ss, e, h => by cases e; exact h
  | d :: r, vs, ss, e, h => by
    unfold VRs at h
    obtain ⟨v, us, rfl, h1, h2⟩ := h
    cases d <;> simp only [strsOf] at e <;> try contradiction
    obtain ⟨cs, hc, rfl⟩ := Option.map_eq_some_iff.mp e
    rw [vr_str h1, strs_vr hc h2]
    rfl
theorem app_toS (a b : List Nat) : toS a ++ toS b = toS (a ++ b) := by
  show Str.append _ _ = _
  simp [Str.append, toS]
theorem join_toS (a : List Nat) : ∀ ss : List (List Nat), Str.join (toS a) (ss.map toS) = toS (joinS a ss)
  | [] => rfl
  | [x] => rfl
  | x :: y :: r => by
    have ih := join_toS a (y :: r)
    show toS x ++ toS a ++ Str.join (toS a) ((y :: r).map toS) = toS (x ++ a ++ joinS a (y :: r))
    rw [ih, app_toS, app_toS]
/-- sep.join of a list that nothing leads to -/
def rMl (K : PySem.W.Frag) (m : Ml) : V → List V → Hp → VK → Prop := fun x xs H Q => ∃ α h d ds p vs r, xs = [.ref p] ∧ RepH K α H h ∧ VR K α H d x ∧ H p = some (.lst vs) ∧ VRs K α H ds vs ∧ mlD m d ds = some r ∧ ∀ v, VR K α H r v → Q v H
theorem join_ok : MtR X "str.join" (rMl X.K .join) := MtR.at fun x xs H Q q => by
  obtain ⟨α, h, d, ds, p, vs, r, rfl, rp, hd, hp, hv, hf, q⟩ := q
  unfold mlD at hf
  split at hf
  · split at hf
    · rename_i ys hy
      split at hf
      · rename_i hz
        cases hf
        rw [vr_str hd]
        rw [strs_vr hy hv] at hp
        refine ⟨_, mt_join, _, p, ys.map toS, rfl, rfl, .inl (SqL.of hp), ?_, ?_⟩
        · rw [toS_length, List.length_map, List.map_map]
          have e : (List.map ((fun x => x.length) ∘ toS) ys) = ys.map (·.length) := by
            refine List.map_congr_left fun s _ => ?_
            exact toS_length s
          rw [e]
          exact hz
        · rw [show Txt.join (toS _) (ys.map toS) = Str.join (toS _) (ys.map toS) from _root_.TL.join_eq _ _, join_toS]
          exact q _ rfl
      · cases hf
    · cases hf
  · rename_i h1 _ _ _ _
    cases hf

theorem joinR_ok : MtR X "str.join" (rMt X.K .join) := fun pins s σ H x xs v us Q I rx rs q => by
  obtain ⟨α, h, d, es, r, h', rp, hd, he, hf, q⟩ := q
  simp only [mtD] at hf
  unfold joiD at hf
  split at hf
  · split at hf
    · rename_i n _ ds hn
      cases hm : mlD .join (.str _) ds with
      | none => rw [hm] at hf; cases hf
      | some r' =>
        rw [hm] at hf
        cases hf
        obtain ⟨v1, rfl, h1⟩ := vrs1 he
        obtain ⟨a, vs, _, rfl, h2, h3⟩ := rp.ref h1 hn
        exact join_ok pins s σ H x _ v us Q I rx rs ⟨α, h, _, ds, a, vs, r, rfl, rp, hd, h2, h3, hm, fun v hv => q _ _ Ext.refl rp v hv⟩
    · cases hf
  · cases hf

/-! ### replace -/
theorem rep1_eq (c : Nat) (z : List Nat) : ∀ l : List Nat, StrLaws.replL [c] z l = rep1 c z l
  | [] => by rw [StrLaws.replL_nil]; rfl
  | x :: r => by
    unfold rep1
    rw [List.flatMap_cons]
    by_cases h : x = c
    · rw [StrLaws.replL_hit (by simp) (by simp [h]), if_pos h]
      show z ++ StrLaws.replL [c] z r = _
      rw [rep1_eq c z r]
      rfl
    · rw [StrLaws.replL_miss (by simp [h]), if_neg h, rep1_eq c z r]
      rfl
theorem repl_eq (c : Nat) (z l : List Nat) : Txt.replace (toS l) (toS [c]) (toS z) = toS (rep1 c z l) := by
  have e := StrLaws.replace_list (x := toS l) (y := toS [c]) (z := toS z) (by simp [Str.length, toS])
  rw [toS_list, toS_list, toS_list, rep1_eq] at e
  rw [← toS_cps (Txt.replace (toS l) (toS [c]) (toS z)), e]
end
end FD

set_option Elab.async false
set_option linter.all false
set_option maxRecDepth 100000
set_option maxHeartbeats 1000000
/-! The D layer, 5b: split, partition, f-strings. -/
namespace FD
open PySem PySem.Spec PyProof.Rows L2
section
variable {K : PySem.W.Frag} {α α1 : List Addr} {H H1 : Hp} {h : DH} {X : Cx}
theorem pre_one {c x : Nat} {r : List Nat} : TL.pre [c] (x :: r) = (x == c) := by
  show (([x] : List Nat) == [c]) = _
  rw [Bool.eq_iff_iff, beq_iff_eq, beq_iff_eq]
  exact ⟨fun z => by cases z; rfl, fun z => by rw [z]⟩
theorem splitC_ne : ∀ (c : Nat) (l : List Nat), ∃ y ys, splitC c l = y :: ys
  | _, [] => ⟨[], [], rfl⟩
  | c, x :: r => by
    unfold splitC
    split
    · exact ⟨_, _, rfl⟩
    · obtain ⟨y, ys, e⟩ := splitC_ne c r
      rw [e]
      exact ⟨_, _, rfl⟩
theorem spl_one (c : Nat) : ∀ (l acc : List Nat), ∃ y ys, splitC c l = y :: ys ∧ TL.spl [c] 0 acc l = (acc ++ y) :: ys
  | [], acc => ⟨[], [], rfl, by rw [TL.spl_nil]; simp⟩
  | x :: r, acc => by
    unfold splitC
    by_cases hx : x = c
    · rw [if_pos hx]
      have hp : TL.pre [c] (x :: r) = true := by rw [pre_one, hx]; simp
      rw [TL.spl_hit hp]
      obtain ⟨y, ys, e1, e2⟩ := spl_one c r []
      refine ⟨[], _, rfl, ?_⟩
      show acc :: TL.spl [c] 0 [] r = _
      rw [e2, e1]
      simp
    · rw [if_neg hx]
      have hp : TL.pre [c] (x :: r) = false := by rw [pre_one]; simpa using hx
      rw [TL.spl_miss hp]
      obtain ⟨y, ys, e1, e2⟩ := spl_one c r (acc ++ [x])
      rw [e1]
      exact ⟨x :: y, ys, rfl, by rw [e2]; simp⟩
theorem tl_toS (s : List Nat) : TL.tl (toS s) = s := toS_list s
theorem tl_inj {l : List Str} {m : List (List Nat)} (h : l.map TL.tl = m) : l = m.map toS := by
  refine TL.map_tl_inj ?_
  rw [h, List.map_map]
  have : TL.tl ∘ toS = id := funext fun s => tl_toS s
  rw [this, List.map_id]
theorem kindS {c : Nat} (hc : c < 256) : (toS [c]).cps.all (· < 256) = true := by
  rw [← Array.all_toList, toS_list]
  simp [hc]
theorem split_toS (s : List Nat) {c : Nat} (hc : c < 256) : Txt.split (toS s) (toS [c]) = (splitC c s).map toS := by
  refine tl_inj ?_
  have e := TL.split_spl (toS s) (toS [c]) (by rw [tl_toS]; simp) (TL.kind_ok (kindS hc))
  rw [e, tl_toS, tl_toS]
  obtain ⟨y, ys, e1, e2⟩ := spl_one c s []
  rw [e1, e2]
  rfl
theorem partC_cons {c x : Nat} {r : List Nat} : partC c (x :: r) = if x = c then ([], [c], r) else (x :: (partC c r).1, (partC c r).2) := rfl
theorem par_one (c : Nat) : ∀ (l acc : List Nat), TL.par [c] acc l = if c ∈ l then some (acc ++ (partC c l).1, (partC c l).2.2) else none
  | [], acc => by simp [TL.par]
  | x :: r, acc => by
    have ih := par_one c r (acc ++ [x])
    show (if TL.pre [c] (x :: r) = true then some (acc, (x :: r).drop 1) else TL.par [c] (acc ++ [x]) r) = _
    rw [pre_one, ih, partC_cons]
    by_cases hx : x = c
    · subst hx; simp
    · have : ¬ c = x := fun z => hx z.symm
      simp [hx, this]
theorem partC_mid (c : Nat) : ∀ l : List Nat, (partC c l).2.1 = if c ∈ l then [c] else []
  | [] => rfl
  | x :: r => by
    have ih := partC_mid c r
    rw [partC_cons]
    by_cases hx : x = c
    · subst hx; simp
    · have : ¬ c = x := fun z => hx z.symm
      simp [hx, this, ih]
theorem partC_no (c : Nat) : ∀ l : List Nat, c ∉ l → (partC c l) = (l, [], [])
  | [], _ => rfl
  | x :: r, h => by
    have hx : ¬ x = c := fun z => h (by rw [z]; exact List.mem_cons_self)
    have ih := partC_no c r fun z => h (List.mem_cons_of_mem _ z)
    rw [partC_cons, if_neg hx, ih]
theorem part_toS (s : List Nat) (c : Nat) : Txt.partition (toS s) (toS [c]) = (toS (partC c s).1, toS (partC c s).2.1, toS (partC c s).2.2) := by
  rw [TL.partition_par (toS s) (toS [c]) (by rw [tl_toS]; simp), tl_toS, tl_toS, par_one, partC_mid]
  by_cases hc : c ∈ s
  · rw [if_pos hc, if_pos hc]
    rfl
  · rw [if_neg hc, if_neg hc, partC_no c s hc]
    rfl
theorem vrs_map : ∀ ss : List (List Nat), VRs K α H (ss.map D.str) ((ss.map toS).map V.str)
  | [] => rfl
  | z :: zs => ⟨.str (toS z), _, rfl, rfl, vrs_map zs⟩
theorem split_ok : MtR X "str.split" (rMt X.K .split) := MtR.at fun x xs H Q q => by
  obtain ⟨α, h, d, es, r, h', rp, hd, he, hf, q⟩ := q
  simp only [mtD] at hf
  unfold splD at hf
  split at hf
  · rename_i s c
    split at hf
    · rename_i hz
      cases hf
      obtain ⟨v, rfl, h1⟩ := vrs1 he
      rw [vr_str hd, vr_str h1]
      refine ⟨_, mt_split, _, _, rfl, rfl, by rw [toS_length]; rfl, by rw [toS_length, SL_eq]; exact hz.1, fun p hp => ?_⟩
      rw [split_toS s hz.2]
      exact fin1 q rp hp (vrs_map _)
    · cases hf
  · cases hf
theorem part_ok : MtR X "str.partition" (rMt X.K .part) := MtR.at fun x xs H Q q => by
  obtain ⟨α, h, d, es, r, h', rp, hd, he, hf, q⟩ := q
  simp only [mtD] at hf
  unfold parD at hf
  split at hf
  · rename_i s c
    split at hf
    · rename_i hz
      cases hf
      obtain ⟨v, rfl, h1⟩ := vrs1 he
      rw [vr_str hd, vr_str h1]
      refine ⟨_, mt_partition, _, _, rfl, rfl, by rw [toS_length]; rfl, by rw [toS_length, SL_eq]; exact hz, fun p hp => ?_⟩
      rw [part_toS]
      have e0 := Ext.laid (α := α) (o := .tup [.str (toS (partC c s).1), .str (toS (partC c s).2.1), .str (toS (partC c s).2.2)]) hp
      exact q _ _ e0 (rp.laid hp) _ ⟨p, _, rfl, SqT.of upd_same, vrs_map [(partC c s).1, (partC c s).2.1, (partC c s).2.2]⟩
    · cases hf
  · cases hf
/-- x.rpartition(sep) of a text without it -/
theorem mt_rpartition : MtR X "str.rpartition" (fun x xs H Q => ∃ a b, x = .str a ∧ xs = [.str b] ∧ (b.length == 0) = false ∧ a.length ≤ sizeLine ∧ Builtin.Str.lastOccurrence a b 0 a.length = none ∧
    ∀ p, H p = none → Q (.ref p) (upd H p (.tup [.str Str.empty, .str Str.empty, .str a]))) := by
  intro pins s σ H x xs v us Q I rx rs h
  obtain ⟨a, b, rfl, rfl, hb, hz, hn, h⟩ := h
  obtain ⟨t, rfl⟩ := rx
  cases rs with
  | cons r1 rs =>
    cases rs
    obtain ⟨u, rfl⟩ := r1
    refine call_meets F.slot_str_rpartition (typeIs_str _ _ _) F.entry_str_rpartition (F.args_str_rpartition_2 _ _) (meets_str_rpartition a b t u hb hz) ?_
    rw [hn]
    exact laid_parts I h
theorem last_none {s : List Nat} {c : Nat} (h : s.contains c = false) : Builtin.Str.lastOccurrence (toS s) (toS [c]) 0 (toS s).length = none := by
  rcases StrLaws.last_spec (toS s) (toS [c]) with ⟨e, _⟩ | ⟨i, _, ha, _⟩
  · exact e
  · exfalso
    have := (StrLaws.subAt_one (toS s) c i).mp ha
    have hm : c ∈ s := List.mem_iff_getElem?.mpr ⟨i, by simpa using this⟩
    have : s.contains c = true := by simpa using hm
    rw [this] at h
    cases h
theorem rpart_ok : MtR X "str.rpartition" (rMt X.K .rpart) := MtR.at fun x xs H Q q => by
  obtain ⟨α, h, d, es, r, h', rp, hd, he, hf, q⟩ := q
  simp only [mtD] at hf
  unfold rparD at hf
  split at hf
  · rename_i s c
    split at hf
    · rename_i hz
      cases hf
      obtain ⟨v, rfl, h1⟩ := vrs1 he
      rw [vr_str hd, vr_str h1]
      refine ⟨_, mt_rpartition, _, _, rfl, rfl, by rw [toS_length]; rfl, by rw [toS_length, SL_eq]; exact hz.1, last_none hz.2, fun p hp => ?_⟩
      have e0 := Ext.laid (α := α) (o := .tup [.str Str.empty, .str Str.empty, .str (toS s)]) hp
      exact q _ _ e0 (rp.laid hp) _ ⟨p, _, rfl, SqT.of upd_same, vrs_map [[], [], s]⟩
    · cases hf
  · cases hf

/-! ### split with a bound -/
/-- the places of a sign, counted from k -/
def posC (c : Nat) : List Nat → Nat → List Nat
  | [], _ => []
  | x :: r, k => if x = c then k :: posC c r (k + 1) else posC c r (k + 1)
theorem occ_pos (s : List Nat) (c limit : Nat) : ∀ (m cur : Nat) (st : Array Nat × Nat), cur + m = s.length + 1 → st.snd ≤ cur → st.fst.size ≤ limit →
    (forIn (List.range' cur m) st (StrLaws.occBody (toS s) ⟨#[c]⟩ s.length limit)).run.fst.toList = st.fst.toList ++ (posC c (s.drop cur) cur).take (limit - st.fst.size)
  | 0, cur, st, h, hs, hl => by
    rw [List.drop_eq_nil_of_le (by omega)]
    simp [posC]
  | m + 1, cur, st, h, hs, hl => by
    rw [List.range'_succ, List.forIn_cons]
    unfold StrLaws.occBody
    by_cases hc : s[cur]? = some c
    · have hlt : cur < s.length := (List.getElem?_eq_some_iff.mp hc).1
      have hd : s.drop cur = c :: s.drop (cur + 1) := by
        rw [List.drop_eq_getElem_cons hlt]
        congr 1
        rw [List.getElem?_eq_getElem hlt] at hc
        exact Option.some.inj hc
      have hsub : Builtin.Str.subAt (toS s) ⟨#[c]⟩ cur = true := (at_one (hi := s.length).mpr ⟨by omega, hc⟩).2
      by_cases hz : st.fst.size < limit
      · rw [if_pos ⟨⟨⟨hz, hs⟩, by show cur + 1 ≤ s.length; omega⟩, hsub⟩]
        have ih := occ_pos s c limit m (cur + 1) (st.fst.push cur, cur + 1) (by omega) (Nat.le_refl _) (by rw [Array.size_push]; omega)
        refine ih.trans ?_
        rw [Array.toList_push, Array.size_push, hd, List.append_assoc]
        congr 1
        show _ = List.take (limit - st.fst.size) (if c = c then cur :: posC c (s.drop (cur + 1)) (cur + 1) else _)
        rw [if_pos rfl, show limit - st.fst.size = (limit - (st.fst.size + 1)) + 1 by omega, List.take_succ_cons]
        rfl
      · rw [if_neg (by omega)]
        have ih := occ_pos s c limit m (cur + 1) st (by omega) (by omega) hl
        refine ih.trans ?_
        rw [show limit - st.fst.size = 0 by omega, List.take_zero, List.take_zero]
    · have hno : ¬ (((st.fst.size < limit ∧ st.snd ≤ cur) ∧ cur + (⟨#[c]⟩ : Str).length ≤ s.length) ∧ Builtin.Str.subAt (toS s) ⟨#[c]⟩ cur = true) := fun z => hc (at_one (hi := s.length).mp ⟨z.1.2, z.2⟩).2
      rw [if_neg hno]
      have ih := occ_pos s c limit m (cur + 1) st (by omega) (by omega) hl
      refine ih.trans ?_
      congr 1
      by_cases hlt : cur < s.length
      · rw [List.drop_eq_getElem_cons hlt]
        have hx : ¬ s[cur] = c := fun z => hc (by rw [List.getElem?_eq_getElem hlt, z])
        show _ = List.take _ (if s[cur] = c then _ else posC c (s.drop (cur + 1)) (cur + 1))
        rw [if_neg hx]
      · rw [List.drop_eq_nil_of_le (by omega), List.drop_eq_nil_of_le (by omega)]
        rfl
theorem occ_posC (s : List Nat) (c limit : Nat) : Builtin.Str.occurrences (toS s) ⟨#[c]⟩ 0 (toS s).length limit = (posC c s 0).take limit := by
  rw [StrLaws.occ_eq, toS_length]
  have := occ_pos s c limit (s.length + 1 - 0) 0 (#[], 0) (by omega) (Nat.le_refl _) (Nat.zero_le _)
  simpa using this
theorem posC_nil {c : Nat} : ∀ {l : List Nat} {k n : Nat}, posC c l k = [] → splitCN c n l = [l]
  | [], k, n, _ => by cases n <;> rfl
  | x :: r, k, n, h => by
    unfold posC at h
    split at h
    · cases h
    · rename_i hx
      cases n with
      | zero => rfl
      | succ n =>
        unfold splitCN
        rw [if_neg hx, posC_nil h]
theorem posC_cons {c : Nat} : ∀ {l : List Nat} {k p : Nat} {rest : List Nat}, posC c l k = p :: rest → ∃ l1 l2, l = l1 ++ c :: l2 ∧ p = k + l1.length ∧ rest = posC c l2 (p + 1) ∧ ∀ n, splitCN c (n + 1) l = l1 :: splitCN c n l2
  | [], k, p, rest, h => by cases h
  | x :: r, k, p, rest, h => by
    unfold posC at h
    split at h
    · rename_i hx
      cases h
      refine ⟨[], r, by rw [hx]; rfl, rfl, rfl, fun n => ?_⟩
      show (if x = c then _ else _) = _
      rw [if_pos hx]
    · rename_i hx
      obtain ⟨l1, l2, rfl, h2, h3, h4⟩ := posC_cons h
      refine ⟨x :: l1, l2, rfl, by rw [h2, List.length_cons]; omega, h3, fun n => ?_⟩
      show (if x = c then _ else _) = _
      rw [if_neg hx, h4 n]
theorem parts_splitN (s : List Nat) (c : Nat) : ∀ (n a : Nat), a ≤ s.length → (StrLaws.partsFrom (toS s) 1 a ((posC c (s.drop a) a).take n)).map TL.tl = splitCN c n (s.drop a)
  | 0, a, ha => by
    show [TL.tl (Builtin.Str.strSub (toS s) a (toS s).length)] = _
    rw [TL.tl_strSub_end, tl_toS]
    cases s.drop a <;> rfl
  | n + 1, a, ha => by
    cases hp : posC c (s.drop a) a with
    | nil =>
      show [TL.tl (Builtin.Str.strSub (toS s) a (toS s).length)] = _
      rw [TL.tl_strSub_end, tl_toS, posC_nil hp]
    | cons p rest =>
      obtain ⟨l1, l2, h1, h2, h3, h4⟩ := posC_cons hp
      have hl := congrArg List.length h1
      rw [List.length_drop, List.length_append, List.length_cons] at hl
      have hd : s.drop (p + 1) = l2 := by
        have e : p + 1 = a + (l1 ++ [c]).length := by rw [List.length_append, List.length_singleton]; omega
        rw [e, ← List.drop_drop, h1]
        have : l1 ++ c :: l2 = (l1 ++ [c]) ++ l2 := by simp
        rw [this, List.drop_left]
      rw [List.take_succ_cons]
      show TL.tl (Builtin.Str.strSub (toS s) a p) :: (StrLaws.partsFrom (toS s) 1 (p + 1) (rest.take n)).map TL.tl = _
      have ih := parts_splitN s c n (p + 1) (by omega)
      rw [hd] at ih
      rw [h3, ih, h4 n, TL.tl_strSub, tl_toS, h1, h2]
      congr 1
      rw [show a + l1.length - a = l1.length by omega, List.take_left]
theorem splitN_toS (s : List Nat) {c : Nat} (hc : c < 256) {k : Int} (hk : 0 ≤ k) : Txt.splitMax (toS s) (toS [c]) k = (splitCN c k.toNat s).map toS := by
  refine tl_inj ?_
  have e1 : toS [c] = (⟨#[c]⟩ : Str) := rfl
  have ho := occ_posC s c k.toNat
  have hp := parts_splitN s c k.toNat 0 (Nat.zero_le _)
  rw [List.drop_zero] at hp
  have lim : PySem.limitOf (toS s) k = k.toNat := by unfold PySem.limitOf; rw [if_neg (by omega)]
  unfold Txt.splitMax
  rw [e1, lim, ho]
  by_cases h1 : (decide ((toS s).length < (⟨#[c]⟩ : Str).length) || decide (Builtin.Str.strKind (toS s) < Builtin.Str.strKind ⟨#[c]⟩)) = true
  · rw [if_pos h1]
    have hlt : s = [] := by
      simp only [Bool.or_eq_true, decide_eq_true_eq] at h1
      rcases h1 with h | h
      · rw [toS_length] at h
        exact List.length_eq_zero_iff.mp (Nat.lt_one_iff.mp h)
      · exact absurd h (TL.kind_ok (kindS hc))
    subst hlt
    show [TL.tl (toS [])] = _
    rw [tl_toS]
    cases k.toNat <;> rfl
  · rw [if_neg h1]
    by_cases h2 : ((posC c s 0).take k.toNat).isEmpty = true
    · rw [if_pos h2]
      rw [List.isEmpty_iff.mp h2] at hp
      rw [← hp]
      show [TL.tl (toS s)] = [TL.tl (Builtin.Str.strSub (toS s) 0 (toS s).length)]
      rw [TL.tl_strSub_end, List.drop_zero]
    · rw [if_neg h2, StrLaws.partsBetween_eq]
      exact hp
theorem splitN_ok : MtR X "str.split" (rMt X.K .splitN) := MtR.at fun x xs H Q q => by
  obtain ⟨α, h, d, es, r, h', rp, hd, he, hf, q⟩ := q
  simp only [mtD] at hf
  unfold splND at hf
  split at hf
  · rename_i s c i
    split at hf
    · rename_i hz
      cases hf
      obtain ⟨v, u, rfl, h1, h2⟩ := vrs2 he
      rw [vr_str hd, vr_str h1, vr_int h2]
      have b : (SL : Int) ≤ 2 ^ 63 := by decide
      refine ⟨_, mt_splitMax, _, _, _, rfl, rfl, by rw [toS_length]; rfl, ?_, ?_, by rw [toS_length, SL_eq]; exact hz.1, fun p hp => ?_⟩
      · have := hz.2.1; omega
      · exact Int.lt_of_lt_of_le hz.2.2.1 b
      · rw [splitN_toS s hz.2.2.2 hz.2.1]
        exact fin1 q rp hp (vrs_map _)
    · cases hf
  · cases hf
end
end FD

set_option Elab.async false
set_option linter.all false
set_option maxRecDepth 100000
set_option maxHeartbeats 1000000
/-! itertools.accumulate of a list of ints, summed. -/
namespace FD
open PySem PySem.Spec PyProof.Rows
/-! ### facts of the type -/
theorem own_ac : Manifest.owners.lookup (String.ofList (['e', 't', 'a', 'l', 'u', 'm', 'u', 'c', 'c', 'a', '.', 's', 'l', 'o', 'o', 't', 'r', 'e', 't', 'i'].reverse)) = some Manifest.sig_itertools_accumulate := by kernel_rfl
theorem ac_next : Slot "itertools.accumulate" "__next__" "itertools.accumulate.__next__" := .of (owner := "itertools.accumulate") (n := "__next__") (by rw [typeLookup_type, builtinLookup_eq_fast]; kernel_rfl) (by decide +kernel)
  (by decide +kernel) (by decide +kernel) (by first | exact .inl (by decide +kernel) | exact .inr (by decide +kernel)) (by rw [isSubtype_type]; kernel_rfl)
theorem ac_nextE : entryFor table "itertools.accumulate.__next__" = some Builtin.«itertools.accumulate.__next__» := entryFor_of_tree (by kernel_rfl)
theorem ac_nextA (a : Value) : argsOk "itertools.accumulate.__next__" ⟨[a], []⟩ := by
  unfold argsOk
  rw [signature?_of (id := "itertools.accumulate.__next__") (n := ['_', '_', 't', 'x', 'e', 'n', '_', '_']) (by kernel_rfl) own_ac]
  kernel_rfl
theorem ac_iter : Slot "itertools.accumulate" "__iter__" "itertools.accumulate.__iter__" := .of (owner := "itertools.accumulate") (n := "__iter__") (by rw [typeLookup_type, builtinLookup_eq_fast]; kernel_rfl) (by decide +kernel)
  (by decide +kernel) (by decide +kernel) (by first | exact .inl (by decide +kernel) | exact .inr (by decide +kernel)) (by rw [isSubtype_type]; kernel_rfl)
theorem ac_iterA (a : Value) : argsOk "itertools.accumulate.__iter__" ⟨[a], []⟩ := by
  unfold argsOk
  rw [signature?_of (id := "itertools.accumulate.__iter__") (n := ['_', '_', 'r', 'e', 't', 'i', '_', '_']) (by kernel_rfl) own_ac]
  kernel_rfl
theorem ac_iterE : entryFor table "itertools.accumulate.__iter__" = some Builtin.«dict_keyiterator.__iter__» :=
  entryFor_alias (id' := "dict_keyiterator.__iter__") (by kernel_rfl) (by first | rfl | decide +kernel | (unfold String.splitOn; simp +decide [String.splitOnAux])) (by decide +kernel) (by kernel_rfl)
theorem ac_init : Slot "itertools.accumulate" "__init__" "object.__init__" := .of (owner := "object") (n := "__init__") (by rw [typeLookup_type, builtinLookup_eq_fast]; kernel_rfl) (by decide +kernel)
  (by decide +kernel) (by decide +kernel) (by first | exact .inl (by decide +kernel) | exact .inr (by decide +kernel)) (by rw [isSubtype_type]; kernel_rfl)
theorem ac_mro : mroOf (.type "itertools.accumulate") = pure [.type "itertools.accumulate", .type "object"] := by rw [mroOf_type]; kernel_rfl
theorem ac_new : typeLookup (.type "itertools.accumulate") "__new__" = pure (some (.builtin "itertools.accumulate.__new__")) := by rw [typeLookup_type, builtinLookup_eq_fast]; kernel_rfl
theorem ac_sub : isSubtype (.type "itertools.accumulate") (.type "itertools.accumulate") = pure true := by rw [isSubtype_type]; kernel_rfl
theorem ac_called : TypeCalled "itertools.accumulate" "itertools.accumulate.__new__" "object.__init__" :=
  ⟨by decide +kernel, by decide +kernel, ⟨_, _, ac_mro⟩, madeBy_type ac_mro ac_new (by decide +kernel), by decide +kernel, ac_sub, ac_init⟩
theorem ac_typeCall (a : Value) : checkTypeCall "itertools.accumulate" ⟨[a], []⟩ = pure () := by kernel_rfl
theorem ac_newCall (a : Value) : checkBuiltinCall "itertools.accumulate.__new__" ⟨[.type "itertools.accumulate", a], []⟩ = pure () := by kernel_rfl
theorem ac_newE : entryFor table "itertools.accumulate.__new__" = some Builtin.«itertools.accumulate.__new__» := entryFor_of_tree (by kernel_rfl)
/-- the object: over it, its total so far -/
abbrev IsAcc (h : Heap) (m it : Addr) (t : Value) : Prop := h.get? m = some { cls := .type "itertools.accumulate", dict := none, data := .fields #[.ref it, .none, t, .none], slots := #[] }
section
variable {prog : Program} {w : World} {A : Around} {E : Value → Shared → Prop} {s : Shared}
abbrev acM (h : Heap) (itv : Value) : Heap := h.push { cls := .type "itertools.accumulate", data := .fields #[itv, .none, .int 0 0, .none] }
theorem ac_newM (x : Value) : MeetsIn prog w (Builtin.«itertools.accumulate.__new__» ⟨[.type "itertools.accumulate", x], []⟩)
    (fun A R s => wpAny (model prog w) A.in1 (pyIter x) (fun itv s1 => R (.ok (.ret (.ref s1.heap.objs.size))) { s1 with heap := acM s1.heap itv }) (fun e s1 => R (.error e) s1) s) :=
  .of_wp fun A R s h => by
    unfold Builtin.«itertools.accumulate.__new__»
    have e1 : Builtin.Itertools.itClassAndRest "accumulate" ⟨[.type "itertools.accumulate", x], []⟩ = pure (.type "itertools.accumulate", [x]) := by
      unfold Builtin.Itertools.itClassAndRest
      simp only [isType, pure_bind, Bool.not_true, Bool.false_eq_true, if_false]
      have z : ("itertools." ++ "accumulate" : String) = "itertools.accumulate" := by decide
      rw [z, ac_sub]
      rfl
    refine wpAny_bind (wpAny_of_eq e1 ?_)
    dsimp only
    have e2 : Builtin.Itertools.itBindNamed "accumulate" ["iterable", "func", "initial"] 1 2 [x] [] = pure [some x, none, none] := by kernel_rfl
    refine wpAny_bind (wpAny_of_eq e2 ?_)
    dsimp only
    refine wpAny_bind (wpAny_mono h (fun itv s1 hR => ?_) fun _ _ z => z)
    unfold Builtin.Itertools.itNewRecord
    have e3 : typeHasDict (.type "itertools.accumulate") = false := by decide +kernel
    rw [e3]
    refine wpAny_bind ?_
    rw [if_pos (show (!false) = true from rfl)]
    refine wpAny_newObj_type ?_
    exact wpAny_pure ⟨_, rfl, hR⟩
theorem call_acc {x : Value} {Q : Value → Shared → Prop}
    (hx : wpAny (model prog w) A.in1.in1 (pyIter x) (fun itv s1 => Q (.ref s1.heap.objs.size) { s1 with heap := acM s1.heap itv }) E s) : wpAny (model prog w) A (call (.type "itertools.accumulate") [x]) Q E s := by
  refine callType_newIn ac_called (by decide) (ac_typeCall _) (ac_newCall _) (fun obj => F.args_object_init_2 obj _) ac_newE (ac_newM x) ?_
  refine wpAny_mono hx (fun itv s1 h => ?_) fun _ _ z => z
  exact ⟨⟨_, Heap.get?_push_size _ rfl, rfl⟩, h⟩
/-- the list iterator's next item, by its special method -/
theorem raw_item {it l : Addr} {i : Nat} {its : Array Value} {x : Value} {Q : Value → Shared → Prop} (hit : s.heap.IsListIter it l i) (hl : s.heap.IsList l its) (hx : its[i]? = some x)
    (hQ : ∀ h', h'.IsListIter it l (i + 1) → Heap.SameBut it s.heap h' → Q x { s with heap := h' }) : wpAny (model prog w) A (Builtin.Itertools.itRawNext (.ref it)) Q E s := by
  obtain ⟨o, ho, hc, hd⟩ := id hit
  obtain ⟨ol, h1, _, n, h2⟩ := hl
  unfold Builtin.Itertools.itRawNext
  refine wpAny_bind (wpAny_callSpecial?_slot (name := Str.ofString "__next__") hit.typeIs slot_listiter_next (wpAny_call_entry slot_listiter_next hit.typeIs entry_listiter_next ?_ (args_listiter_next _)))
  show wpAny _ _ (field (.ref it) 0 >>= fun l => _) _ _ s; refine wpAny_bind (wpAny_field ho hd (x := .ref l) rfl ?_)
  show wpAny _ _ (if (Value.ref l == .none) = true then _ else _) _ _ s; rw [if_neg (show ¬ (Value.ref l == .none) = true from Bool.false_ne_true)]
  show wpAny _ _ (field (.ref it) 1 >>= fun l => _) _ _ s; refine wpAny_bind (wpAny_field ho hd (x := .int i 0) rfl ?_)
  show wpAny _ _ (seqItems? (.ref l) >>= fun l => _) _ _ s; refine wpAny_bind (wpAny_seqItems h1 h2 ?_)
  simp only [Int.toNat_natCast, hx]
  refine wpAny_bind (wpAny_setField ho hd (by simp) (wpAny_pure ⟨x, rfl, wpAny_pure (hQ _ ⟨_, Heap.get?_update_self _ ho (Obj.isFreed_of_fields (Obj.data_mapFields hd _)), (Obj.cls_mapFields ..).trans hc, ?_⟩ (Heap.SameBut.update ..))⟩))
  rw [Obj.data_mapFields hd]; simp [rawInt]
theorem raw_end {it l : Addr} {i : Nat} {its : Array Value} {Q : Value → Shared → Prop} (hh : A.handled = none) (hit : s.heap.IsListIter it l i) (hl : s.heap.IsList l its) (hx : its[i]? = none)
    (hE : ∀ h' e, Heap.ExtBut it s.heap h' → (∃ o, h'.get? e = some o ∧ o.cls = .type "StopIteration") → E (.ref e) { s with heap := h' }) : wpAny (model prog w) A (Builtin.Itertools.itRawNext (.ref it)) Q E s := by
  obtain ⟨o, ho, hc, hd⟩ := id hit
  obtain ⟨ol, h1, _, n, h2⟩ := hl
  unfold Builtin.Itertools.itRawNext
  refine wpAny_bind (wpAny_callSpecial?_slot (name := Str.ofString "__next__") hit.typeIs slot_listiter_next (wpAny_call_entry slot_listiter_next hit.typeIs entry_listiter_next ?_ (args_listiter_next _)))
  show wpAny _ _ (field (.ref it) 0 >>= fun l => _) _ _ s; refine wpAny_bind (wpAny_field ho hd (x := .ref l) rfl ?_)
  show wpAny _ _ (if (Value.ref l == .none) = true then _ else _) _ _ s; rw [if_neg (show ¬ (Value.ref l == .none) = true from Bool.false_ne_true)]
  show wpAny _ _ (field (.ref it) 1 >>= fun l => _) _ _ s; refine wpAny_bind (wpAny_field ho hd (x := .int i 0) rfl ?_)
  show wpAny _ _ (seqItems? (.ref l) >>= fun l => _) _ _ s; refine wpAny_bind (wpAny_seqItems h1 h2 ?_)
  simp only [Int.toNat_natCast, hx]
  refine wpAny_bind (wpAny_rule (wpAny_bind (wpAny_setField ho hd (by simp) ?_)))
  show wpAny _ _ (newExc (.type "StopIteration") [] >>= fun l => _) _ _ _; refine wpAny_bind ?_; simp only [newExc, newTuple]
  refine wpAny_bind (wpAny_newObj_type ?_ (by size_fits))
  refine wpAny_bind (m := firstArgMember _ _) (wpAny_of_eq (a := Value.none) (by first | rfl | (simp only [firstArgMember]; rfl)) (wpAny_newObj_type ?_ (by size_fits))); simp only [raiseNew]
  refine wpAny_bind (wpAny_handled ?_)
  first | rw [show A.in1.handled = none from hh] | rw [hh]
  refine wpAny_bind (wpAny_pure (wpAny_throw (hE _ _ (((Heap.SameBut.update ..).extBut.push _).push _) ⟨_, Heap.get?_push_size _ rfl, rfl⟩)))
theorem ac_item {m it l : Addr} {i : Nat} {its : Array Value} {tot v : Int} {t u : Tok} {Q : Value → Shared → Prop} (hm : IsAcc s.heap m it (.int tot t)) (hit : s.heap.IsListIter it l i) (hl : s.heap.IsList l its) (hx : its[i]? = some (.int v u)) (hmi : m ≠ it) (hml : m ≠ l) (hli : l ≠ it)
    (hQ : ∀ s' t', IsAcc s'.heap m it (.int (tot + v) t') → s'.heap.IsListIter it l (i + 1) → s'.heap.IsList l its → (∀ b o, b ≠ it → b ≠ m → s.heap.get? b = some o → s'.heap.get? b = some o) → s'.gens = s.gens → s'.drawn = s.drawn → s'.os = s.os → Q (.int (tot + v) t') s') :
    wpAny (model prog w) A (Builtin.«itertools.accumulate.__next__» ⟨[.ref m], []⟩) (fun fin s' => ∃ v, fin = .done (.ret v) ∧ Q v s') E s := by
  have upd : ∀ (h : Heap) (a b : Value), IsAcc h m it a → IsAcc (h.update m (Obj.mapFields (·.setIfInBounds 2 b))) m it b := fun h a b e => by
    have := Heap.get?_update_self (Obj.mapFields (·.setIfInBounds 2 b)) e rfl
    exact this
  show wpAny _ _ (field (.ref m) 3 >>= fun l => _) _ _ s; refine wpAny_bind (wpAny_field hm rfl (x := .none) rfl ?_)
  show wpAny _ _ (if (Value.none != .none) = true then _ else _) _ _ s; rw [if_neg (show ¬ (Value.none != .none) = true from Bool.false_ne_true)]
  show wpAny _ _ (field (.ref m) 0 >>= fun l => _) _ _ s; refine wpAny_bind (wpAny_field hm rfl (x := .ref it) rfl ?_)
  refine wpAny_bind (raw_item hit hl hx fun h' hit' sb => ?_)
  have hm' : IsAcc h' m it (.int tot t) := sb.extBut _ _ hmi hm
  have hl' : h'.IsList l its := hl.extBut sb.extBut hli
  show wpAny _ _ (field (.ref m) 2 >>= fun l => _) _ _ _; refine wpAny_bind (wpAny_field hm' rfl (x := .int tot t) rfl ?_)
  have oth : ∀ (b : Value), ∀ c o, c ≠ m → h'.get? c = some o → (h'.update m (Obj.mapFields (·.setIfInBounds 2 b))).get? c = some o := fun b c o hc e => (Heap.get?_update_other _ _ (Ne.symm hc)).trans e
  by_cases hz : (Value.int tot t == Builtin.Itertools.itNothing) = true
  · have h0 : tot = 0 := by
      have e := eq_of_beq hz
      cases e; rfl
    show wpAny _ _ (if (Value.int tot t == Builtin.Itertools.itNothing) = true then _ else _) _ _ _
    rw [if_pos hz]
    refine wpAny_bind (wpAny_rule (wpAny_bind (wpAny_setField hm' rfl (by simp) (wpAny_pure ⟨_, rfl, ?_⟩))))
    have q := hQ { s with heap := h'.update m (Obj.mapFields (·.setIfInBounds 2 (.int v u))) } u
    rw [h0, Int.zero_add] at q
    refine q (upd _ _ _ hm') ?_ ?_ (fun b o hb hb2 e => oth _ b o hb2 (sb.extBut b o hb e)) rfl rfl rfl
    · exact hit'.at fun o e => oth _ it o (Ne.symm hmi) e
    · exact hl'.at fun o e => oth _ l o (Ne.symm hml) e
  · show wpAny _ _ (if (Value.int tot t == Builtin.Itertools.itNothing) = true then _ else _) _ _ _
    rw [if_neg hz]
    show wpAny _ _ (field (.ref m) 1 >>= fun l => _) _ _ _; refine wpAny_bind (wpAny_field hm' rfl (x := .none) rfl ?_)
    show wpAny _ _ (holding [.int tot t, .int v u] (if (Value.none == .none) = true then binaryOp .Add (.int tot t) (.int v u) else _) >>= fun l => _) _ _ _
    rw [if_pos (show (Value.none == .none) = true from rfl)]
    refine wpAny_bind (wpAny_holding (wpAny_add_int ?_))
    refine wpAny_bind (wpAny_setField (s := { s with heap := h', toks := s.toks + 1 }) hm' rfl (by simp) ?_)
    refine wpAny_bind (wpAny_letGo (wpAny_pure ⟨_, rfl, ?_⟩))
    refine hQ _ _ (upd _ _ _ hm') ?_ ?_ (fun b o hb hb2 e => oth _ b o hb2 (sb.extBut b o hb e)) rfl rfl rfl
    · exact hit'.at fun o e => oth _ it o (Ne.symm hmi) e
    · exact hl'.at fun o e => oth _ l o (Ne.symm hml) e
theorem ac_end {m it l : Addr} {i : Nat} {its : Array Value} {tot : Value} {Q : Fin → Shared → Prop} (hh : A.handled = none) (hm : IsAcc s.heap m it tot) (hit : s.heap.IsListIter it l i) (hl : s.heap.IsList l its) (hx : its[i]? = none)
    (hE : ∀ h' e, Heap.ExtBut it s.heap h' → (∃ o, h'.get? e = some o ∧ o.cls = .type "StopIteration") → E (.ref e) { s with heap := h' }) :
    wpAny (model prog w) A (Builtin.«itertools.accumulate.__next__» ⟨[.ref m], []⟩) Q E s := by
  show wpAny _ _ (field (.ref m) 3 >>= fun l => _) _ _ s; refine wpAny_bind (wpAny_field hm rfl (x := .none) rfl ?_)
  show wpAny _ _ (if (Value.none != .none) = true then _ else _) _ _ s; rw [if_neg (show ¬ (Value.none != .none) = true from Bool.false_ne_true)]
  show wpAny _ _ (field (.ref m) 0 >>= fun l => _) _ _ s; refine wpAny_bind (wpAny_field hm rfl (x := .ref it) rfl ?_)
  exact wpAny_bind (raw_end hh hit hl hx hE)
theorem ac_nextItem {m it l : Addr} {i : Nat} {its : Array Value} {tot v : Int} {t u : Tok} {Q : Option Value → Shared → Prop} (hm : IsAcc s.heap m it (.int tot t)) (hit : s.heap.IsListIter it l i) (hl : s.heap.IsList l its) (hx : its[i]? = some (.int v u)) (hmi : m ≠ it) (hml : m ≠ l) (hli : l ≠ it)
    (hQ : ∀ s' t', IsAcc s'.heap m it (.int (tot + v) t') → s'.heap.IsListIter it l (i + 1) → s'.heap.IsList l its → (∀ b o, b ≠ it → b ≠ m → s.heap.get? b = some o → s'.heap.get? b = some o) → s'.gens = s.gens → s'.drawn = s.drawn → s'.os = s.os → Q (some (.int (tot + v) t')) s') :
    wpAny (model prog w) A (pyNext (.ref m)) Q E s := by
  have ty : s.TypeIs (.ref m) "itertools.accumulate" := ⟨_, hm, rfl⟩
  unfold pyNext
  exact wpAny_bind (wpAny_attempt (wpAny_callSpecial?_slot (name := Str.ofString "__next__") ty ac_next (wpAny_call_entry ac_next ty ac_nextE
    (ac_item hm hit hl hx hmi hml hli fun s' t' a b c d e f g => wpAny_pure (hQ s' t' a b c d e f g)) (ac_nextA _))))
theorem ac_nextEnd {m it l : Addr} {i : Nat} {its : Array Value} {tot : Value} {Q : Option Value → Shared → Prop} (hh : A.handled = none) (hm : IsAcc s.heap m it tot) (hit : s.heap.IsListIter it l i) (hl : s.heap.IsList l its) (hx : its[i]? = none)
    (hQ : ∀ h', Heap.ExtBut it s.heap h' → Q none { s with heap := h' }) : wpAny (model prog w) A (pyNext (.ref m)) Q E s := by
  have ty : s.TypeIs (.ref m) "itertools.accumulate" := ⟨_, hm, rfl⟩
  unfold pyNext
  refine wpAny_bind (wpAny_attempt (wpAny_callSpecial?_slot (name := Str.ofString "__next__") ty ac_next (wpAny_call_entry ac_next ty ac_nextE (ac_end hh hm hit hl hx fun h' x he hx' => ?_) (ac_nextA _))))
  obtain ⟨o, ho, hc⟩ := hx'
  exact wpAny_bind (wpAny_isInstance (T := "StopIteration") (b := true) ⟨o, ho, hc⟩ isSubtype_stop (wpAny_pure (hQ _ he)))
theorem ac_pyIter {m it : Addr} {tot : Value} {Q : Value → Shared → Prop} (hm : IsAcc s.heap m it tot) (h : Q (.ref m) s) : wpAny (model prog w) A (pyIter (.ref m)) Q E s := by
  have ty : s.TypeIs (.ref m) "itertools.accumulate" := ⟨_, hm, rfl⟩
  refine wpAny_pyIter_slot ty ac_iter (wpAny_call_entry ac_iter ty ac_iterE ?_ (ac_iterA _))
  show wpAny _ _ (ret (.ref m)) _ _ s
  exact wpAny_pure ⟨_, rfl, "itertools.accumulate", _, ty, ac_next.lookup, h⟩
theorem walks_acc {m it l : Addr} {its : Array Value} {val : Nat → Int} (hh : A.handled = none) (hmi : m ≠ it) (hml : m ≠ l) (hli : l ≠ it) (hv : ∀ i, i < its.size → ∃ u, its[i]? = some (.int (val i) u)) :
    WalksS prog w A m [m, it, l] [it, m] (fun a b => b = a) its.size (fun i v => ∃ t, v = .int (preSum val (i + 1)) t) (fun i s => (∃ t, IsAcc s.heap m it (.int (preSum val i) t)) ∧ s.heap.IsListIter it l i ∧ s.heap.IsList l its) where
  sub := fun b hb => by
    rcases List.mem_cons.mp hb with rfl | hb
    · simp
    · rw [List.mem_singleton.mp hb]; simp
  grefl := fun _ => rfl
  gtrans := fun _ _ _ h1 h2 => h2.trans h1
  frame := fun i s h' tk ⟨⟨t, h1⟩, h2, h3⟩ _ hk => ⟨⟨t, hk m (by simp) _ h1⟩, h2.at fun o e => hk it (by simp) o e, h3.at fun o e => hk l (by simp) o e⟩
  item := fun i s Q E hi ⟨⟨t, h1⟩, h2, h3⟩ hQ => by
    obtain ⟨u, hu⟩ := hv i hi
    refine wpAny_with_toks (Nat.le_refl s.toks) (ac_nextItem h1 h2 h3 hu hmi hml hli fun s' t' a b c d e f g htk => ?_)
    exact hQ _ s' ⟨t', rfl⟩ ⟨⟨t', a⟩, b, c⟩ ⟨fun b ob hb e => d b ob (fun z => hb (by simp [z])) (fun z => hb (by simp [z])) e, e, f, g, htk⟩
  done := fun s Q E ⟨⟨t, h1⟩, h2, h3⟩ hQ => ac_nextEnd hh h1 h2 h3 (by simp) fun h' hx => hQ _ ⟨fun b ob hb e => hx b ob (fun z => hb (by simp [z])) e, rfl, rfl, rfl, Nat.le_refl _⟩
  self := fun i s Q E ⟨⟨t, h1⟩, _, _⟩ hQ => ac_pyIter h1 hQ
/-- sum(accumulate(l)) -/
theorem sum_acc {l : Addr} {its : Array Value} {val : Nat → Int} {Q : Value → Shared → Prop} (hh : A.handled = none) (hl : s.heap.IsList l its) (hv : ∀ i, i < its.size → ∃ u, its[i]? = some (.int (val i) u))
    (hfit : ∀ j, j < its.size → InLong (preSum val (j + 1)) ∧ InLong (preSum (fun i => preSum val (i + 1)) (j + 1)))
    (hQ : ∀ h' t' k, (∀ b o, s.heap.get? b = some o → h'.get? b = some o) → Q (.int (preSum (fun i => preSum val (i + 1)) its.size) t') { s with heap := h', toks := k }) :
    wpAny (model prog w) A (call (.type "itertools.accumulate") [.ref l]) (fun v s1 => wpAny (model prog w) A (call (.builtin "sum") [v]) Q E s1) E s := by
  have ll : l < s.heap.objs.size := by obtain ⟨o, ho, _⟩ := hl; exact Heap.lt_size ho
  refine call_acc (wpAny_pyIter_list hl ?_)
  have h1 : ((s.heap.push { cls := .type "list_iterator", data := .fields #[.ref l, .int 0 0] }).objs.size) = s.heap.objs.size + 1 := Heap.size_push ..
  have k1 : ∀ b o, s.heap.get? b = some o → (acM (s.heap.push { cls := .type "list_iterator", data := .fields #[.ref l, .int 0 0] }) (.ref s.heap.objs.size)).get? b = some o := fun b o e => Heap.get?_push_of_some _ (Heap.get?_push_of_some _ e)
  have gm : IsAcc (acM (s.heap.push { cls := .type "list_iterator", data := .fields #[.ref l, .int 0 0] }) (.ref s.heap.objs.size)) (s.heap.objs.size + 1) s.heap.objs.size (.int (preSum val 0) 0) := by
    have z : ∀ H : Heap, H.objs.size = s.heap.objs.size + 1 → IsAcc (acM H (.ref s.heap.objs.size)) (s.heap.objs.size + 1) s.heap.objs.size (.int (preSum val 0) 0) := fun H e => by
      rw [← e]
      exact Heap.get?_push_size _ rfl
    exact z _ h1
  have gi : (acM (s.heap.push { cls := .type "list_iterator", data := .fields #[.ref l, .int 0 0] }) (.ref s.heap.objs.size)).IsListIter s.heap.objs.size l 0 := ⟨_, Heap.get?_push_of_some _ (Heap.get?_push_size _ rfl), rfl, rfl⟩
  have gl : (acM (s.heap.push { cls := .type "list_iterator", data := .fields #[.ref l, .int 0 0] }) (.ref s.heap.objs.size)).IsList l its := (hl.push _).push _
  rw [h1]
  refine call_sum_walkS (ac_pyIter gm ?_)
  have hh1 : A.in1.handled = none := hh
  refine ⟨_, _, _, _, _, _, _, fun i => preSum val (i + 1), rfl, walks_acc (m := s.heap.objs.size + 1) (it := s.heap.objs.size) (l := l) hh1 (Nat.succ_ne_self _) (Nat.ne_of_gt (Nat.lt_succ_of_lt ll)) (Nat.ne_of_lt ll) hv, ⟨⟨_, gm⟩, gi, gl⟩, fun b hb => ?_, fun i v h => h, hfit, fun s' t' hm => ?_⟩
  · have e : (acM (s.heap.push { cls := .type "list_iterator", data := .fields #[.ref l, .int 0 0] }) (.ref s.heap.objs.size)).objs.size = s.heap.objs.size + 2 := by rw [Heap.size_push, h1]
    show b < _
    rw [e]
    simp only [List.mem_cons, List.not_mem_nil, or_false] at hb
    rcases hb with rfl | rfl | rfl
    · exact Nat.lt_succ_self _
    · exact Nat.lt_succ_of_lt (Nat.lt_succ_self _)
    · exact Nat.lt_succ_of_lt (Nat.lt_succ_of_lt ll)
  · rw [Moved.eq_with hm]
    refine hQ s'.heap t' s'.toks fun b o e => hm.heap b o ?_ (k1 b o e)
    have lt := Heap.lt_size e
    intro z
    simp only [List.mem_cons, List.not_mem_nil, or_false] at z
    rcases z with rfl | rfl
    · exact absurd lt (Nat.lt_irrefl _)
    · exact absurd lt (Nat.not_lt_of_le (Nat.le_succ _))
end
end FD

set_option Elab.async false
set_option linter.all false
set_option maxRecDepth 100000
set_option maxHeartbeats 1000000
/-! list(map(ord, text)). -/
namespace FD
open PySem PySem.Spec PyProof.Rows
section
variable {prog : Program} {w : World} {A : Around} {E : Value → Shared → Prop} {s : Shared} {R : Result → Shared → Prop}
variable {I : Addr} {fp wr : List Addr} {G : Array GenState → Array GenState → Prop} {n : Nat} {P : Nat → Value → Prop} {St : Nat → Shared → Prop}
/-- a list takes what a map object gives -/
theorem takes_map (W : WalksS prog w A.in1 I fp wr G n P St) (hT : ∀ i s, St i s → s.TypeIs (.ref I) "map") (S : Addr) (res : Value) (c₀ : Nat) (hst : St 0 s) (hSf : S ∉ fp) (hI : I ∈ fp) (hS : s.heap.get? S = some { cls := .type "list", data := .seq #[] c₀ })
    (hR : ∀ s' acc' c', Moved (S :: wr) G s s' → s'.heap.get? S = some { cls := .type "list", dict := none, data := .seq acc' c', slots := #[] } → ItemsOf P acc' n → R (.ok (.ret res)) s') (hn : n ≤ sizeLine) :
    wpAny (model prog w) A.in1 (Builtin.List.listExtendWith (.ref S) (.ref I) res) (fun fin s' => match fin with | .done f => R (.ok f) s' | .again c' => c'.quiet = true ∧ codeAny (model prog w) A c' R s') (fun e s' => R (.error e) s') s := by
  have ne : S ≠ I := fun e => hSf (e ▸ hI)
  have same : Builtin.List.listSameRef (.ref S) (.ref I) = false := by simp [Builtin.List.listSameRef, ne]
  have m1 : (Value.type "map" == Value.type "list") = false := by decide
  have m2 : (Value.type "map" == Value.type "tuple") = false := by decide
  unfold Builtin.List.listExtendWith
  refine wpAny_bind (wpAny_typeOf (hT 0 _ hst) ?_); simp only [same, m1, m2, Bool.or_false, Bool.false_eq_true, if_false]
  refine wpAny_bind (W.self 0 _ _ _ hst (wpAny_bind (wpAny_holding ?_))); unfold Builtin.List.listLengthHint
  refine wpAny_bind (wpAny_specialOf (hT 0 _ hst) MpR.nolen_mp ?_)
  show wpAny _ A.in1 (specialOf (Value.ref I) (Str.ofString "__length_hint__") >>= fun r => _) _ _ _; refine wpAny_bind (wpAny_specialOf (hT 0 _ hst) MpR.nohint_mp (wpAny_pure ?_))
  show wpAny _ A.in1 (rule "list.extend.makes-room" >>= fun _ => Builtin.List.listTouch (.ref S) >>= fun _ => again (.builtin "list.extend.loop" ⟨[.ref S, .ref I, res], []⟩)) _ _ _
  refine wpAny_bind (wpAny_rule (wpAny_bind ?_))
  show wpAny _ A.in1 (updateSeq S (fun a => a.push .none) >>= fun _ => updateSeq S (fun a => a.pop)) _ _ _; refine wpAny_bind (wpAny_updateSeq hS rfl ?_)
  have g1 := Heap.get?_update_self (Obj.mapSeq (·.push Value.none)) hS rfl
  refine wpAny_updateSeq (hz := by seq_fits) g1 rfl ?_
  have g2 := Heap.get?_update_self (Obj.mapSeq (·.pop)) g1 rfl
  have oth : ∀ b o, b ≠ S → s.heap.get? b = some o → ((s.heap.update S (Obj.mapSeq (·.push Value.none))).update S (Obj.mapSeq (·.pop))).get? b = some o := fun b o hb e =>
    (Heap.get?_update_other _ _ (Ne.symm hb)).trans ((Heap.get?_update_other _ _ (Ne.symm hb)).trans e)
  refine wpAny_pure ⟨plainId_quiet F.plain_extend_loop _, codeAny_extend_loopS W hn _ hSf _ n 0 _ _ _ rfl (Nat.zero_le _) (W.frame 0 s _ s.toks hst (Nat.le_refl _) fun b hb o e => oth b o (fun h => hSf (h ▸ hb)) e) g2 (ItemsOf.nil P) fun s' acc' c' hm hS' hacc => ?_⟩
  exact hR s' acc' c' (Moved.trans W.gtrans ((Moved.refl W.grefl).then_heap (Nat.le_refl _) fun b o hb e => oth b o (fun h => hb (h ▸ List.mem_cons_self)) e) hm) hS' hacc
/-- list(a map object) -/
theorem list_map {Q : Value → Shared → Prop} (W : WalksS prog w A.in1.in1 I fp wr G n P St) (hT : ∀ i s, St i s → s.TypeIs (.ref I) "map") (hst : St 0 s) (hfp : ∀ b ∈ fp, b < s.heap.objs.size) (hI : I ∈ fp)
    (hQ : ∀ s' acc' c', Moved (s.heap.objs.size :: wr) G { s with heap := s.heap.push { cls := .type "list", data := .seq #[] } } s' → s'.heap.get? s.heap.objs.size = some { cls := .type "list", dict := none, data := .seq acc' c', slots := #[] } → ItemsOf P acc' n → Q (.ref s.heap.objs.size) s') (hn : n ≤ sizeLine) :
    wpAny (model prog w) A (call (.type "list") [.ref I]) Q E s := by
  have hSf : s.heap.objs.size ∉ fp := fun hm => absurd (hfp _ hm) (Nat.lt_irrefl _)
  have h0 : (s.heap.push { cls := .type "list", data := .seq #[] }).get? s.heap.objs.size = some { cls := .type "list", data := .seq #[] } := Heap.get?_push_size _ rfl
  refine callType_codes (Q₁ := fun obj s₁ => obj = .ref s.heap.objs.size ∧ s₁ = { s with heap := s.heap.push { cls := .type "list", data := .seq #[] } }) F.called_list (F.typeCall_list_1 _) F.entry_list_init (code_list_new _ ⟨rfl, rfl⟩) fun obj s₁ h₁ => ?_
  obtain ⟨rfl, rfl⟩ := h₁
  refine ⟨⟨_, h0, rfl⟩, F.args_list_init_2 _ _, ?_⟩
  have st1 := W.frame 0 s (s.heap.push { cls := .type "list", data := .seq #[] }) s.toks hst (Nat.le_refl _) fun b _ o e => Heap.get?_push_of_some _ e
  show wpAny _ A.in1.in1 (do let old ← Builtin.List.listItems (.ref s.heap.objs.size); Builtin.List.listUpdate (.ref s.heap.objs.size) (fun _ => #[]); letGo old.toList.reverse; Builtin.List.listExtendWith (.ref s.heap.objs.size) (.ref I) .none) _ _ _
  refine wpAny_bind ?_; unfold Builtin.List.listItems; refine wpAny_bind (wpAny_seqItems h0 rfl (wpAny_pure ?_))
  show wpAny _ A.in1.in1 (updateSeq s.heap.objs.size (fun _ => #[]) >>= fun _ => letGo (#[] : Array Value).toList.reverse >>= fun _ => Builtin.List.listExtendWith (.ref s.heap.objs.size) (.ref I) .none) _ _ _
  refine wpAny_bind (wpAny_updateSeq h0 rfl (wpAny_bind (wpAny_letGo ?_)))
  have g1 := Heap.get?_update_self (Obj.mapSeq (fun _ => (#[] : Array Value))) h0 rfl
  have oth : ∀ b o, b ≠ s.heap.objs.size → (s.heap.push { cls := .type "list", data := .seq #[] }).get? b = some o → ((s.heap.push { cls := .type "list", data := .seq #[] }).update s.heap.objs.size (Obj.mapSeq (fun _ => (#[] : Array Value)))).get? b = some o := fun b o hb e =>
    (Heap.get?_update_other _ _ (Ne.symm hb)).trans e
  refine takes_map W hT s.heap.objs.size .none _ (W.frame 0 _ _ s.toks st1 (Nat.le_refl _) fun b hb o e => oth b o (fun h => hSf (h ▸ hb)) e) hSf hI g1 (fun s' acc' c' hm hS' hacc => ?_) hn
  exact ⟨rfl, hQ s' acc' c' (Moved.trans W.gtrans ((Moved.refl W.grefl).then_heap (Nat.le_refl _) fun b o hb e => oth b o (fun h => hb (h ▸ List.mem_cons_self)) e) hm) hS' hacc⟩
/-- list(map(ord, text)) -/
theorem list_ord {x : Str} {t : Tok} {Q : Value → Shared → Prop} (hh : A.handled = none) (hx : x.length ≤ sizeLine)
    (hQ : ∀ (h' : Heap) (p : Addr) (k : Tok) (its : Array Value) (c : Nat), s.heap.objs.size ≤ p → (∀ b o, s.heap.get? b = some o → h'.get? b = some o) → h'.get? p = some { cls := .type "list", dict := none, data := .seq its c, slots := #[] } → its.size = x.cps.size → (∀ (j : Nat) (v : Value), its[j]? = some v → ∃ (d : Nat) (u : Tok), x.cps[j]? = some d ∧ v = .int ((d : Nat) : Int) u) → Q (.ref p) { s with heap := h', toks := k }) :
    wpAny (model prog w) A (call (.type "map") [.builtin "ord", .str x t]) (fun v s1 => wpAny (model prog w) A (call (.type "list") [v]) Q E s1) E s := by
  have hh1 : A.in1.in1.handled = none := hh
  have hF : MpR.MapF prog w (.builtin "ord") (fun u : Value => ∃ (c : Nat) (k : Tok), u = Value.str ⟨#[c]⟩ k) (fun u v : Value => ∃ (c : Nat) (k k' : Tok), u = Value.str ⟨#[c]⟩ k ∧ v = Value.int ((c : Nat) : Int) k') := fun A' E' Q' s' u _ ⟨c, k, hu⟩ q => by
    subst hu
    refine wpAny_with_toks (Nat.le_refl s'.toks) (ord_of_one (x := ⟨#[c]⟩) rfl fun htk => ?_)
    exact q _ _ ⟨c, k, _, rfl, rfl⟩ ⟨fun _ _ _ e => e, rfl, rfl, rfl, htk⟩
  have src : ∀ {Q' : Value → Shared → Prop}, Q' (.ref s.heap.objs.size) { s with heap := s.heap.push { cls := .type (strIterType x), data := .fields #[.str x t, .int 0 0] } } → wpAny (model prog w) A.in1.in1 (pyIter (.str x t)) Q' E s := fun {Q'} q => by
    cases ha : x.cps.all (· < 128)
    · simp only [strIterType, ha, Bool.false_eq_true, if_false] at q
      exact wpAny_pyIter_wide ha q
    · simp only [strIterType, ha, if_true] at q
      exact wpAny_pyIter_ascii ha q
  refine MpR.call_map (src ?_)
  intro h' hO hM hsz hk
  have h1 : (s.heap.push { cls := .type (strIterType x), data := .fields #[.str x t, .int 0 0] }).objs.size = s.heap.objs.size + 1 := Heap.size_push ..
  rw [h1] at hO hM hsz
  have sz : h'.objs.size = s.heap.objs.size + 1 + 2 := hsz
  have hit : h'.IsStrIter s.heap.objs.size (strIterType x) x t 0 := ⟨_, hk _ _ (Heap.get?_push_size _ rfl), rfl, rfl⟩
  have W := MpR.walks_map (A := A.in1.in1) (m := s.heap.objs.size + 1 + 1) (T := s.heap.objs.size + 1) hh1 (it := s.heap.objs.size) (Draws.text (A := A.in1.in1.in1) hh1 s.heap.objs.size x t) hF (Nat.ne_of_gt (Nat.lt_succ_of_lt (Nat.lt_succ_self _))) (Nat.succ_ne_self _) (by simp) (fun i u ⟨c, k, _, e⟩ => ⟨c, k, e⟩)
  rw [h1]
  refine list_map (s := { s with heap := h' }) W (fun i s' st => ⟨_, st.1, rfl⟩) ⟨hM, hO, hit⟩ (fun b hb => ?_) (by simp) (fun s' acc' c' hm hS' hacc => ?_) hx
  · show b < h'.objs.size
    rw [sz]
    simp only [List.mem_cons, List.not_mem_nil, or_false] at hb
    rcases hb with rfl | rfl | rfl
    · exact Nat.lt_succ_self _
    · exact Nat.lt_succ_of_lt (Nat.lt_succ_self _)
    · exact Nat.lt_succ_of_lt (Nat.lt_succ_of_lt (Nat.lt_succ_self _))
  · have e := Moved.eq_with hm
    rw [e]
    refine hQ s'.heap h'.objs.size s'.toks acc' c' (by rw [sz]; exact Nat.le_add_right _ 3) (fun b o eb => ?_) hS' hacc.1 fun j v hj => ?_
    · have lt := Heap.lt_size eb
      have kb : h'.get? b = some o := hk b o (Heap.get?_push_of_some _ eb)
      refine hm.heap b o (fun z => ?_) (Heap.get?_push_of_some _ kb)
      simp only [List.mem_cons, List.not_mem_nil, or_false] at z
      rcases z with rfl | rfl
      · rw [sz] at lt
        exact absurd (Nat.lt_of_lt_of_le lt (Nat.le_add_right _ 3)) (Nat.lt_irrefl _)
      · exact absurd lt (Nat.lt_irrefl _)
    · obtain ⟨u, ⟨c, k, hc, e1⟩, c2, k1, k2, e2, e3⟩ := hacc.2 j v hj
      rw [e1] at e2
      cases e2
      exact ⟨c, k2, hc, e3⟩
end
end FD

set_option Elab.async false
set_option linter.all false
set_option maxRecDepth 100000
set_option maxHeartbeats 1000000
/-! text[::-1], list(map(ord, text)), sum(accumulate(list)). -/
namespace FD
open PySem PySem.Spec PyProof.Rows L2
section
variable {X : Cx}
theorem rev_ixs (z : Str) : ((Builtin.Str.strSliceIndices none none (-1) z.length).filterMap (z.cps[·]?)).toArray = z.cps.toList.reverse.toArray := by
  show ((sliceRange ((z.cps.size : Int) - 1) (-1) (-1)).filterMap (z.cps[·]?)).toArray = _
  rw [PySem.W.krv_sliceRange, PySem.W.krv_range, List.filterMap_reverse, PySem.W.krv_all]
def tRevS (te : TE) : TE := fun σ H Q => te σ H fun x H1 => ∃ z : Str, x = .str z ∧ z.length ≤ sizeLine ∧ Q (.str ⟨z.cps.toList.reverse.toArray⟩) H1
theorem pe_revS {e : Expr} {te : TE} {k : Nat} {p1 p2 p3 pos : Pos} (he : PE X e te) : PE X (.Subscript e (.Slice none none (some (.UnaryOp .USub (.Constant (.int 1) k p1) p2)) p3) pos) (tRevS te) := by
  refine ⟨fun pins s σ H Q I h => ?_⟩
  refine Subscript_ (thn (he.run pins s σ H _ I h) fun v s1 ⟨x, H1, I1, r1, q1⟩ => ?_)
  obtain ⟨z, ex, hz, q⟩ := q1
  subst ex
  obtain ⟨t, rfl⟩ := r1
  have hst : PO X (some (.UnaryOp .USub (.Constant (.int 1) k p1) p2)) (tPart (tUn (rU fun i => .int (-i)) (tC (.int 1)))) := po_some (pe_un un_neg pe_int)
  refine wpAny_Slice (thn (po_none.run pins s1 σ H1 (fun o H2 => o = none ∧ H2 = H1) I1 ⟨rfl, rfl⟩) fun vl s2 ⟨l, H2, I2, pl, el, e2⟩ => ?_)
  subst el e2
  refine thn (po_none.run pins s2 σ H2 (fun o H3 => o = none ∧ H3 = H2) I2 ⟨rfl, rfl⟩) fun vu s3 ⟨u, H3, I3, pu, eu, e3⟩ => ?_
  subst eu e3
  refine thn (hst.run pins s3 σ H3 (fun o H4 => o = some (-1) ∧ H4 = H3) I3 ⟨1, rfl, -1, rfl, rfl, rfl⟩) fun vs s4 ⟨o, H4, I4, ps, eo, e4⟩ => ?_
  subst eo e4
  have I5 : Inv X pins σ H4 { s4 with heap := s4.heap.push { cls := .type "slice", data := .fields #[vl, vu, vs] } } := I4.kept (t' := s4.toks) fun b ob q => Heap.get?_push_of_some _ q
  show wpAny (model X.prog X.w) X.A (subscriptTail e (.Slice none none (some (.UnaryOp .USub (.Constant (.int 1) k p1) p2)) p3) (.str z t) (.ref s4.heap.objs.size)) (EP X pins σ Q) X.xe { s4 with heap := s4.heap.push { cls := .type "slice", data := .fields #[vl, vu, vs] } }
  refine tail_any (ops := [.str z t, .ref s4.heap.objs.size]) (typeIs_str _ _ _) F.slot_str_getitem.lookup ?_ (by with_unfolding_all rfl)
  obtain ⟨os, hos, hcs, hds⟩ := Heap.IsSliceOf.new s4.heap vl vu vs
  obtain ⟨l0, e1, m1⟩ := IsPart.raw pl
  obtain ⟨u0, e2, m2⟩ := IsPart.raw pu
  obtain ⟨c0, e3, m3⟩ := IsPart.raw ps
  cases l0 with
  | some _ => cases m1
  | none =>
    cases u0 with
    | some _ => cases m2
    | none =>
      cases c0 with
      | none => cases m3
      | some ck =>
        obtain ⟨c, k'⟩ := ck
        cases m3
        rw [e1, e2, e3] at hos hds
        rw [e1, e2, e3]
        refine PySem.wpAny_getItem_str_slice (l := none) (u := none) (st := some (Int.negSucc 0, k')) ⟨os, hos, hcs, hds⟩ rfl ?_
        show Made.post (if ((-1 : Int) == 1 && (Builtin.Str.strSliceIndices none none (-1) z.length).length == z.length) = true then Made.val (.str z t) else Made.str ⟨((Builtin.Str.strSliceIndices none none (-1) z.length).filterMap (z.cps[·]?)).toArray⟩) (EP X pins σ Q) _
        rw [if_neg (by rw [show ((-1 : Int) == 1) = false from rfl]; simp), rev_ixs]
        rw [e1, e2, e3] at I5
        exact ⟨by show z.cps.toList.reverse.toArray.size ≤ _; rw [List.size_toArray, List.length_reverse, Array.length_toList]; exact hz, .str _, H4, I5.tok _, ⟨_, rfl⟩, q⟩
theorem vals_of : ∀ (xs : List V) (vs : List Value), xs.length = vs.length → (∀ (j : Nat) (x : V) (v : Value), xs[j]? = some x → vs[j]? = some v → RelV x v) → Vals xs vs
  | [], [], _, _ => .nil
  | x :: xs, v :: vs, hl, h => .cons (h 0 x v rfl rfl) (vals_of xs vs (by simpa using hl) fun j x' v' a b => h (j + 1) x' v' (by simpa using a) (by simpa using b))
  | [], _ :: _, hl, _ => by simp at hl
  | _ :: _, [], hl, _ => by simp at hl
/-- list(map(ord, text)) -/
def tOrdL (te : TE) : TE := fun σ H Q => te σ H fun x H1 => ∃ z : Str, x = .str z ∧ z.length ≤ sizeLine ∧ ∀ p, H1 p = none → Q (.ref p) (upd H1 p (.lst (z.cps.toList.map fun c => V.int ((c : Nat) : Int))))
theorem pe_ordL {e : Expr} {te : TE} {p p2 p3 pos2 pos : Pos} (hc : X.calm = true) (hl : Gl X "list") (ml : X.mg "list" = none) (hg : Gl X "map") (hm : X.mg "map" = none) (ho : Gl X "ord") (mo : X.mg "ord" = none) (he : PE X e te)
    (hs : starEach [.Name "ord" p3, e] X.env = (false, eval (.Name "ord" p3) X.env) :: starEach [e] X.env := by rfl) (hs2 : starEach [e] X.env = [(false, eval e X.env)] := by rfl) :
    PE X (.Call (.Name "list" p) [.Call (.Name "map" p2) [.Name "ord" p3, e] [] pos2] [] pos) (tOrdL te) := by
  refine ⟨fun pins s σ H Q I h => ?_⟩
  refine wpAny_Call_Name_kw (ld_blt I hl ml boot_list ?_)
  refine PyProof.Rows.callWith_type1 ?_ rfl rfl
  show wpAny _ _ (spliced [(false, eval (.Call (.Name "map" p2) [.Name "ord" p3, e] [] pos2) X.env)]) _ _ s
  refine Calls.spliced_cons ?_
  refine wpAny_Call_Name_kw (ld_blt I hg hm boot_map ?_)
  refine PyProof.Rows.callWith_type1 ?_ hs (by rw [hs2]; rfl)
  rw [hs]
  show wpAny _ _ (spliced ((false, eval (.Name "ord" p3) X.env) :: backTo pos2 (starEach [e] X.env))) _ _ s
  refine Calls.spliced_cons (ld_blt I ho mo boot_ord ?_)
  rw [hs2]
  show wpAny _ _ (spliced [(false, eval e X.env)]) _ _ s
  refine Calls.spliced_cons (thn (he.run pins s σ H _ I h) fun v s1 ⟨x, H1, I1, r1, z, ex, hz, q⟩ => ?_)
  subst ex
  obtain ⟨t, rfl⟩ := r1
  refine Calls.spliced_nil ?_
  refine wpAny_mono (list_ord (Q := EP X pins σ Q) (E := X.xe) (I1.ok.hd hc) hz fun h' p k its c hp hk hS hsz hits => ?_) (fun v s4 h4 => Calls.spliced_nil h4) fun _ _ z => z
  have hv : Vals (z.cps.toList.map fun c => V.int ((c : Nat) : Int)) its.toList := by
    refine vals_of _ _ (by rw [List.length_map, Array.length_toList, Array.length_toList]; exact hsz.symm) fun j x v hx hv => ?_
    rw [List.getElem?_map] at hx
    obtain ⟨d, hd, rfl⟩ := Option.map_eq_some_iff.mp hx
    obtain ⟨d', u, h1, rfl⟩ := hits j v (by simpa using hv)
    have : d' = d := by
      have h2 : z.cps[j]? = some d := by simpa using hd
      rw [h1] at h2
      exact Option.some.inj h2
    subst this
    exact ⟨u, rfl⟩
  refine ⟨.ref p, _, I1.laid (t' := k) (o := .lst (z.cps.toList.map fun c => V.int ((c : Nat) : Int))) hk hp ?_, rfl, q p (I1.hok.fresh hp)⟩
  exact ⟨by rw [List.length_map, Array.length_toList]; exact hz, its.toList, c, hv, by rw [hS]⟩
theorem pre_of (val : Nat → Int) : ∀ (n : Nat), preSum val n = ((List.range n).map val).sum := by
  intro n
  induction n with
  | zero => rfl
  | succ n ih => rw [preSum, ih, List.range_succ, List.map_append, List.sum_append]; simp
theorem preSum_shift (val : Nat → Int) : ∀ n, preSum val (n + 1) = val 0 + preSum (fun i => val (i + 1)) n
  | 0 => by simp [preSum]
  | n + 1 => by
    have ih := preSum_shift val n
    show preSum val (n + 1) + val (n + 1) = val 0 + (preSum (fun i => val (i + 1)) n + val (n + 1))
    rw [ih]; omega
theorem pre_list : ∀ (xs : List Int) (val : Nat → Int) (t : Int), (∀ i, i < xs.length → xs[i]? = some (val i)) → preSum (fun i => t + preSum val (i + 1)) xs.length = accI xs t
  | [], val, t, h => rfl
  | x :: xs, val, t, h => by
    have h0 : val 0 = x := (Option.some.inj (h 0 (by simp))).symm
    rw [List.length_cons, preSum_shift]
    have ih := pre_list xs (fun i => val (i + 1)) (t + x) fun i hi => by
      have := h (i + 1) (by simpa using hi)
      simpa using this
    have e : (fun i => (fun i => t + preSum val (i + 1)) (i + 1)) = fun i => (t + x) + preSum (fun i => val (i + 1)) (i + 1) := by
      funext i
      show t + preSum val (i + 1 + 1) = _
      rw [preSum_shift val (i + 1), h0]
      omega
    show t + preSum val (0 + 1) + preSum (fun i => (fun i => t + preSum val (i + 1)) (i + 1)) xs.length = _
    rw [e, ih]
    show t + (0 + val 0) + accI xs (t + x) = (t + x) + accI xs (t + x)
    rw [h0, Int.zero_add]
theorem preSum_bound {val : Nat → Int} {B : Int} {n : Nat} (h : ∀ i, i < n → 0 ≤ val i ∧ val i ≤ B) : ∀ j, j ≤ n → 0 ≤ preSum val j ∧ preSum val j ≤ B * j
  | 0, _ => by simp [preSum]
  | j + 1, hj => by
    have ih := preSum_bound h j (by omega)
    have := h j (by omega)
    simp only [preSum]
    have e : B * ((j + 1 : Nat) : Int) = B * (j : Int) + B := by rw [show ((j + 1 : Nat) : Int) = (j : Int) + 1 by omega, Int.mul_add, Int.mul_one]
    rw [e]
    omega
/-- sum(accumulate(list)) -/
def tAccS (K : PySem.W.Frag) (te : TE) : TE := fun σ H Q => te σ H fun x H1 => ∃ (a : Addr) (ns : List Int), x = .ref a ∧ SqL K H1 a (ns.map V.int) ∧ (∀ i ∈ ns, 0 ≤ i ∧ i < 2097152) ∧ ns.length ≤ 1000000 ∧ Q (.int (accI ns 0)) H1
theorem pe_accS {e : Expr} {te : TE} {ac : Str} {p p2 pos2 pos : Pos} (hc : X.calm = true) (hl : Gl X "sum") (ml : X.mg "sum" = none) (hg : Gl X ac) (hm : X.mg ac = some (.type "itertools.accumulate")) (hd : (ac == ("__debug__" : Str)) = false) (he : PE X e te)
    (hs2 : starEach [e] X.env = [(false, eval e X.env)] := by rfl) :
    PE X (.Call (.Name "sum" p) [.Call (.Name ac p2) [e] [] pos2] [] pos) (tAccS X.K te) := by
  refine ⟨fun pins s σ H Q I h => ?_⟩
  refine wpAny_Call_Name_kw (ld_blt I hl ml boot_sum ?_)
  refine PyProof.Rows.callWith_builtin1 ?_ rfl rfl
  show wpAny _ _ (spliced [(false, eval (.Call (.Name ac p2) [e] [] pos2) X.env)]) _ _ s
  refine Calls.spliced_cons ?_
  refine wpAny_Call_Name_kw (ld_glob I hg hm ?_ hd)
  refine PyProof.Rows.callWith_type1 ?_ hs2 rfl
  rw [hs2]
  show wpAny _ _ (spliced [(false, eval e X.env)]) _ _ s
  refine Calls.spliced_cons (thn (he.run pins s σ H _ I h) fun v s1 ⟨x, H1, I1, r1, a, ns, ex, hq, hb, hn, q⟩ => ?_)
  subst ex
  cases r1
  refine Calls.spliced_nil ?_
  obtain ⟨its, rv, pl, hz⟩ := I1.list hq
  have hlen : ns.length = its.toArray.size := by rw [List.size_toArray, ← rv.length, List.length_map]
  have hget : ∀ i, i < its.toArray.size → ∃ u, its.toArray[i]? = some (.int (ns.getD i 0) u) := fun i hi => by
    have hi' : i < ns.length := by rw [hlen]; exact hi
    obtain ⟨u, h1, h2⟩ := rv.get (i := i) (x := .int (ns.getD i 0)) (by rw [List.getElem?_map, List.getElem?_eq_getElem hi']; simp [List.getD, hi'])
    obtain ⟨t, rfl⟩ := h2
    exact ⟨t, by simpa using h1⟩
  have hval : ∀ i, i < ns.length → 0 ≤ ns.getD i 0 ∧ ns.getD i 0 ≤ 2097151 := fun i hi => by
    have := hb (ns.getD i 0) (by simp [List.getD, hi])
    omega
  have b1 := preSum_bound (val := fun i => ns.getD i 0) hval
  have b2 := preSum_bound (val := fun i => preSum (fun i => ns.getD i 0) (i + 1)) (B := 2097151 * 1000000) (n := ns.length) fun i hi => by
    have := b1 (i + 1) (by omega)
    omega
  have fin : preSum (fun i => preSum (fun i => ns.getD i 0) (i + 1)) its.toArray.size = accI ns 0 := by
    rw [← hlen, ← pre_list ns (fun i => ns.getD i 0) 0 fun i hi => by simp [List.getD, hi]]
    congr 1
    funext i
    rw [Int.zero_add]
  refine wpAny_mono (sum_acc (Q := EP X pins σ Q) (E := X.xe) (val := fun i => ns.getD i 0) (I1.ok.hd hc) pl.isList hget (fun j hj => ?_) fun h' t' k hk => ?_) (fun v s4 h4 => Calls.spliced_nil h4) fun _ _ z => z
  · rw [← hlen] at hj
    have c1 := b1 (j + 1) (by omega)
    have c2 := b2 (j + 1) (by omega)
    unfold InLong
    constructor
    · omega
    · omega
  · rw [fin]
    exact ⟨.int _, H1, I1.kept (t' := k) hk, ⟨t', rfl⟩, q⟩
end
end FD

set_option Elab.async false
set_option linter.all false
set_option maxRecDepth 100000
set_option maxHeartbeats 1000000
/-! The D layer, 6: what is walked, loops, comprehensions. -/
namespace FD
open PySem PySem.Spec PyProof.Rows L2
/-! ### the readings by a weaker one -/
section
variable {X : Cx}
theorem pe_imp {e : Expr} {t t' : TE} (h : PE X e t) (i : ∀ σ H Q, t' σ H Q → t σ H Q) : PE X e t' := ⟨fun pins s σ H Q I q => h.run pins s σ H Q I (i _ _ _ q)⟩
theorem pt_imp {e : Expr} {t t' : TT} (h : PT X e t) (i : ∀ σ H Q, t' σ H Q → t σ H Q) : PT X e t' := ⟨fun pins s σ H Q I q => h.run pins s σ H Q I (i _ _ _ q)⟩
theorem pts_imp {e : List Expr} {t t' : TT} (h : PTs X e t) (i : ∀ σ H Q, t' σ H Q → t σ H Q) : PTs X e t' := ⟨fun pins s σ H Q I q => h.run pins s σ H Q I (i _ _ _ q)⟩
theorem pw_imp {e : Expr} {t t' : TT} (h : PW X e t) (i : ∀ σ H Q, t' σ H Q → t σ H Q) : PW X e t' := ⟨fun wh pins s σ H Q I q => h.run wh pins s σ H Q I (i _ _ _ q)⟩
theorem pa_imp {es : List Expr} {t t' : TA} (h : PA X es t) (i : ∀ σ H Q, t' σ H Q → t σ H Q) : PA X es t' := ⟨fun pos pins s σ H Q I q => h.run pos pins s σ H Q I (i _ _ _ q)⟩
theorem ps_imp {st : Stmt} {t t' : TS} (h : PS X st t) (i : ∀ D σ H, t' D σ H → t D σ H) : PS X st t' := ⟨fun pins s σ H D I q => h.run pins s σ H D I (i _ _ _ q)⟩
theorem pss_imp {st : List Stmt} {t t' : TS} (h : PSs X st t) (i : ∀ D σ H, t' D σ H → t D σ H) : PSs X st t' := ⟨fun pins s σ H D I q => h.run pins s σ H D I (i _ _ _ q)⟩
theorem pg_imp {e : Expr} {t t' : TG} (h : PG X e t) (i : ∀ v σ H Q, t' v σ H Q → t v σ H Q) : PG X e t' := ⟨fun pins s σ H v u Q I r q => h.run pins s σ H v u Q I r (i _ _ _ _ q)⟩
theorem pgs_imp {es : List Expr} {t t' : TGs} (h : PGs X es t) (i : ∀ v σ H Q, t' v σ H Q → t v σ H Q) : PGs X es t' := ⟨fun pins s σ H v u Q I r q => h.run pins s σ H v u Q I r (i _ _ _ _ q)⟩
theorem pi_imp {tg it : Expr} {t t' : TI} (h : PI X tg it t) (i : ∀ σ H R, t' σ H R → t σ H R) : PI X tg it t' := ⟨fun pins s σ H R I q => h.run pins s σ H R I (i _ _ _ q)⟩
end

/-! ### walks -/
/-- nothing that is tracked changes -/
def Lay (K : PySem.W.Frag) (α : List Addr) (H H' : Hp) : Prop := Ext α H α H' ∧ ∀ h, RepH K α H h → RepH K α H' h
theorem Lay.refl {K : PySem.W.Frag} {α : List Addr} {H H' : Hp} (e : H' = H) : Lay K α H H' := by subst e; exact ⟨Ext.refl, fun _ r => r⟩
theorem Lay.laid {K : PySem.W.Frag} {α : List Addr} {H : Hp} {p : Addr} {o : HO} (hp : H p = none) : Lay K α H (upd H p o) := ⟨Ext.laid hp, fun _ r => r.laid hp⟩
/-- from (α, H) on J walks what s says -/
def Wk (K : PySem.W.Frag) (α : List Addr) (H : Hp) (J : L2.It) : Src → Prop
  | .items ds => ∀ (i : Nat) (α2 : List Addr) (H2 : Hp), Ext α H α2 H2 → (ds.length ≤ i → J.stop i H2) ∧ ∀ d, ds[i]? = some d → J.go i H2 ∧ ∀ x H', J.yld i H2 x H' → Lay K α2 H2 H' ∧ VR K α2 H' d x
  | .dyn n => ∀ (i : Nat) (α2 : List Addr) (H2 : Hp) (h2 : DH) (o : Option D), Ext α H α2 H2 → RepH K α2 H2 h2 → dyget h2 i n = some o → (o = none → J.stop i H2) ∧ ∀ d, o = some d → J.go i H2 ∧ ∀ x H', J.yld i H2 x H' → Lay K α2 H2 H' ∧ VR K α2 H' d x
def rdI (K : PySem.W.Frag) (cls : Nat → Option Addr) (W : WX) (f : Fr → DH → Out Src) : TI := fun σ H R => ∃ α δ h, RepH K α H h ∧ RepF K α H σ δ ∧ Post K cls W σ α H (f δ h) fun s α' H' _ => ∀ J, Wk K α' H' J s → R J H'
section
variable {K : PySem.W.Frag} {α α1 : List Addr} {H H1 : Hp} {h : DH} {X : Cx} {cls : Nat → Option Addr} {W : WX}
theorem wk_tup {a : Addr} {vs : List V} {ds : List D} (h1 : SqT K H a vs) (h2 : VRs K α H ds vs) : Wk K α H (Itt K a) (.items ds) := fun i α2 H2 e => by
  have q1 := e.e0.sqT h1
  have q2 := h2.ext e
  refine ⟨fun hi => ⟨vs, q1, by rw [h2.length]; exact hi⟩, fun d hd => ?_⟩
  obtain ⟨v, g1, g2⟩ := q2.get hd
  refine ⟨⟨vs, v, q1, g1⟩, fun x H' hy => ?_⟩
  have := hy.2 vs q1
  rw [g1] at this
  cases this
  obtain ⟨e1, -⟩ := hy
  subst e1
  exact ⟨Lay.refl rfl, g2⟩
/-- a list that nothing leads to -/
theorem wk_hid {a : Addr} {vs : List V} {ds : List D} (h1 : H a = some (.lst vs)) (hn : a ∉ α) (h2 : VRs K α H ds vs) : Wk K α H (Itl K a) (.items ds) := fun i α2 H2 e => by
  have q1 : SqL K H2 a vs := SqL.of (e.keep _ _ h1 hn)
  have u1 : ∀ xs, SqL K H2 a xs → H2 a = some (.lst vs) := fun _ _ => e.keep _ _ h1 hn
  have q2 := h2.ext e
  refine ⟨fun hi => ⟨vs, q1, by rw [h2.length]; exact hi⟩, fun d hd => ?_⟩
  obtain ⟨v, g1, g2⟩ := q2.get hd
  refine ⟨⟨vs, v, q1, g1⟩, fun x H' hy => ?_⟩
  have := hy.2 vs q1
  rw [g1] at this
  cases this
  obtain ⟨e1, -⟩ := hy
  subst e1
  exact ⟨Lay.refl rfl, g2⟩
/-- a text's signs -/
theorem wk_str (s : List Nat) : Wk K α H (Its (toS s)) (.items (s.map fun c => .str [c])) := fun i α2 H2 e => by
  have sz : (toS s).cps.size = s.length := by show (toS s).length = _; rw [toS_length]
  refine ⟨fun hi => by rw [List.length_map] at hi; show (toS s).cps.size ≤ i; rw [sz]; exact hi, fun d hd => ?_⟩
  rw [List.getElem?_map] at hd
  obtain ⟨c, hc, rfl⟩ := Option.map_eq_some_iff.mp hd
  have hi : i < s.length := (List.getElem?_eq_some_iff.mp hc).1
  refine ⟨by show i < (toS s).cps.size; rw [sz]; exact hi, fun x H' hy => ?_⟩
  obtain ⟨e1, c', h1, rfl⟩ := hy
  subst e1
  have h2 : (toS s).cps[i]? = s[i]? := by rw [← toS_list s, Array.getElem?_toList]
  rw [h2, hc] at h1
  cases h1
  exact ⟨Lay.refl rfl, rfl⟩
theorem wk_dyn {a : Addr} {n : Nat} (ha : α[n]? = some a) : Wk K α H (Itl K a) (.dyn (.lst n)) := fun i α2 H2 h2 o e rp hl => by
  obtain ⟨ds, hl', rfl⟩ := Option.map_eq_some_iff.mp hl
  obtain ⟨b, vs, g1, g2, g3⟩ := rp.list (lget_some hl')
  have := e.e0.get ha
  rw [g1] at this
  cases this
  refine ⟨fun hi => ⟨vs, SqL.of g2, by rw [g3.length]; exact List.getElem?_eq_none_iff.mp hi⟩, fun d hd => ?_⟩
  obtain ⟨v, k1, k2⟩ := g3.get hd
  refine ⟨⟨vs, v, SqL.of g2, k1⟩, fun x H' hy => ?_⟩
  have := hy.2 vs (SqL.of g2)
  rw [k1] at this
  cases this
  obtain ⟨e1, -⟩ := hy
  subst e1
  exact ⟨Lay.refl rfl, k2⟩
/-- a locked dict's values -/
theorem wk_vals {a : Addr} {o : Obj} {ws : List (Key × V)} {kvs : List (DK × D)} (h1 : H a = some (.frz o (.dK ws))) (h2 : VRs K α H (kvs.map (·.2)) (ws.map (·.2))) : Wk K α H (Itd a o ws) (.items (kvs.map (·.2))) := fun i α2 H2 e => by
  have q1 := e.fz _ _ _ h1
  have q2 := h2.ext e
  have hl := h2.length
  rw [List.length_map, List.length_map] at hl
  refine ⟨fun hi => ⟨q1, by rw [List.length_map] at hi; omega⟩, fun d hd => ?_⟩
  obtain ⟨v, g1, g2⟩ := q2.get hd
  rw [List.getElem?_map] at g1
  obtain ⟨⟨k, v'⟩, hk, rfl⟩ := Option.map_eq_some_iff.mp g1
  refine ⟨⟨q1, (List.getElem?_eq_some_iff.mp hk).1⟩, fun x H' hy => ?_⟩
  obtain ⟨e1, k2, hy⟩ := hy
  rw [hk] at hy
  cases hy
  subst e1
  exact ⟨Lay.refl rfl, g2⟩
theorem vr_key (k : DK) : VR K α H (keyD k) (kV (toK k)) := by cases k <;> exact rfl
/-- .. its pairs -/
theorem wk_ditems {a : Addr} {o : Obj} {ws : List (Key × V)} {kvs : List (DK × D)} (h1 : H a = some (.frz o (.dK ws))) (h0 : ws.map (·.1) = kvs.map (fun p => toK p.1)) (h2 : VRs K α H (kvs.map (·.2)) (ws.map (·.2))) :
    Wk K α H (Iti a o ws) (.items (kvs.map fun p => .tup [keyD p.1, p.2])) := fun i α2 H2 e => by
  have q1 := e.fz _ _ _ h1
  have q2 := h2.ext e
  have hl := h2.length
  rw [List.length_map, List.length_map] at hl
  refine ⟨fun hi => ⟨q1, by rw [List.length_map] at hi; omega⟩, fun d hd => ?_⟩
  rw [List.getElem?_map] at hd
  obtain ⟨p, hp, rfl⟩ := Option.map_eq_some_iff.mp hd
  obtain ⟨v, g1, g2⟩ := q2.get (i := i) (d := p.2) (by rw [List.getElem?_map, hp]; rfl)
  rw [List.getElem?_map] at g1
  obtain ⟨⟨k, v'⟩, hk, rfl⟩ := Option.map_eq_some_iff.mp g1
  have hkk : k = toK p.1 := by
    have := congrArg (fun l => l[i]?) h0
    simp only [List.getElem?_map, hk, hp, Option.map_some, Option.some.injEq] at this
    exact this
  refine ⟨⟨q1, (List.getElem?_eq_some_iff.mp hk).1⟩, fun x H' hy => ?_⟩
  obtain ⟨T, k2, v2, hy, rfl, hT, rfl⟩ := hy
  rw [hk] at hy
  cases hy
  have lay := Lay.laid (K := K) (α := α2) (o := .tup [kV k, v']) hT
  exact ⟨lay, T, _, rfl, SqT.of upd_same, kV k, [v'], rfl, by rw [hkk]; exact vr_key _, v', [], rfl, g2.ext lay.1, rfl⟩
theorem wk_enum {a : Addr} {n : Nat} (ha : α[n]? = some a) : Wk K α H (Ite K a) (.dyn (.enum n)) := fun i α2 H2 h2 o e rp hl => by
  obtain ⟨ds, hl', rfl⟩ := Option.map_eq_some_iff.mp hl
  obtain ⟨b, vs, g1, g2, g3⟩ := rp.list (lget_some hl')
  have := e.e0.get ha
  rw [g1] at this
  cases this
  refine ⟨fun hi => ⟨vs, SqL.of g2, by rw [g3.length]; exact List.getElem?_eq_none_iff.mp (Option.map_eq_none_iff.mp hi)⟩, fun d hd => ?_⟩
  obtain ⟨d', hd', rfl⟩ := Option.map_eq_some_iff.mp hd
  obtain ⟨v, k1, k2⟩ := g3.get hd'
  refine ⟨⟨vs, v, SqL.of g2, k1⟩, fun x H' hy => ?_⟩
  obtain ⟨T, y, rfl, hT, rfl, hy⟩ := hy
  have := hy vs (SqL.of g2)
  rw [k1] at this
  cases this
  have lay := Lay.laid (K := K) (α := α2) (o := .tup [.int ((i : Nat) : Int), v]) hT
  exact ⟨lay, T, _, rfl, SqT.of upd_same, .int i, [v], rfl, rfl, v, [], rfl, k2.ext lay.1, rfl⟩
theorem dyget_zip {i n m : Nat} {o : Option D} (e : dyget h i (.zip n m) = some o) : ∃ xs ys, lget h n = some xs ∧ lget h m = some ys ∧ o = (match xs[i]?, ys[i]? with
      | some x, some y => some (.tup [x, y])
      | _, _ => none) := by
  have e' : (match lget h n, lget h m with
    | some xs, some ys => some (match xs[i]?, ys[i]? with
      | some x, some y => some (D.tup [x, y])
      | _, _ => none)
    | _, _ => none) = some o := e
  split at e'
  · rename_i xs ys h1 h2
    cases e'
    exact ⟨xs, ys, h1, h2, rfl⟩
  · cases e'
theorem wk_zip {a b : Addr} {n m : Nat} (ha : α[n]? = some a) (hb : α[m]? = some b) : Wk K α H (Itz K a b) (.dyn (.zip n m)) := fun i α2 H2 h2 o e rp hl => by
  obtain ⟨xs, ys, hx, hy, rfl⟩ := dyget_zip hl
  · 
    obtain ⟨a', vs, g1, g2, g3⟩ := rp.list (lget_some hx)
    have := e.e0.get ha
    rw [g1] at this
    cases this
    obtain ⟨b', us, f1, f2, f3⟩ := rp.list (lget_some hy)
    have := e.e0.get hb
    rw [f1] at this
    cases this
    refine ⟨fun hi => ⟨vs, us, SqL.of g2, SqL.of f2, ?_⟩, fun d hd => ?_⟩
    · split at hi
      · cases hi
      · rename_i z
        rw [g3.length, f3.length]
        by_cases h1 : xs.length ≤ i
        · exact .inl h1
        · by_cases h2 : ys.length ≤ i
          · exact .inr h2
          · exact absurd (List.getElem?_eq_getElem (by omega)) (fun q => z _ _ q (List.getElem?_eq_getElem (by omega)))
    · split at hd
      · rename_i x y hx' hy'
        cases hd
        obtain ⟨v, k1, k2⟩ := g3.get hx'
        obtain ⟨u, j1, j2⟩ := f3.get hy'
        refine ⟨⟨vs, us, v, u, SqL.of g2, SqL.of f2, k1, j1⟩, fun z H' hz => ?_⟩
        obtain ⟨T, x1, y1, rfl, hT, rfl, q1, q2⟩ := hz
        have e1 := q1 vs (SqL.of g2)
        have e2 := q2 us (SqL.of f2)
        rw [k1] at e1
        rw [j1] at e2
        cases e1
        cases e2
        have lay := Lay.laid (K := K) (α := α2) (o := .tup [v, u]) hT
        exact ⟨lay, T, _, rfl, SqT.of upd_same, v, [u], rfl, k2.ext lay.1, u, [], rfl, j2.ext lay.1, rfl⟩
      · cases hd
theorem wk_zipT {a b : Addr} {vs us : List V} {xs ys : List D} (h1 : SqT K H a vs) (h2 : VRs K α H xs vs) (f1 : SqT K H b us) (f2 : VRs K α H ys us) : Wk K α H (RZ.ItzT K a b) (.items (List.zipWith (fun x y => .tup [x, y]) xs ys)) := fun i α2 H2 e => by
  have q1 := e.e0.sqT h1
  have q2 := h2.ext e
  have r1 := e.e0.sqT f1
  have r2 := f2.ext e
  refine ⟨fun hi => ⟨vs, us, q1, r1, by rw [h2.length, f2.length]; rw [List.length_zipWith] at hi; omega⟩, fun d hd => ?_⟩
  rw [List.getElem?_zipWith] at hd
  split at hd
  · rename_i x y hx hy
    cases hd
    obtain ⟨v, k1, k2⟩ := q2.get hx
    obtain ⟨u, j1, j2⟩ := r2.get hy
    refine ⟨⟨vs, us, v, u, q1, r1, k1, j1⟩, fun z H' hz => ?_⟩
    obtain ⟨T, x1, y1, rfl, hT, rfl, p1, p2⟩ := hz
    have e1 := p1 vs q1
    have e2 := p2 us r1
    rw [k1] at e1
    rw [j1] at e2
    cases e1
    cases e2
    have lay := Lay.laid (K := K) (α := α2) (o := .tup [v, u]) hT
    exact ⟨lay, T, _, rfl, SqT.of upd_same, v, [u], rfl, k2.ext lay.1, u, [], rfl, j2.ext lay.1, rfl⟩
  · cases hd
theorem rngL_get : ∀ (n : Nat) (lo : Int) (i : Nat) (d : D), (rngL lo n)[i]? = some d → i < n ∧ d = .int (lo + i)
  | 0, lo, i, d, e => by simp [rngL] at e
  | n + 1, lo, 0, d, e => by simp [rngL] at e; exact ⟨Nat.succ_pos _, by rw [← e]; simp⟩
  | n + 1, lo, i + 1, d, e => by
    simp only [rngL, List.getElem?_cons_succ] at e
    obtain ⟨h1, h2⟩ := rngL_get n (lo + 1) i d e
    exact ⟨by omega, by rw [h2]; congr 1; omega⟩
theorem rngL_length : ∀ (n : Nat) (lo : Int), (rngL lo n).length = n
  | 0, _ => rfl
  | n + 1, lo => by simp [rngL, rngL_length n]
theorem wk_rng (lo : Int) (n : Nat) : Wk K α H (Itr lo n) (.items (rngL lo n)) := fun i α2 H2 e => by
  refine ⟨fun hi => by rw [rngL_length] at hi; exact hi, fun d hd => ?_⟩
  obtain ⟨h1, rfl⟩ := rngL_get _ _ _ _ hd
  exact ⟨h1, fun x H' hy => ⟨Lay.refl hy.1, hy.2⟩⟩
/-- a list or a tuple or a text, walked -/
theorem pi_dyn {tg l : Expr} {tl : TE} (hl : PE X l tl) : PI X tg l (fun σ H R => tl σ H fun x H1 => (∃ a, x = .ref a ∧ (∃ xs, SqL X.K H1 a xs) ∧ R (Itl X.K a) H1) ∨ (∃ a, x = .ref a ∧ (∃ xs, SqT X.K H1 a xs) ∧ R (Itt X.K a) H1) ∨ ∃ z, x = .str z ∧ R (Its z) H1) := by
  refine ⟨fun pins s σ H R I h => ?_⟩
  refine thn (hl.run pins s σ H _ I h) fun v s1 ⟨x, H1, I1, r1, q1⟩ => ?_
  rcases q1 with ⟨a, e, ⟨xs, hq⟩, q⟩ | ⟨a, e, ⟨xs, hq⟩, q⟩ | ⟨z, e, q⟩
  · subst e
    cases r1
    obtain ⟨its, rv, p, hz⟩ := I1.list hq
    refine wpAny_pyIter_list p.isList ?_
    refine ⟨s1.heap.objs.size, [s1.heap.objs.size], _, _, H1, rfl, I1.kept (t' := s1.toks) fun b o e => Heap.get?_push_of_some _ e, turn_list a _, ⟨_, Heap.get?_push_size _ rfl, rfl, rfl⟩, fun b hb => ?_, q⟩
    have e : b = s1.heap.objs.size := by simpa using hb
    subst e
    exact I1.fpOk (Nat.le_refl _) (I1.hok.fresh (Nat.le_refl _))
  · subst e
    cases r1
    obtain ⟨its, rv, p, hz⟩ := I1.tuple hq
    refine wpAny_pyIter_tuple (show s1.heap.IsTuple a its.toArray from p) ?_
    refine ⟨s1.heap.objs.size, [s1.heap.objs.size], _, _, H1, rfl, I1.kept (t' := s1.toks) fun b o e => Heap.get?_push_of_some _ e, turn_tuple a _, ⟨_, Heap.get?_push_size _ rfl, rfl, rfl⟩, fun b hb => ?_, q⟩
    have e : b = s1.heap.objs.size := by simpa using hb
    subst e
    exact I1.fpOk (Nat.le_refl _) (I1.hok.fresh (Nat.le_refl _))
  · subst e
    obtain ⟨t, rfl⟩ := r1
    cases ha : z.cps.all (· < 128)
    · exact wpAny_pyIter_wide ha (pi_one (tk := s1.toks) I1 _ (turn_str _ z t "str_iterator" (.inr rfl)) ⟨_, Heap.get?_push_size _ rfl, rfl, rfl⟩ q)
    · exact wpAny_pyIter_ascii ha (pi_one (tk := s1.toks) I1 _ (turn_str _ z t "str_ascii_iterator" (.inl rfl)) ⟨_, Heap.get?_push_size _ rfl, rfl, rfl⟩ q)

/-! ### statements: helpers -/
theorem PostS.from {o : SO} {D : Ends} (p : PostS K cls W α H o D) (e : Ext α H α1 H1) : PostS K cls W α1 H1 o D := by
  cases o with
  | nx δ h' => exact fun α' σ' H' e' r f => p α' σ' H' (e.trans e') r f
  | rt d h' => exact fun α' H' v e' r f => p α' H' v (e.trans e') r f
  | brk δ h' => exact fun α' σ' H' e' r f => p α' σ' H' (e.trans e') r f
  | cnt δ h' => exact fun α' σ' H' e' r f => p α' σ' H' (e.trans e') r f
  | exc c fs δ h' => exact fun α' σ' H' cv dd e' r f => p α' σ' H' cv dd (e.trans e') r f
  | bad => exact p
theorem PostS.of_sbind {β : Type} {o : Out β} {δ : Fr} {σ : L2.St} {f : β → DH → SO} {D : Ends} (p : PostS K cls W α H (o.sbind δ f) D) (hf : RepF K α H σ δ) :
    Post K cls W σ α H o fun b α' H' h' => PostS K cls W α' H' (f b h') D := by
  cases o with
  | ok b h' => exact fun α' H' e _ => PostS.from p e
  | exc c fs h' => exact fun α' H' cv dd e r x => p α' σ H' cv dd e r (hf.ext e) x
  | bad => exact p
theorem PostS.of_seq {o : SO} {k : Fr → DH → SO} {D : Ends} (p : PostS K cls W α H (o.seq k) D) : PostS K cls W α H o { D with nx := rdS K cls W k D } := by
  cases o with
  | nx δ h' => exact fun α' σ' H' e r f => ⟨α', δ, h', r, f, PostS.from p e⟩
  | rt d h' => exact p
  | brk δ h' => exact p
  | cnt δ h' => exact p
  | exc c fs δ h' => exact p
  | bad => exact p
/-- a turn of a loop: N is wanted behind it -/
theorem PostS.of_loop {o : SO} {k : Fr → DH → SO} {D : Ends} {N : L2.St → Hp → Prop} (p : PostS K cls W α H (o.loop k) D)
    (hN : ∀ δ' h' α' σ' H', Ext α H α' H' → RepH K α' H' h' → RepF K α' H' σ' δ' → PostS K cls W α' H' (k δ' h') D → N σ' H') : PostS K cls W α H o { D with nx := N, ct := N, bk := D.nx } := by
  cases o with
  | nx δ h' => exact fun α' σ' H' e r f => hN _ _ _ _ _ e r f (PostS.from p e)
  | cnt δ h' => exact fun α' σ' H' e r f => hN _ _ _ _ _ e r f (PostS.from p e)
  | rt d h' => exact p
  | brk δ h' => exact p
  | exc c fs δ h' => exact p
  | bad => exact p

/-! ### for -/
theorem for_rd {fuel : Nat} {fI : Fr → DH → Out Src} {is : List Nat} {g : D → Fr → DH → Out Fr} {b : Fr → DH → SO} {D : Ends} {σ : L2.St}
    (q : rdS K cls W (fun δ h => (fI δ h).sbind δ fun s h => frS fuel (fun d δ h => (g d δ h).sbind δ fun δ h => b δ h) s δ h) D σ H) :
    tFor (rdI K cls W fI) (rdG K cls W is g) (rdS K cls W b) D σ H := by
  obtain ⟨α, δ, h, rp, rf, p⟩ := q
  refine ⟨α, δ, h, rp, rf, (PostS.of_sbind p rf).mono fun s α1 H1 h1 e1 rp1 p1 J wk => ?_⟩
  have rf1 := rf.ext e1
  cases s with
  | items ds =>
    refine ⟨fun i m σ2 H2 => m = ds.length - i ∧ ∃ α2 δ2 h2, Ext α1 H1 α2 H2 ∧ RepH K α2 H2 h2 ∧ RepF K α2 H2 σ2 δ2 ∧ PostS K cls W α2 H2 (frI (fun d δ h => (g d δ h).sbind δ fun δ h => b δ h) (ds.drop i) δ2 h2) D,
      ⟨_, rfl, α1, δ, h1, Ext.refl, rp1, rf1, p1⟩, ?_⟩
    rintro i m σ2 H2 ⟨rfl, α2, δ2, h2, e2, rp2, rf2, p2⟩
    obtain ⟨w1, w2⟩ := wk i α2 H2 e2
    rcases Nat.lt_or_ge i ds.length with hi | hi
    · refine .inr ?_
      have hd : ds[i]? = some ds[i] := List.getElem?_eq_getElem hi
      obtain ⟨go, y⟩ := w2 _ hd
      refine ⟨go, _, fun σ' H' z => z, fun x H' hy => ?_⟩
      obtain ⟨lay, hx⟩ := y x H' hy
      rw [List.drop_eq_getElem_cons hi] at p2
      replace p2 := PostS.from p2 lay.1
      replace rp2 := lay.2 _ rp2
      replace rf2 := rf2.ext lay.1
      replace e2 := e2.trans lay.1
      refine ⟨α2, δ2, h2, _, rp2, rf2, hx, ?_⟩
      have p3 : PostS K cls W α2 H' (((g ds[i] δ2 h2).sbind δ2 fun δ h => b δ h).loop (frI (fun d δ h => (g d δ h).sbind δ fun δ h => b δ h) (ds.drop (i + 1)))) D := p2
      clear p2
      cases hg : g ds[i] δ2 h2 with
      | bad => rw [hg] at p3; exact p3.elim
      | exc c fs h' => rw [hg] at p3; exact fun α' H' cv dd e r xr => p3 α' σ2 H' cv dd e r (rf2.ext e) xr
      | ok δ3 h3 =>
        rw [hg] at p3
        intro α3 H3 e3 rp3 σ3 rf3 _
        refine ⟨α3, δ3, h3, rp3, rf3, ?_⟩
        refine PostS.of_loop (PostS.from p3 e3) fun δ4 h4 α4 σ4 H4 e4 rp4 rf4 p4 => ?_
        exact ⟨ds.length - (i + 1), by omega, rfl, α4, δ4, h4, e2.trans (e3.trans e4), rp4, rf4, p4⟩
    · refine .inl ⟨w1 hi, ?_⟩
      rw [List.drop_eq_nil_of_le hi] at p2
      exact p2 α2 σ2 H2 Ext.refl rp2 rf2
  | dyn n =>
    refine ⟨fun i m σ2 H2 => ∃ α2 δ2 h2, Ext α1 H1 α2 H2 ∧ RepH K α2 H2 h2 ∧ RepF K α2 H2 σ2 δ2 ∧ PostS K cls W α2 H2 (frN (fun d δ h => (g d δ h).sbind δ fun δ h => b δ h) n m i δ2 h2) D,
      ⟨_, α1, δ, h1, Ext.refl, rp1, rf1, p1⟩, ?_⟩
    rintro i m σ2 H2 ⟨α2, δ2, h2, e2, rp2, rf2, p2⟩
    cases m with
    | zero => exact p2.elim
    | succ m =>
      unfold frN at p2
      cases hl : dyget h2 i n with
      | none => rw [hl] at p2; exact p2.elim
      | some ds =>
        rw [hl] at p2
        obtain ⟨w1, w2⟩ := wk i α2 H2 h2 ds e2 rp2 hl
        cases hd : ds with
        | none =>
          dsimp only at p2
          rw [hd] at p2
          exact .inl ⟨w1 hd, p2 α2 σ2 H2 Ext.refl rp2 rf2⟩
        | some d =>
          dsimp only at p2
          rw [hd] at p2
          refine .inr ?_
          obtain ⟨go, y⟩ := w2 _ hd
          refine ⟨go, _, fun σ' H' z => z, fun x H' hy => ?_⟩
          obtain ⟨lay, hx⟩ := y x H' hy
          replace p2 := PostS.from p2 lay.1
          replace rp2 := lay.2 _ rp2
          replace rf2 := rf2.ext lay.1
          replace e2 := e2.trans lay.1
          refine ⟨α2, δ2, h2, _, rp2, rf2, hx, ?_⟩
          have p3 : PostS K cls W α2 H' (((g d δ2 h2).sbind δ2 fun δ h => b δ h).loop (frN (fun d δ h => (g d δ h).sbind δ fun δ h => b δ h) n m (i + 1))) D := p2
          clear p2
          cases hg : g d δ2 h2 with
          | bad => rw [hg] at p3; exact p3.elim
          | exc c fs h' => rw [hg] at p3; exact fun α' H' cv dd e r xr => p3 α' σ2 H' cv dd e r (rf2.ext e) xr
          | ok δ3 h3 =>
            rw [hg] at p3
            intro α3 H3 e3 rp3 σ3 rf3 _
            refine ⟨α3, δ3, h3, rp3, rf3, ?_⟩
            refine PostS.of_loop (PostS.from p3 e3) fun δ4 h4 α4 σ4 H4 e4 rp4 rf4 p4 => ?_
            exact ⟨m, Nat.lt_succ_self _, α4, δ4, h4, e2.trans (e3.trans e4), rp4, rf4, p4⟩
/-! ### while -/
theorem whl_rd {fuel : Nat} {t : Fr → DH → Out Bool} {b : Fr → DH → SO} {D : Ends} {σ : L2.St} (q : rdS K cls W (fun δ h => whl t b fuel δ h) D σ H) : tWhile (rdT K cls W t) (rdS K cls W b) D σ H := by
  obtain ⟨α, δ, h, rp, rf, p⟩ := q
  refine ⟨fun m σ2 H2 => ∃ α2 δ2 h2, RepH K α2 H2 h2 ∧ RepF K α2 H2 σ2 δ2 ∧ PostS K cls W α2 H2 (whl t b m δ2 h2) D, ⟨_, α, δ, h, rp, rf, p⟩, ?_⟩
  rintro m σ2 H2 ⟨α2, δ2, h2, rp2, rf2, p2⟩
  cases m with
  | zero => exact p2.elim
  | succ m =>
    unfold whl at p2
    refine ⟨α2, δ2, h2, rp2, rf2, (PostS.of_sbind p2 rf2).mono fun c α3 H3 h3 e3 rp3 p3 => ?_⟩
    cases c with
    | false =>
      rw [if_neg Bool.false_ne_true] at p3 ⊢
      exact p3 α3 σ2 H3 Ext.refl rp3 (rf2.ext e3)
    | true =>
      rw [if_pos rfl] at p3 ⊢
      refine ⟨_, fun σ' H' z => z, α3, δ2, h3, rp3, rf2.ext e3, ?_⟩
      refine PostS.of_loop p3 fun δ4 h4 α4 σ4 H4 e4 rp4 rf4 p4 => ?_
      exact ⟨m, Nat.lt_succ_self _, α4, δ4, h4, rp4, rf4, p4⟩
end
end FD

set_option Elab.async false
set_option linter.all false
set_option maxRecDepth 100000
set_option maxHeartbeats 1000000
/-! The D layer, 7: comprehensions. -/
namespace FD
open PySem PySem.Spec PyProof.Rows L2
section
variable {K : PySem.W.Frag} {α α1 : List Addr} {H H1 : Hp} {h : DH} {X : Cx} {cls : Nat → Option Addr} {W : WX}
theorem Post.of_noexc {β : Type} {o : Out β} {σ : L2.St} {Z : β → List Addr → Hp → DH → Prop} (p : Post K cls W σ α H o.noexc Z) : Post K cls (fun _ _ _ _ => False) σ α H o Z := by
  cases o with
  | ok b h' => exact p
  | exc c fs h' => exact p.elim
  | bad => exact p
/-- the hidden list at Dd changes -/
theorem hid_e0 {Dd : Addr} {vs us : List V} (hd : H Dd = some (.lst vs)) : Ext0 α H α (upd H Dd (.lst us)) :=
  ⟨List.prefix_rfl, fun a ws q => by rw [upd_ne (ne_of q hd (by intro z; cases z))]; exact q, fun a o u q => by rw [upd_ne (ne_of q hd (by intro z; cases z))]; exact q⟩
theorem hid_rep {Dd : Addr} {vs us : List V} (hd : H Dd = some (.lst vs)) (hn : Dd ∉ α) (r : RepH K α H h) : RepH K α (upd H Dd (.lst us)) h :=
  r.same (hid_e0 hd) fun a ha u q => by rw [upd_ne (fun z : a = Dd => hn (z ▸ ha))]; exact q
theorem hid_ext {Dd : Addr} {us : List V} (hd : H Dd = none) (hn : Dd ∉ α1) (e : Ext α H α1 H1) {vs : List V} (hd1 : H1 Dd = some (.lst vs)) : Ext α H α1 (upd H1 Dd (.lst us)) :=
  ⟨e.pre, e.new, fun a u q ha => by rw [upd_ne (ne_of_none q hd)]; exact e.keep a u q ha, fun a ws q => by rw [upd_ne (ne_of_none q hd)]; exact e.tp a ws q, fun a o u q => by rw [upd_ne (ne_of_none q hd)]; exact e.fz a o u q⟩
theorem wipe_get (vs : List Nat) (i : Nat) (τ : L2.St) : (L2.wipe τ vs)[i]? = if i ∈ vs ∧ i < τ.length then some none else τ[i]? := by
  induction vs with
  | nil => simp [L2.wipe]
  | cons u us ih =>
    unfold L2.wipe
    rw [List.getElem?_set, wipe_length, ih]
    by_cases z : u = i
    · subst z
      by_cases hl : u < τ.length
      · simp [hl]
      · simp only [List.mem_cons, true_or, hl, and_false, if_true, if_false]
        rw [List.getElem?_eq_none (Nat.le_of_not_lt hl)]
    · rw [if_neg z]
      have : i ∈ u :: us ↔ i ∈ us := by simp [Ne.symm z]
      simp only [this]
theorem wipe_wipe (vs : List Nat) (τ : L2.St) : L2.wipe (L2.wipe τ vs) vs = L2.wipe τ vs := by
  refine List.ext_getElem? fun i => ?_
  rw [wipe_get, wipe_get, wipe_length]
  split <;> rfl
/-- one turn of a comprehension: what is known of the turn, what is wanted behind it -/
theorem comp_turn {is vs : List Nat} {g : D → Fr → DH → Out Fr} {cond : Fr → DH → Out Bool} {elt : Fr → DH → Out D} {σ : L2.St} {δ : Fr} (hs : ∀ i ∈ is, i ∈ vs) {Dd : Addr}
    (hDd : H1 Dd = none) {α2 : List Addr} {H2 : Hp} {h2 : DH} {acc : List D} {us : List V} {d : D} {x : V} {k : List D → DH → Out (List D)} {G : List D → DH → Prop} {Nx : Hp → Prop}
    (e2 : Ext α1 H1 α2 H2) (rp2 : RepH K α2 H2 h2) (rf2 : RepF K α2 H2 σ δ) (hn2 : Dd ∉ α2) (hd2 : H2 Dd = some (.lst us)) (hu2 : VRs K α2 H2 acc us) (hx : VR K α2 H2 d x)
    (ok : ∃ o h, cmpT elt g cond (wipeF δ vs) d h2 = .ok o h ∧ (match o with
      | some y => acc.length < SL ∧ G (acc ++ [y]) h
      | none => G acc h))
    (hN : ∀ (acc' : List D) (us' : List V) (α3 : List Addr) (H3 : Hp) (h3 : DH), Ext α1 H1 α3 H3 → RepH K α3 H3 h3 → Dd ∉ α3 → H3 Dd = some (.lst us') → VRs K α3 H3 acc' us' → G acc' h3 → Nx H3) :
    rdG K cls (fun _ _ _ _ => False) is g x (L2.wipe σ vs) H2 fun σ2 H2 => L2.wipe σ2 vs = L2.wipe σ vs ∧ rdT K cls (fun _ _ _ _ => False) cond σ2 H2 fun b H3 =>
      if b = true then rdE K cls (fun _ _ _ _ => False) elt σ2 H3 fun y H4 => ∃ acc, H4 Dd = some (.lst acc) ∧ acc.length < sizeLine ∧ Nx (upd H4 Dd (.lst (acc ++ [y]))) else Nx H3 := by
  obtain ⟨o, hh, ho, hG⟩ := ok
  refine ⟨α2, wipeF δ vs, h2, d, rp2, rf2.wipe vs, hx, ?_⟩
  unfold cmpT at ho
  cases hg : g d (wipeF δ vs) h2 with
  | bad => rw [hg] at ho; cases ho
  | exc c fs h' => rw [hg] at ho; cases ho
  | ok δ3 h3 =>
    rw [hg] at ho
    simp only [Out.bind] at ho
    intro α3 H3 e3 rp3 σ3 rf3 ag
    have st : ∀ {α4 : List Addr} {H4 : Hp}, Ext α2 H2 α4 H4 → H4 Dd = some (.lst us) ∧ Dd ∉ α4 ∧ VRs K α4 H4 acc us := fun e => ⟨e.keep _ _ hd2 hn2, fun hm => (by
      have := e.new Dd hm hn2
      rw [hd2] at this; cases this), hu2.ext e⟩
    refine ⟨by rw [ag.wipe hs, wipe_wipe], α3, δ3, h3, rp3, rf3, ?_⟩
    cases hc : cond δ3 h3 with
    | bad => rw [hc] at ho; cases ho
    | exc c fs h' => rw [hc] at ho; cases ho
    | ok b h4 =>
      rw [hc] at ho
      simp only [Out.bind] at ho
      intro α4 H4 e4 rp4
      dsimp only
      have e24 := e3.trans e4
      obtain ⟨s1, s2, s3⟩ := st e24
      cases b with
      | false =>
        rw [if_neg Bool.false_ne_true] at ho ⊢
        cases ho
        exact hN acc us α4 H4 _ (e2.trans e24) rp4 s2 s1 s3 hG
      | true =>
        rw [if_pos rfl] at ho ⊢
        refine ⟨α4, δ3, h4, rp4, rf3.ext e4, ?_⟩
        cases hy : elt δ3 h4 with
        | bad => rw [hy] at ho; cases ho
        | exc c fs h' => rw [hy] at ho; cases ho
        | ok y h5 =>
          rw [hy] at ho
          simp only [Out.bind] at ho
          cases ho
          intro α5 H5 e5 rp5 v hv
          have e25 := e24.trans e5
          obtain ⟨t1, t2, t3⟩ := st e25
          have e6 : Ext0 α5 H5 α5 (upd H5 Dd (.lst (us ++ [v]))) := hid_e0 t1
          exact ⟨us, t1, by rw [t3.length, SL_eq]; exact hG.1, hN (acc ++ [y]) (us ++ [v]) α5 _ _ (hid_ext hDd t2 (e2.trans e25) t1) (hid_rep t1 t2 rp5) t2 upd_same ((t3.append (VRs.one hv)).ext0 e6) hG.2⟩
theorem comp_rd {fuel : Nat} {fI : Fr → DH → Out Src} {is vs : List Nat} {g : D → Fr → DH → Out Fr} {cond : Fr → DH → Out Bool} {elt : Fr → DH → Out D} {σ : L2.St} {Q : VK} (hs : ∀ i ∈ is, i ∈ vs)
    (q : rdL K cls W (fun δ h => (fI δ h).bind fun s h => (compS fuel (cmpT elt g cond (wipeF δ vs)) s h).noexc) σ H Q) :
    tLc (rdI K cls W fI) (rdG K cls (fun _ _ _ _ => False) is g) (rdT K cls (fun _ _ _ _ => False) cond) (rdE K cls (fun _ _ _ _ => False) elt) vs σ H Q := by
  obtain ⟨α, δ, h, rp, rf, p⟩ := q
  refine ⟨α, δ, h, rp, rf, (Post.of_bind p).mono fun s α1 H1 h1 e1 rp1 p1 J wk Dd hDd => ?_⟩
  have rf1 := rf.ext e1
  have hH : H Dd = none := by
    cases z : H Dd with
    | none => rfl
    | some u =>
      by_cases hm : Dd ∈ α
      · obtain ⟨n, o, _, _, r3⟩ := rp1.mem (e1.pre.subset hm)
        obtain ⟨u', r4⟩ := or_some r3
        rw [hDd] at r4; cases r4
      · rw [e1.keep Dd u z hm] at hDd; cases hDd
  have hn1 : Dd ∉ α1 := rp1.free hDd
  have e0 : Ext α1 H1 α1 (upd H1 Dd (.lst [])) := Ext.laid hDd
  -- the end
  have fin : ∀ (acc : List D) (us : List V) (α2 : List Addr) (H2 : Hp) (h2 : DH), Ext α1 H1 α2 H2 → RepH K α2 H2 h2 → Dd ∉ α2 → H2 Dd = some (.lst us) → VRs K α2 H2 acc us →
      Post K cls W σ α1 H1 ((Out.ok acc h2 : Out (List D)).noexc) (fun ds α' H' _ => ∀ p vs, H p = none → p ∉ α' → H' p = some (.lst vs) → VRs K α' H' ds vs → Q (.ref p) H') → Q (.ref Dd) H2 :=
    fun acc us α2 H2 h2 e2 rp2 hn2 hd2 hu2 p => p α2 H2 e2 rp2 Dd us hH hn2 hd2 hu2
  cases s with
  | items ds =>
    refine ⟨fun i m H2 => m = ds.length - i ∧ ∃ α2 h2 acc us, Ext α1 H1 α2 H2 ∧ RepH K α2 H2 h2 ∧ Dd ∉ α2 ∧ H2 Dd = some (.lst us) ∧ VRs K α2 H2 acc us ∧
      Post K cls W σ α1 H1 ((compI (cmpT elt g cond (wipeF δ vs)) (ds.drop i) acc h2).noexc) (fun ds α' H' _ => ∀ p vs, H p = none → p ∉ α' → H' p = some (.lst vs) → VRs K α' H' ds vs → Q (.ref p) H'),
      ⟨_, rfl, α1, h1, [], [], e0, rp1.laid hDd, hn1, upd_same, rfl, p1⟩, ?_⟩
    rintro i m H2 ⟨rfl, α2, h2, acc, us, e2, rp2, hn2, hd2, hu2, p2⟩
    obtain ⟨w1, w2⟩ := wk i α2 H2 e2
    rcases Nat.lt_or_ge i ds.length with hi | hi
    · refine .inr ?_
      obtain ⟨go, y⟩ := w2 _ (List.getElem?_eq_getElem hi)
      refine ⟨go, _, fun H' z => z, fun x H' hy => ?_⟩
      obtain ⟨lay, hx⟩ := y x H' hy
      replace hd2 := lay.1.keep _ _ hd2 hn2
      replace hu2 := hu2.ext lay.1
      replace rp2 := lay.2 _ rp2
      replace e2 := e2.trans lay.1
      rw [List.drop_eq_getElem_cons hi] at p2
      refine comp_turn (G := fun acc h => Post K cls W σ α1 H1 ((compI (cmpT elt g cond (wipeF δ vs)) (ds.drop (i + 1)) acc h).noexc) (fun ds α' H' _ => ∀ p vs, H p = none → p ∉ α' → H' p = some (.lst vs) → VRs K α' H' ds vs → Q (.ref p) H'))
        hs hDd (k := fun _ _ => .bad) e2 rp2 (rf1.ext e2) hn2 hd2 hu2 hx ?_ fun acc' us' α3 H3 h3 e3 rp3 hn3 hd3 hu3 p3 => ⟨ds.length - (i + 1), by omega, rfl, α3, h3, acc', us', e3, rp3, hn3, hd3, hu3, p3⟩
      unfold compI at p2
      cases hc : cmpT elt g cond (wipeF δ vs) ds[i] h2 with
      | bad => rw [hc] at p2; exact p2.elim
      | exc c fs h' => rw [hc] at p2; exact p2.elim
      | ok o h' =>
        rw [hc] at p2
        refine ⟨o, h', rfl, ?_⟩
        cases o with
        | none => exact p2
        | some y =>
          have p3 : Post K cls W σ α1 H1 ((if acc.length < SL then compI (cmpT elt g cond (wipeF δ vs)) (ds.drop (i + 1)) (acc ++ [y]) h' else .bad).noexc) _ := p2
          by_cases hz : acc.length < SL
          · rw [if_pos hz] at p3; exact ⟨hz, p3⟩
          · rw [if_neg hz] at p3; exact p3.elim
    · refine .inl ⟨w1 hi, ?_⟩
      rw [List.drop_eq_nil_of_le hi] at p2
      exact fin acc us α2 H2 h2 e2 rp2 hn2 hd2 hu2 p2
  | dyn n =>
    refine ⟨fun i m H2 => ∃ α2 h2 acc us, Ext α1 H1 α2 H2 ∧ RepH K α2 H2 h2 ∧ Dd ∉ α2 ∧ H2 Dd = some (.lst us) ∧ VRs K α2 H2 acc us ∧
      Post K cls W σ α1 H1 ((compN (cmpT elt g cond (wipeF δ vs)) n m i acc h2).noexc) (fun ds α' H' _ => ∀ p vs, H p = none → p ∉ α' → H' p = some (.lst vs) → VRs K α' H' ds vs → Q (.ref p) H'),
      ⟨_, α1, h1, [], [], e0, rp1.laid hDd, hn1, upd_same, rfl, p1⟩, ?_⟩
    rintro i m H2 ⟨α2, h2, acc, us, e2, rp2, hn2, hd2, hu2, p2⟩
    cases m with
    | zero => exact p2.elim
    | succ m =>
      unfold compN at p2
      cases hl : dyget h2 i n with
      | none => rw [hl] at p2; exact p2.elim
      | some ds =>
        rw [hl] at p2
        obtain ⟨w1, w2⟩ := wk i α2 H2 h2 ds e2 rp2 hl
        cases hd : ds with
        | none =>
          dsimp only at p2
          rw [hd] at p2
          exact .inl ⟨w1 hd, fin acc us α2 H2 h2 e2 rp2 hn2 hd2 hu2 p2⟩
        | some d =>
          dsimp only at p2
          rw [hd] at p2
          dsimp only at p2
          refine .inr ?_
          obtain ⟨go, y⟩ := w2 _ hd
          refine ⟨go, _, fun H' z => z, fun x H' hy => ?_⟩
          obtain ⟨lay, hx⟩ := y x H' hy
          replace hd2 := lay.1.keep _ _ hd2 hn2
          replace hu2 := hu2.ext lay.1
          replace rp2 := lay.2 _ rp2
          replace e2 := e2.trans lay.1
          refine comp_turn (G := fun acc h => Post K cls W σ α1 H1 ((compN (cmpT elt g cond (wipeF δ vs)) n m (i + 1) acc h).noexc) (fun ds α' H' _ => ∀ p vs, H p = none → p ∉ α' → H' p = some (.lst vs) → VRs K α' H' ds vs → Q (.ref p) H'))
            hs hDd (k := fun _ _ => .bad) e2 rp2 (rf1.ext e2) hn2 hd2 hu2 hx ?_ fun acc' us' α3 H3 h3 e3 rp3 hn3 hd3 hu3 p3 => ⟨m, Nat.lt_succ_self _, α3, h3, acc', us', e3, rp3, hn3, hd3, hu3, p3⟩
          cases hc : cmpT elt g cond (wipeF δ vs) d h2 with
          | bad => rw [hc] at p2; exact p2.elim
          | exc c fs h' => rw [hc] at p2; exact p2.elim
          | ok o h' =>
            rw [hc] at p2
            refine ⟨o, h', rfl, ?_⟩
            cases o with
            | none => exact p2
            | some y =>
              have p3 : Post K cls W σ α1 H1 ((if acc.length < SL then compN (cmpT elt g cond (wipeF δ vs)) n m (i + 1) (acc ++ [y]) h' else .bad).noexc) _ := p2
              by_cases hz : acc.length < SL
              · rw [if_pos hz] at p3; exact ⟨hz, p3⟩
              · rw [if_neg hz] at p3; exact p3.elim
end
end FD

set_option Elab.async false
set_option linter.all false
set_option maxRecDepth 100000
set_option maxHeartbeats 1000000
/-! The D layer, 8: from the text's syntax to the language. -/
namespace FD
open PySem PySem.Spec PyProof.Rows L2
/-- what is known of the names around -/
structure CC where
  N : List Str
  sc : Scope
  asn : List Str
  fns : List (Str × Nat)
  gls : List (Str × D)
  free : List Str
  /-- the own exceptions: their number, their shape -/
  exs : List (Str × Nat × Xk)
  /-- names of itertools.accumulate -/
  acs : List Str
  /-- classes that except and isinstance name, own ones, built-in ones: the own exceptions under them -/
  exn : List (Str × List Nat)
  exb : List (Str × List Nat)
  /-- own classes that are made: their __init__; methods by class; the classes; the fields -/
  mks : List (Str × Nat)
  mths : List (Str × List (Str × Nat))
  cns : List Str
  fds : List Str
/-- the recursive calls -/
structure Rec where
  e : CC → Expr → Option E
  es : CC → List Expr → Option Es
  b : CC → Bool → List Expr → Option E
  l : CC → Expr → Option L
  it : CC → Expr → Option It
  t : CC → Expr → Option T
  ts : CC → List Expr → Option Ts
  o : CC → Option Expr → Option Oe
def plainB : Expr → Bool
  | .Call (.Name _ _) [] [] _ => false
  | _ => true
def noStar : Expr → Bool
  | .Starred _ _ => false
  | _ => true
def noSet : Expr → Bool
  | .Set _ _ _ => false
  | _ => true
def noSlice : Expr → Bool
  | .Slice _ _ _ _ => false
  | _ => true
def noComp : Expr → Bool
  | .ListComp _ _ _ _ | .SetComp _ _ _ _ | .DictComp _ _ _ _ _ => false
  | _ => true
def nameOk (x : Str) : Bool := !(x == ("__debug__" : Str)) && !(x == ("__classdict__" : Str)) && !(x == ("__name__" : Str))
def visB (sc : Scope) (x : Str) : Bool := match sc.names.lookup x with
  | some .local => true
  | some .cell => true
  | some .free => true
  | _ => false
def glB (sc : Scope) (x : Str) : Bool := match sc.names.lookup x with
  | some .globalImplicit => true
  | _ => false
def locB (sc : Scope) (x : Str) : Bool := match sc.names.lookup x with
  | some .local => true
  | _ => false
def slotOf : List Str → Str → Nat → Option Nat
  | [], _, _ => none
  | y :: r, x, i => if y == x then some i else slotOf r x (i + 1)
def cK : Const → Option E
  | .none => some (.c .non)
  | .bool b => some (.c (.bl b))
  | .int i => some (.c (.int i))
  | .str s => some (.c (.str s.cps.toList))
  | _ => none
def cN (c : CC) (x : Str) : Option E :=
  if nameOk x then
    if visB c.sc x then (slotOf c.N x 0).map .sl
    else if glB c.sc x then (c.gls.lookup x).map .c
    else none
  else none
def cOp : Operator → Option BOp
  | .Add => some .add | .Sub => some .sub | .Mult => some .mul | .FloorDiv => some .fdiv | .Mod => some .mod | .Pow => some .pow
  | _ => none
def cCo : CmpOp → Option COp
  | .Eq => some .eq | .NotEq => some .ne | .Lt => some .lt | .LtE => some .le | .Gt => some .gt | .GtE => some .ge | .In => some .in_ | .NotIn => some .nin
  | _ => none
/-- o.replace(..).replace(..) -/
def strip : Nat → Expr → Option (Expr × List (Nat × List Nat))
  | k + 1, .Call (.Attribute o m apos) [.Constant (.str y) _ _, .Constant (.str z) _ _] [] pos =>
    if m == ("replace" : Str) && plainB o && (apos.endLine == pos.line) && !(y == z) then
      match y.cps.toList with
      | [c] => match strip k o with
        | some (b, ps) => some (b, ps ++ [(c, z.cps.toList)])
        | none => some (o, [(c, z.cps.toList)])
      | _ => none
    else none
  | _, _ => none
def cSi : Expr → Option Si
  | .Constant .none _ _ => some .non
  | .Constant (.bool true) _ _ => some .tr
  | .Constant (.bool false) _ _ => some .fl
  | _ => none
def tyS : List (Str × Ty) := [("int", .int), ("str", .str), ("tuple", .tuple), ("bool", .bool), ("list", .list)]
def glFree (c : CC) (x : Str) : Bool := nameOk x && glB c.sc x && c.free.contains x
def cBl : List (Str × Bl) := [("tuple", .tuple), ("len", .len), ("all", .all), ("any", .any)]
def cBi : List (Str × Bi) := [("len", .len), ("int", .int), ("str", .str), ("tuple", .tuple), ("ord", .ord)]
def cCall (r : Rec) (c : CC) (x : Str) (args : List Expr) : Option E :=
  if nameOk x && glB c.sc x then
    match c.fns.lookup x with
    | some f => (r.es c args).map (.call f)
    | none => if c.free.contains x then
        match args with
        | [a] => if !noStar a then none else match cBl.lookup x, r.l c a with
          | some b, some l => some (.biL b l)
          | _, _ => match cBi.lookup x, r.e c a with
            | some b, some a' => some (.bi b a')
            | _, _ => none
        | [a, .Name t _] => if x == ("isinstance" : Str) && glFree c t && noStar a then
            match tyS.lookup t, r.e c a with
            | some ty, some a' => some (.isi a' ty)
            | _, _ => none
          else none
        | _ => none
      else none
  else none
def cTm : List (Str × Tm) := [("isascii", .ascii), ("isalnum", .alnum), ("lower", .lower), ("isdigit", .digit)]
def cMeth (r : Rec) (c : CC) (o : Expr) (m : Str) (args : List Expr) : Option E :=
  match args with
  | [] => match cTm.lookup m, r.e c o with
    | some q, some o' => some (.tm q o')
    | _, _ => none
  | [a] => if m == ("append" : Str) then
      match r.e c o, r.es c [a] with
      | some o', some es => some (.mt .append o' es)
      | _, _ => none
    else if m == ("join" : Str) && noStar a then
      match r.e c o, r.l c a with
      | some o', some l => some (.mtL .join o' l)
      | _, _ => match r.e c o, r.es c [a] with
        | some o', some es => some (.mt .join o' es)
        | _, _ => none
    else if m == ("get" : Str) && noStar a then
      match r.e c o, r.e c a with
      | some o', some a' => some (.dget1 o' a')
      | _, _ => none
    else if m == ("split" : Str) then
      match r.e c o, r.es c [a] with
      | some o', some es => some (.mt .split o' es)
      | _, _ => none
    else if m == ("partition" : Str) then
      match r.e c o, r.es c [a] with
      | some o', some es => some (.mt .part o' es)
      | _, _ => none
    else if m == ("rpartition" : Str) then
      match r.e c o, r.es c [a] with
      | some o', some es => some (.mt .rpart o' es)
      | _, _ => none
    else none
  | [a, b] => if m == ("find" : Str) then
      match r.e c o, r.es c [a, b] with
      | some o', some es => some (.mt .find2 o' es)
      | _, _ => none
    else if m == ("get" : Str) && noStar a && noStar b then
      match r.e c o, r.e c a, r.e c b with
      | some o', some a', some b' => some (.dget2 o' a' b')
      | _, _, _ => none
    else if m == ("split" : Str) then
      match r.e c o, r.es c [a, b] with
      | some o', some es => some (.mt .splitN o' es)
      | _, _ => none
    else none
  | [a, b, d] => if m == ("find" : Str) then
      match r.e c o, r.es c [a, b, d] with
      | some o', some es => some (.mt .find3 o' es)
      | _, _ => none
    else none
  | _ => none
def cBin (r : Rec) (c : CC) (a : Expr) (op : Operator) (b : Expr) : Option E :=
  match op, a, strip 9 b with
  | .Add, .Constant (.str q) _ _, some (o, ps) => (r.e c o).map fun o' => .repl q.cps.toList o' ps
  | _, _, _ => match cOp op, r.e c a, r.e c b with
    | some o, some a', some b' => some (.bin o a' b')
    | _, _, _ => none
def cCmp (r : Rec) (c : CC) (a : Expr) (op : CmpOp) (b : Expr) : Option E :=
  match op with
  | .Is => match r.e c a, cSi b with
    | some a', some s => some (.is_ true a' s)
    | _, _ => none
  | .IsNot => match r.e c a, cSi b with
    | some a', some s => some (.is_ false a' s)
    | _, _ => none
  | op => if noSet b then
      match cCo op, r.e c a, r.e c b with
      | some o, some a', some b' => some (.cmp o a' b')
      | _, _, _ => none
    else none
/-- list(map(ord, e)), sum(accumulate(e)) -/
def cSpec (r : Rec) (c : CC) (x : Str) (args : List Expr) : Option E := match args with
  | [.Call (.Name y _) [.Name z _, e] [] _] => if x == ("list" : Str) && glFree c x && y == ("map" : Str) && glFree c y && z == ("ord" : Str) && glFree c z && noStar e then (r.e c e).map .ordL else none
  | [.Call (.Name y _) [e] [] _] => if x == ("sum" : Str) && glFree c x && glB c.sc y && nameOk y && c.acs.contains y && noStar e then (r.e c e).map .accS else none
  | _ => none
/-- dict(e), list(e), sorted(e) -/
def cNew (r : Rec) (c : CC) (x : Str) (args : List Expr) : Option E := match args with
  | [e] => if glFree c x && noStar e then (if x == ("dict" : Str) then (r.e c e).map .dictP else if x == ("list" : Str) then (r.e c e).map .listOf else if x == ("sorted" : Str) then (r.e c e).map .sortD else none) else none
  | _ => none
abbrev toN (x : Str) : List Nat := x.cps.toList
/-- C(..) -/
def cMake (r : Rec) (c : CC) (x : Str) (args : List Expr) : Option E := match c.mks.lookup x with
  | some f => if nameOk x && glB c.sc x then (r.es c args).map (.mk (toN x) f) else none
  | none => none
/-- o.m(..) of an instance -/
def cMth (r : Rec) (c : CC) (o : Expr) (m : Str) (args : List Expr) : Option E := match c.mths.lookup m with
  | some ds => if args.length < 30 then match r.e c o, r.es c args with
    | some o', some es => some (.meth (toN m) (ds.map fun p => (toN p.1, p.2)) o' es)
    | _, _ => none
    else none
  | none => none
def cChain (r : Rec) (c : CC) (a : Expr) (op op2 : CmpOp) (b d : Expr) : Option E :=
  if noSet b && noSet d then
    match cCo op, cCo op2, r.e c a, r.e c b, r.e c d with
    | some o, some o2, some a', some b', some d' => some (.chain o o2 a' b' d')
    | _, _, _, _, _ => none
  else none
/-- the parts of an f-string -/
def cF (r : Rec) (c : CC) : List Expr → Option Es
  | [] => some .nil
  | .Constant (.str s) _ _ :: es => (cF r c es).map (.cons (.c (.str s.cps.toList)))
  | .FormattedValue e (-1) none _ :: es => match r.e c e, cF r c es with
    | some e', some es' => some (.cons e' es')
    | _, _ => none
  | _ => none
/-- the keys of a display: constants -/
def cKeys : List (Option Expr) → Option (List DK)
  | [] => some []
  | some (.Constant (.int i) _ _) :: r => (cKeys r).map (.inl i :: ·)
  | some (.Constant (.str s) _ _) :: r => (cKeys r).map (.inr s.cps.toList :: ·)
  | _ => none
def relab (scope outer : Scope) : Scope := { scope with names := scope.names.map fun (n, k) => if (k == NameKind.free && outer.kind == .function && outer.names.lookup n == some .cell) then (n, NameKind.cell) else (n, k) }
/-- enumerate, zip and items want a tuple of targets -/
def tupT : Expr → Bool
  | .Tuple _ _ _ => true
  | _ => false
def okIt (i : It) (tg : Expr) : Bool := match i with
  | .enum _ => tupT tg
  | .zip _ _ => tupT tg
  | .ditems _ => tupT tg
  | _ => true
/-- a comprehension's own names with their places -/
def ownOf (N : List Str) : List (Str × NameKind) → List (Str × Nat)
  | [] => []
  | (n, k) :: r => if k == NameKind.local || k == NameKind.cell then
      match slotOf N n 0 with
      | some i => (n, i) :: ownOf N r
      | none => ownOf N r
    else ownOf N r
/-- the names that a comprehension's targets may set -/
def asnOf (sc' : Scope) (scope : Scope) (own : List (Str × Nat)) : List Str :=
  (own.map (·.1)).filter fun x => locB sc' x || ((match sc'.names.lookup x with | some .cell => true | _ => false) && (scope.names.lookup x == some .cell))
/-- {k: v for ..} -/
def cDc (r : Rec) (c : CC) (kx vx : Expr) (gs : List Comprehension) (scope : Scope) : Option E := match gs with
  | [⟨tg, iter, ifs, 0⟩] => if blkC c.N c.sc scope (ownOf c.N scope.names) && noSet iter then match r.it c iter with
      | some i' => if okIt i' tg then some (.dcomp i') else none
      | none => none
    else none
  | _ => none
def sE (r : Rec) (c : CC) (e : Expr) : Option E := match e with
  | .Constant k _ _ => cK k
  | .Name x _ => cN c x
  | .BinOp a op b _ => cBin r c a op b
  | .UnaryOp .USub a _ => (r.e c a).map .neg
  | .UnaryOp .Not a _ => (r.e c a).map .not_
  | .BoolOp .And vs _ => r.b c true vs
  | .BoolOp .Or vs _ => r.b c false vs
  | .IfExp t a b _ => match r.e c t, r.e c a, r.e c b with
    | some t', some a', some b' => some (.ite t' a' b')
    | _, _, _ => none
  | .Compare a [op] [b] _ => cCmp r c a op b
  | .Compare a [op, op2] [b, d] _ => cChain r c a op op2 b d
  | .JoinedStr (v1 :: v2 :: vs) _ => (cF r c (v1 :: v2 :: vs)).map .fstr
  | .Tuple es _ _ => (r.es c es).map .tup
  | .Subscript a (.Slice none none (some (.UnaryOp .USub (.Constant (.int 1) _ _) _)) _) _ => (r.e c a).map .revS
  | .Subscript a (.Slice lo hi none _) _ => match r.e c a, r.o c lo, r.o c hi with
    | some a', some lo', some hi' => some (.sli a' lo' hi')
    | _, _, _ => none
  | .Subscript a b _ => if noSlice b then
      match r.l c a with
      | some l => (r.e c b).map (.ixL l)
      | none => match r.e c a, r.e c b with
        | some a', some b' => some (.ix a' b')
        | _, _ => none
    else none
  | .Dict keys vals _ => if keys.length = vals.length ∧ keys.length ≤ 15 then
      match cKeys keys, r.es c vals with
      | some ks, some es => some (.dict ks es)
      | _, _ => none
    else none
  | .Call (.Name x _) args [] _ => match cSpec r c x args with
    | some t => some t
    | none => match cNew r c x args with
     | some t => some t
     | none => match cMake r c x args with
      | some t => some t
      | none => cCall r c x args
  | .Call (.Attribute o m apos) args [] pos => if plainB o && (apos.endLine == pos.line) then (match cMth r c o m args with
    | some t => some t
    | none => cMeth r c o m args) else none
  | .Attribute o f _ => if plainB o && c.fds.contains f then (r.e c o).map fun o' => .fld (c.cns.map toN) o' (toN f) else none
  | .List es pos => (r.l c (.List es pos)).map .ofL
  | .ListComp elt gs sc pos => (r.l c (.ListComp elt gs sc pos)).map .ofL
  | .DictComp kx vx gs sc pos => cDc r c kx vx gs sc
  | _ => none
def sEs (r : Rec) (c : CC) : List Expr → Option Es
  | [] => some .nil
  | e :: es => if noStar e then
      match r.e c e, r.es c es with
      | some e', some es' => some (.cons e' es')
      | _, _ => none
    else none
def sB (r : Rec) (c : CC) (k : Bool) : List Expr → Option E
  | [a] => r.e c a
  | a :: b :: rest => match r.e c a, r.b c k (b :: rest) with
    | some a', some b' => some (if k then .and_ a' b' else .or_ a' b')
    | _, _ => none
  | [] => none
def inner (c : CC) (scope : Scope) : CC := { c with sc := relab scope c.sc, asn := asnOf (relab scope c.sc) scope (ownOf c.N scope.names) }
def cIfs (r : Rec) (c : CC) : List Expr → Option Oe
  | [] => some Oe.none
  | [e] => r.o c (some e)
  | _ => none
def sL (r : Rec) (c : CC) : Expr → Option L
  | .List es _ => (r.es c es).map .disp
  | .ListComp elt [⟨tg, iter, ifs, 0⟩] scope _ =>
    if blkC c.N c.sc scope (ownOf c.N scope.names) && noSet iter then
      match r.e (inner c scope) elt, r.t (inner c scope) tg, r.it c iter, cIfs r (inner c scope) ifs with
      | some e', some t', some i', some o' => if okIt i' tg && t'.slots.all (fun i => ((ownOf c.N scope.names).map (·.2)).contains i) then some (.comp e' ((ownOf c.N scope.names).map (·.2)) t' i' o') else none
      | _, _, _, _ => none
    else none
  | _ => none
def sIt (r : Rec) (c : CC) (e : Expr) : Option It :=
  match e with
  | .Call (.Name x p) [a] [] pos => if x == ("range" : Str) && glFree c x && noStar a then (r.e c a).map .r1
    else if x == ("enumerate" : Str) && glFree c x && noStar a then (r.e c a).map .enum
    else (r.e c (.Call (.Name x p) [a] [] pos)).map .e
  | .Call (.Name x p) [a, b] [] pos => if x == ("range" : Str) && glFree c x && noStar a && noStar b then
      match r.e c a, r.e c b with
      | some a', some b' => some (.r2 a' b')
      | _, _ => none
    else if x == ("zip" : Str) && glFree c x && noStar a && noStar b then
      match r.e c a, r.e c b with
      | some a', some b' => some (.zip a' b')
      | _, _ => none
    else (r.e c (.Call (.Name x p) [a, b] [] pos)).map .e
  | .Call (.Attribute o m apos) [] [] pos => if plainB o && (apos.endLine == pos.line) && m == ("values" : Str) then (r.e c o).map .vals
    else if plainB o && (apos.endLine == pos.line) && m == ("items" : Str) then (r.e c o).map .ditems
    else (r.e c (.Call (.Attribute o m apos) [] [] pos)).map .e
  | e => match r.l c e with
    | some l => some (.l l)
    | none => (r.e c e).map .e
def sT (r : Rec) (c : CC) : Expr → Option T
  | .Name x _ => if c.asn.contains x then (slotOf c.N x 0).map .sl else none
  | .Tuple es _ _ => (r.ts c es).map .tup
  | .Subscript a b _ => if noSlice b then
      match r.e c a, r.e c b with
      | some a', some b' => some (.sub a' b')
      | _, _ => none
    else none
  | _ => none
def sTs (r : Rec) (c : CC) : List Expr → Option Ts
  | [] => some .nil
  | e :: es => if noStar e then
      match r.t c e, r.ts c es with
      | some e', some es' => some (.cons e' es')
      | _, _ => none
    else none
def sO (r : Rec) (c : CC) : Option Expr → Option Oe
  | none => some Oe.none
  | some e => (r.e c e).map Oe.some
def rec0 : Rec := ⟨fun _ _ => none, fun _ _ => none, fun _ _ _ => none, fun _ _ => none, fun _ _ => none, fun _ _ => none, fun _ _ => none, fun _ _ => none⟩
def step (r : Rec) : Rec := ⟨sE r, sEs r, sB r, sL r, sIt r, sT r, sTs r, sO r⟩
def recN : Nat → Rec
  | 0 => rec0
  | n + 1 => step (recN n)

/-! ### statements -/
/-! ### except suites -/
def cST (c : CC) (en : Str) : Nat → Expr → Option ST
  | 0, _ => none
  | k + 1, .UnaryOp .Not a _ => (cST c en k a).map .not_
  | k + 1, .BoolOp .And [a, b] _ => match cST c en k a, cST c en k b with
    | some a', some b' => some (.and_ a' b')
    | _, _ => none
  | k + 1, .BoolOp .And [a, b, d] _ => match cST c en k a, cST c en k b, cST c en k d with
    | some a', some b', some d' => some (.and_ a' (.and_ b' d'))
    | _, _, _ => none
  | k + 1, .BoolOp .Or [a, b] _ => match cST c en k a, cST c en k b with
    | some a', some b' => some (.or_ a' b')
    | _, _ => none
  | k + 1, .BoolOp .Or [a, b, d] _ => match cST c en k a, cST c en k b, cST c en k d with
    | some a', some b', some d' => some (.or_ a' (.or_ b' d'))
    | _, _, _ => none
  | k + 1, .Call (.Name x _) [.Name e' _, .Name y _] [] _ => if x == ("isinstance" : Str) && glFree c x && e' == en && nameOk y && glB c.sc y && !(en == ("" : Str)) then (match c.exn.lookup y with
    | some hit => some (.isi hit)
    | none => (c.exb.lookup y).map .isi)
    else none
  | _, _ => none
def cSE (c : CC) (en : Str) : Nat → Expr → Option SE
  | 0, _ => none
  | k + 1, .Constant .none _ _ => some (.c .non)
  | k + 1, .Constant (.int i) _ _ => some (.c (.int i))
  | k + 1, .Constant (.str s) _ _ => some (.c (.str s.cps.toList))
  | k + 1, .UnaryOp .USub (.Constant (.int i) _ _) _ => some (.c (.int (-i)))
  | k + 1, .Attribute (.Name e' _) f _ => if e' == en && (f == ("place" : Str) || f == ("reason" : Str)) && !(en == ("" : Str)) then some (.fld f.cps.toList) else none
  | k + 1, .Compare (.Attribute (.Name e' _) f _) [.Eq] [.Constant (.str s) _ _] _ => if e' == en && (f == ("place" : Str) || f == ("reason" : Str)) && !(en == ("" : Str)) then some (.eqs f.cps.toList s.cps.toList) else none
  | k + 1, .IfExp t a b _ => match cST c en k t, cSE c en k a, cSE c en k b with
    | some t', some a', some b' => some (.ite t' a' b')
    | _, _, _ => none
  | k + 1, .Tuple [a] _ _ => if noStar a then (cSE c en k a).map .one else none
  | k + 1, .Tuple [a, b] _ _ => if noStar a && noStar b then (match cSE c en k a, cSE c en k b with
    | some a', some b' => some (.pair a' b')
    | _, _ => none) else none
  | _, _ => none
def cSU (c : CC) (en : Str) : Nat → List Stmt → Option SU
  | 0, _ => none
  | k + 1, [.Return none _] => some (.ret (.c .non))
  | k + 1, [.Return (some e) _] => (cSE c en k e).map .ret
  | k + 1, .If t b [] _ :: rest => match cST c en k t, cSU c en k b, cSU c en k rest with
    | some t', some b', some r' => some (.ite t' b' r')
    | _, _, _ => none
  | _, _ => none
structure RecS where
  s : CC → Stmt → Option S
  ss : CC → List Stmt → Option Ss
def isTupD : Expr → Bool
  | .Tuple _ _ _ => true
  | .List _ _ => true
  | _ => false
/-- a comprehension that is given to a local name on one line -/
def swB (c : CC) (t : Expr) (v : Expr) : Bool := match v with
  | .ListComp _ _ scope pos => (match t with
    | .Name x p => c.sc.kind == .function && c.sc.names.lookup x == some .local && p.line == pos.line && !(scope.names.any fun (n, k) => n == x && (k == .local || k == .cell))
    | _ => false)
  | _ => false
/-- a tuple of constants -/
def cstT : Expr → Bool
  | .Tuple vs _ _ => vs.all (foldedForSure 8)
  | _ => false
def okAsg (c : CC) (t v : Expr) : Bool := c.sc.kind == .function && noStar t && (!(isTupD t && isTupD v) || cstT v) && (match v with | .SetComp .. => false | .DictComp .. => false | _ => true)
def cSet (r : Rec) (c : CC) (t v : Expr) : Option S := match t with
  | .Name x _ => if c.asn.contains x && locB c.sc x then match slotOf c.N x 0, sL r c v with
    | some i, some l => some (.asg (.sl i) (.ofL l))
    | _, _ => none
    else none
  | _ => none
/-- tuple([.. for ..]) that is stored in a field -/
def cBt (r : Rec) (c : CC) (v : Expr) : Option E := match v with
  | .Call (.Name x _) [.ListComp elt gs sc lp] [] _ => if glFree c x && x == ("tuple" : Str) then (r.l c (.ListComp elt gs sc lp)).map .btup else r.e c v
  | _ => r.e c v
/-- x, y = a, b of local names -/
def parB (c : CC) (t v : Expr) : Bool := match t, v with
  | .Tuple [.Name x px, .Name y py] _ _, .Tuple [a, b] _ _ => c.sc.kind == .function && locB c.sc x && locB c.sc y && px.line == py.line && !(x == y) && !([a, b].all (foldedForSure 8)) && !([a, b].all (constantsAlone 8)) && noStar a && noStar b
  | .Tuple [.Name x px, .Name y py, .Name z pz] _ _, .Tuple [a, b, d] _ _ => c.sc.kind == .function && locB c.sc x && locB c.sc y && locB c.sc z && px.line == py.line && px.line == pz.line && !(x == y) && !(x == z) && !(y == z) && !([a, b, d].all (foldedForSure 8)) && !([a, b, d].all (constantsAlone 8)) && noStar a && noStar b && noStar d
  | _, _ => false
def cPar (r : Rec) (c : CC) (t v : Expr) : Option S := match t, v with
  | .Tuple [.Name x _, .Name y _] _ _, .Tuple [a, b] _ _ => match slotOf c.N x 0, slotOf c.N y 0, r.es c [a, b] with
    | some i, some j, some es => some (.par2 i j es)
    | _, _, _ => none
  | .Tuple [.Name x _, .Name y _, .Name z _] _ _, .Tuple [a, b, d] _ _ => match slotOf c.N x 0, slotOf c.N y 0, slotOf c.N z 0, r.es c [a, b, d] with
    | some i, some j, some l, some es => some (.par3 i j l es)
    | _, _, _, _ => none
  | _, _ => none
def sS (r : Rec) (q : RecS) (c : CC) : Stmt → Option S
  | .Assign [.Attribute o f _] v _ => if c.fds.contains f then
      match r.e c o, cBt r c v with
      | some o', some v' => some (.sfld (c.cns.map toN) o' (toN f) v')
      | _, _ => none
    else none
  | .Assign [t] v _ => if parB c t v then cPar r c t v else if okAsg c t v then
      if swB c t v then cSet r c t v
      else match r.t c t, r.e c v with
      | some t', some v' => some (.asg t' v')
      | _, _ => none
    else none
  | .AugAssign (.Name x _) op v _ => if c.asn.contains x then
      match slotOf c.N x 0, cOp op, r.e c v with
      | some i, some o, some v' => (match o with | .add => some (.aug i .add v') | .sub => some (.aug i .sub v') | _ => none)
      | _, _, _ => none
    else none
  | .Expr e _ => if noComp e then (r.e c e).map .ex else none
  | .Return none _ => some .retN
  | .Return (some e) _ => (r.e c e).map .ret
  | .If t a b _ => match r.e c t, q.ss c a, q.ss c b with
    | some t', some a', some b' => some (.ite t' a' b')
    | _, _, _ => none
  | .While t a [] _ => match r.e c t, q.ss c a with
    | some t', some a' => some (.whl t' a')
    | _, _ => none
  | .For t it a [] _ => if noSet it then
      match r.t c t, r.it c it, q.ss c a with
      | some t', some i', some a' => if okIt i' t then some (.fr t' i' a') else none
      | _, _, _ => none
    else none
  | .Break _ => some .brk
  | .Continue _ => some .cnt
  | .Pass _ => some .pass
  | .Raise (some (.Call (.Name x p) (e :: es) [] pos)) none pos' => match nameOk x && glB c.sc x && noStar e, c.exs.lookup x with
    | true, some (n, k) => (r.es c (e :: es)).map (.rais n k)
    | _, _ => some .never
  | .Try body [.ExceptHandler (some (.Name y _)) (some n) [.Expr (.Call (.Attribute (.Name t _) m apos) [.Attribute (.Name e' _) f _] [] cpos) _] _] [] [] _ =>
    if nameOk y && glB c.sc y && nameOk n && locB c.sc n && !(n == ("" : Str)) && (m == ("append" : Str)) && (e' == n) && (f == ("place" : Str) || f == ("reason" : Str)) && nameOk t && locB c.sc t && (apos.endLine == cpos.line) then
      match q.ss c body, c.exn.lookup y, slotOf c.N n 0, slotOf c.N t 0 with
      | some b, some hit, some i, some j => some (.tryA b hit i j f.cps.toList)
      | _, _, _, _ => none
    else none
  | .Try body [.ExceptHandler (some (.Name y _)) (some n) (s0 :: su) _] [] [] _ => if nameOk y && glB c.sc y && nameOk n && locB c.sc n && !(n == ("" : Str)) then
      match q.ss c body, c.exn.lookup y, cSU c n 9 (s0 :: su), slotOf c.N n 0 with
      | some b, some hit, some su', some i => some (.tryX b hit i su')
      | _, _, _, _ => none
    else none
  | .Try body [.ExceptHandler (some (.Name y _)) none (s0 :: su) _] [] [] _ => if nameOk y && glB c.sc y then
      match q.ss c body, c.exn.lookup y, cSU c "" 9 (s0 :: su) with
      | some b, some hit, some su' => some (.tryX b hit 0 su')
      | _, _, _ => none
    else none
  | .Raise _ _ _ => some .never
  | _ => none
def sSs (q : RecS) (c : CC) : List Stmt → Option Ss
  | [] => some .nil
  | s :: ss => match q.s c s, q.ss c ss with
    | some s', some ss' => some (.cons s' ss')
    | _, _ => none
/-- the dict that a statement walks -/
def dictOf : Expr → Option (Str × Option Str)
  | .Call (.Attribute (.Name x _) m _) [] [] _ => if m == ("values" : Str) || m == ("items" : Str) then some (x, none) else none
  | .Call (.Attribute (.Attribute (.Name x _) f _) m _) [] [] _ => if m == ("values" : Str) || m == ("items" : Str) then some (x, some f) else none
  | _ => none
def lockOf : Stmt → Option (Str × Option Str)
  | .For _ it _ _ _ => dictOf it
  | .Assign [_] (.ListComp _ [⟨_, it, _, _⟩] _ _) _ => dictOf it
  | _ => none
def sS2 (r : Rec) (q : RecS) (c : CC) (st : Stmt) : S := match lockOf st with
  | some (x, f) => match slotOf c.N x 0, sS r q c st with
    | some i, some s => .lock i (f.map toN) s
    | _, _ => .never
  | none => (sS r q c st).getD .never
def recS (r : Rec) : Nat → RecS
  | 0 => ⟨fun _ _ => none, fun _ _ => none⟩
  | n + 1 => ⟨fun c st => some (sS2 r (recS r n) c st), sSs (recS r n)⟩
end FD

set_option Elab.async false
set_option linter.all false
set_option maxRecDepth 100000
set_option maxHeartbeats 1000000
/-! The D layer: what an own exception's __init__ promises. -/
namespace FD
open PySem PySem.Spec PyProof.Rows L2
/-- no exception leaves -/
def CXn : CXT := fun _ _ _ _ _ _ => False
/-- the arguments, the fields that they become (the last set first) -/
def okW : Xk → List V → List (Str × V) → Prop
  | .place, ws, gs => ∃ i : Int, ws = [.int i] ∧ i.natAbs.log2 < 1920 ∧ gs = [(("place" : Str), V.int i)]
  | .reason, ws, gs => ∃ v, ws = [v] ∧ gs = [(("reason" : Str), v)]
  | .text, ws, gs => ∃ (i : Int) (s : Str), ws = [.int i, .str s] ∧ i.natAbs.log2 < 1920 ∧ (toString i : Str).length + (2 + s.length) ≤ sizeLine ∧ gs = [(("reason" : Str), V.str s), (("place" : Str), V.int i)]
def spIni (K : PySem.W.Frag) (C : Addr) (k : Xk) : Sp := fun vs H Q _ => ∃ (a : Addr) (ws : List V) (gs : List (Str × V)), vs = .ref a :: ws ∧ okW k ws gs ∧ H a = some (exo a C none) ∧
  ∀ (dx : Addr) (H' : Hp), H dx = none → dx ≠ a → H' a = some (exo a C (some dx)) → H' dx = some (exd dx gs) → (∀ b, b ≠ a → b ≠ dx → H' b = H b) → Q .non H'
/-- what is known of the class x -/
structure ExF (P : Program) (w : World) (K : PySem.W.Frag) (mg : Str → Option Value) (base : Heap) (x : Str) (C : Addr) (k : Xk) : Prop where
  T : OexC K C
  g : mg x = some (.ref C)
  f : ∃ (fI : Addr) (fd : FuncData) (ps : List Str), PySem.W.findIn K (.ref C) "__init__" = some (some (.ref fI)) ∧ PySem.W.typeIn K (.ref fI) = some (.type "function") ∧ FnOk P w K mg base CXn 1 fI fd ps (spIni K C k) ∧ Binds K fd ps []
end FD

set_option Elab.async false
set_option linter.all false
set_option maxRecDepth 100000
set_option maxHeartbeats 4000000
/-! The D layer: isinstance of a caught own exception that has its dict. -/
namespace FD
open PySem PySem.Spec PySem.Calls PyProof.Rows L2
section
variable {P : Program} {w : World} {A : Around} {E : Value → Shared → Prop} {s : Shared} {K : PySem.W.Frag} {x D : Addr} {ox : Obj} {od : Option Obj}
theorem find_cls (T : ExcC K D) : PySem.W.findObj K D od "__class__" = some (.bind (.builtin "getset_descriptor.__get__") (.builtin "object.__class__")) := by
  obtain ⟨cd, hc, _⟩ := PySem.W.any_some T.hd
  unfold PySem.W.findObj
  rw [hc, Option.bind_some, T.ha, Option.bind_some]
  simp [T.hn, T.ht]
theorem ask_cls {Q : Option Value → Shared → Prop} (T : ExcC K D) (X : K.In s.heap) (I : PySem.W.InstAt s.heap x ox D od) (h : Q (some (.ref D)) { s with toks := s.toks + 1 }) : wpAny (model P w) A (getAttr? (.ref x) "__class__") Q E s := by
  have LF := fun (M : Model) => PySem.W.looks_find (M := M) X I (find_cls T)
  have LT := fun (M : Model) => I.type (M := M)
  have LG := fun (M : Model) => PySem.W.looks_findIn (M := M) X T.hg
  have LN := fun (M : Model) => PySem.W.looks_findIn (M := M) X T.hk
  have b1 : (Value.builtin "BaseException.__getattribute__" == Value.builtin "object.__getattribute__") = false := by decide +kernel
  have b2 : (onTheHeap (Value.ref D) && Value.builtin "BaseException.__getattribute__" == Value.builtin "object.__getattribute__") = false := by rw [b1]; rfl
  have b3 : (false && onTheHeap (Value.builtin "BaseException.__getattribute__")) = false := rfl
  have sb : PySem.W.Looks (model P w) s.heap (isInstance (.ref x) (.type "BaseException")) true := (LT _).andThen (PySem.W.looks_subIn X T.hs)
  obtain ⟨hp, g, d, t, os⟩ := s
  unfold getAttr? getAttrBy? getAttrBy
  refine wpAny_bind (wpAny_mkText (wpAny_bind (wpAny_attempt (wpAny_holding (wpAny_bind ((LT _).at (wpAny_bind ((LG _).at ?_))))))))
  show wpAny _ _ (if (onTheHeap (Value.ref D) && Value.builtin "BaseException.__getattribute__" == Value.builtin "object.__getattribute__") = true then _ else _) _ _ _
  rw [b2, if_neg Bool.false_ne_true]
  unfold getAttrByItsOwn hookBefore
  refine wpAny_bind ?_
  rw [if_pos (show onTheHeap (Value.ref D) = true from rfl)]
  refine (LN _).at (wpAny_bind (wpAny_attempt (wpAny_holding ?_)))
  unfold callGetattribute
  rw [b3, if_neg Bool.false_ne_true]
  unfold boundAndCalled
  rw [PySem.F.excAttr_ValueError.ga.bind (.ref x)]
  refine wpAny_bind (wpAny_pure ?_)
  show wpAny _ _ (call (.builtin "BaseException.__getattribute__") [.ref x, .str "__class__" t]) _ _ _
  refine wpAny_call (codeAny_call_builtin PySem.F.excAttr_ValueError.ga.plain PySem.F.entry_bexc_ga (@PySem.W.check_slot (model P w) _ _ ⟨hp, g, d, t + 1, os⟩ "BaseException.__getattribute__" "BaseException" "__getattribute__" (.ref x) [.str "__class__" t] [] _ (by decide +kernel) (by decide +kernel) sb (PySem.F.args_bexc_ga (.ref x) (.str "__class__" t)) ?_))
  unfold Builtin.«object.__getattribute__»
  refine wpAny_bind (wpAny_of_eq (a := ((Value.ref x : Value), [Value.str "__class__" t])) (by first | rfl | (simp only [slotArgs]; rfl)) (wpAny_bind (wpAny_pure (wpAny_bind ((LT _).at (wpAny_bind ((LF _).at ?_)))))))
  show wpAny _ _ (holding [Value.builtin "object.__class__"] (call (.builtin "getset_descriptor.__get__") [.builtin "object.__class__", .ref x, .ref D]) >>= ret) _ _ _
  refine wpAny_bind (wpAny_holding (wpAny_call (PySem.W.class_get (s := ⟨hp, g, d, t + 1, os⟩) X I T.hm (wpAny_pure ?_))))
  show wpAny _ _ (handedOut (.ref D)) _ _ _
  rw [PySem.W.handedOut_of (v := .ref D) rfl]
  first
    | exact wpAny_pure (wpAny_pure h)
    | exact wpAny_pure h
    | exact wpAny_pure (wpAny_bind (wpAny_pure (wpAny_pure h)))
theorem kit_own (T : ExcC K D) : PySem.W.KitX K (.ref x) (.ref D) (fun h => ∃ ox od, PySem.W.InstAt h x ox D od) where
  ty := fun _ _ _ ⟨_, _, I⟩ => I.type
  it := fun _ _ X _ => by
    obtain ⟨cd, hc, _⟩ := PySem.W.any_some T.hd
    unfold PySem.W.clsIn at hc
    split at hc
    · rename_i ho
      exact fun A' Q' E' s' k q => by
        unfold isType loadHead
        exact wpAny_bind (wpAny_loadPart (k _ _ (X _ _ ho)) (wpAny_pure q))
    · cases hc
  ne := fun h tp dd its n sl X htp => by
    obtain ⟨cd, hc, _⟩ := PySem.W.any_some T.hd
    cases q : (Value.ref D == Value.ref tp) with
    | false => rfl
    | true =>
      obtain rfl : D = tp := Value.ref.inj (beq_iff_eq.mp q)
      unfold PySem.W.clsIn at hc
      split at hc
      · rename_i ho
        rw [X _ _ ho] at htp
        cases htp
      · cases hc
  ca := fun X ⟨_, _, I⟩ k => ask_cls T X I k
/-- isinstance(e, c) in the suite that holds e -/
theorem call_own {X : Cx} {a D : Addr} {oe : Obj} {dd : Option Addr} {pn : List (Addr × Obj)} (T : ExcC X.K D) (hz : Zc (.ref D) dd oe) (hf : ∃ vs, oe.data = .fields vs) :
    CallR (X.suite a ((a, oe) :: pn)) (.builtin "isinstance") (fun xs H Q => (∀ b, dd = some b → ∃ gs, H b = some (.xd gs)) ∧ rIsE X.K D a xs H Q) := by
  intro pins s σ H xs us Q I r ⟨hb, c, cv, b, e1, hcv, e, q⟩
  subst e1
  cases r with
  | cons rx rr => cases rr with
    | cons rt rr =>
      cases rr
      cases rx
      obtain rfl := hcv _ rt
      obtain ⟨hget, _⟩ := I.pin (a, oe) (List.mem_append.mpr (.inl List.mem_cons_self))
      obtain ⟨vs, hv⟩ := hf
      obtain ⟨oc, odi, oda, osl⟩ := oe
      obtain ⟨h1, h2⟩ := hz
      dsimp only at h1 h2 hv
      subst h1 h2 hv
      have J : ∃ ox od, PySem.W.InstAt s.heap a ox D od := by
        cases odi with
        | none => exact ⟨_, none, hget, rfl, rfl, trivial⟩
        | some b =>
          obtain ⟨gs, hg⟩ := hb b rfl
          have hx : ObjOk X.prog X.w H s.heap b (.xd gs) := I.hok b _ hg
          obtain ⟨mA, hns, _⟩ := hx
          obtain ⟨o, ho, _⟩ := lookIn_ns hns
          exact ⟨_, some o, hget, rfl, rfl, ho⟩
      exact PySem.W.kia_one (kit_own T) I.kIn J e (fun z => nomatch z) fun tk => ⟨.bl b, H, I.kept (t' := tk) fun _ _ z => z, rfl, q⟩
end
end FD

set_option Elab.async false
set_option linter.all false
set_option maxRecDepth 100000
set_option maxHeartbeats 1000000
/-! The D layer, 9: what the evaluator tells is so. Expressions. -/
namespace FD
open PySem PySem.Spec PyProof.Rows L2
/-- a def's promise by a function on D's values -/
def spD (K : PySem.W.Frag) (cls : Nat → Option Addr) (f : List D → DH → Out D) : Sp := fun vs H Q E => ∃ α ds h, RepH K α H h ∧ VRs K α H ds vs ∧ Post K cls (fun cv dd _ H' => E cv dd H') [] α H (f ds h) fun d α' H' _ => ∀ v, VR K α' H' d v → Q v H'
/-- what is known of the classes -/
structure SuF (K : PySem.W.Frag) (mg : Str → Option Value) (cls : Nat → Option Addr) (c : CC) : Prop where
  n : ∀ (y : Str) (hit : List Nat), c.exn.lookup y = some hit → ∃ Y, mg y = some (.ref Y) ∧ ∀ (n : Nat) (Cc : Addr), cls n = some Cc → PySem.W.exmOne K (.ref Cc) (.ref Y) = some (hit.contains n) ∧ PySem.W.kitOne K (.ref Cc) (.ref Y) = some (hit.contains n)
  b : ∀ (y : Str) (hit : List Nat), c.exb.lookup y = some hit → ∃ T : String, mg y = none ∧ bootBuiltins y = some (.type T) ∧ ∀ (n : Nat) (Cc : Addr), cls n = some Cc → PySem.W.kitOne K (.ref Cc) (.type T) = some (hit.contains n)
  c : ∀ (n : Nat) (Cc : Addr), cls n = some Cc → ExcC K Cc ∧ XfC K Cc ∧ PySem.W.findIn K (.ref Cc) "place" = some none ∧ PySem.W.findIn K (.ref Cc) "reason" = some none
  dg : PySem.W.nsIn K cStatics "sys.int_max_str_digits" = some none
/-- what is known of the names of the module -/
structure Facts (P : Program) (w : World) (K : PySem.W.Frag) (mg : Str → Option Value) (base : Heap) (c : CC) (C : Cn) (cls : Nat → Option Addr) (k : Nat) : Prop where
  fn : ∀ x f, c.fns.lookup x = some f → ∃ a fd ps, mg x = some (.ref a) ∧ PySem.W.keepIn K (.ref a) = true ∧ Binds K fd ps [] ∧ FnOk P w K mg base (L2.CX P w) k a fd ps (spD K cls (C.fn f))
  gl : ∀ x d, c.gls.lookup x = some d → ∃ u v, mg x = some u ∧ RelV v u ∧ ∀ α H, VR K α H d v
  fr : ∀ x, c.free.contains x = true → mg x = none
  ex : ∀ (x : Str) (n : Nat) (kk : Xk), c.exs.lookup x = some (n, kk) → ∃ Cc, cls n = some Cc ∧ ExF P w K mg base x Cc kk
  su : SuF K mg cls c
  ac : ∀ x, c.acs.contains x = true → mg x = some (.type "itertools.accumulate")
  nw : ∀ (x : Str) (f : Nat), c.mks.lookup x = some f → mg x = some (.ref (He.ga K x)) ∧ (C.lvl = 0 ∨ ∃ (j : Nat) (g : Addr) (fd : FuncData) (ps : List Str), k = j + 1 ∧ Mk K (He.ga K x) g ∧ Binds K fd ps [] ∧ FnOk P w K mg base (L2.CX P w) j g fd ps (spD K cls (C.fm f)))
  mt : ∀ (m : Str) (ds : List (Str × Nat)) (cn : Str) (f : Nat), c.mths.lookup m = some ds → ds.lookup cn = some f → ∃ (g : Addr) (fd : FuncData) (ps : List Str), Cls K (He.ga K cn) ∧ Meth K (He.ga K cn) m g ∧ Binds K fd ps [] ∧ FnOk P w K mg base (L2.CX P w) k g fd ps (spD K cls (C.fn f))
  cl : ∀ cn, c.cns.contains cn = true → Cls K (He.ga K cn) ∧ ∀ f, c.fds.contains f = true → NoAttr K (He.ga K cn) f
structure Ok (X : Cx) (c : CC) (C : Cn) (cls : Nat → Option Addr) (W : WX) (k : Nat) : Prop where
  hN : X.N = c.N
  nd : X.N.Nodup
  sc : X.env.scope = c.sc
  calm : X.calm = true
  po : PassesOwn (model X.prog X.w) X.A X.env X.xe
  tk : Takes X W
  room : Room k X.A
  lv : C.lvl ≤ k
  asn : ∀ x, c.asn.contains x = true → Loc X.env.scope x ∧ (X.fn x = true ∨ X.env.scope.names.lookup x = some .local)
  fa : Facts X.prog X.w X.K X.mg X.base c C cls k
/-- the values of a display of a dict -/
def PpE (X : Cx) (cls : Nat → Option Addr) (W : WX) (es : List Expr) (f : Fr → DH → Out (List D)) : Prop := ∀ (pos : Pos) (keys : List (Option Expr)) (ks : List DK), cKeys keys = some ks → keys.length = es.length →
  ∃ trs, PPs X pos keys es trs ∧ ∀ (σ : L2.St) (H : Hp) (Q : List (V × V) → Hp → Prop), (rdEs X.K cls W f σ H fun vs H' => Q (((ks.map toK).map kV).zip vs) H') → tPairs trs σ H Q
structure Snd (r : Rec) (C : Cn) (cls : Nat → Option Addr) (k : Nat) : Prop where
  e : ∀ c e t, r.e c e = some t → ∀ X W, Ok X c C cls W k → PE X e (rdE X.K cls W (ev C t).v) ∧ PT X e (rdT X.K cls W (ev C t).t)
  es : ∀ c es t, r.es c es = some t → ∀ X W, Ok X c C cls W k → PA X es (rdEs X.K cls W (evs C t)) ∧ (∀ e ∈ es, noStar e = true) ∧ (es = [] → t = .nil) ∧ PpE X cls W es (evs C t)
  b : ∀ c k' vs t, r.b c k' vs = some t → ∀ X W pos, Ok X c C cls W k → PE X (.BoolOp (if k' = true then .And else .Or) vs pos) (rdE X.K cls W (ev C t).v) ∧ PW X (.BoolOp (if k' = true then .And else .Or) vs pos) (rdT X.K cls W (ev C t).t)
  l : ∀ c e t, r.l c e = some t → ∀ X W, Ok X c C cls W k → PE X e (rdL X.K cls W (evL C t))
  it : ∀ c e t, r.it c e = some t → ∀ X W tg, okIt t tg = true → Ok X c C cls W k → PI X tg e (rdI X.K cls W (evI C t))
  t : ∀ c e t, r.t c e = some t → ∀ X W, Ok X c C cls W k → PG X e (rdG X.K cls W t.slots (asT C t))
  ts : ∀ c es t, r.ts c es = some t → ∀ X W, Ok X c C cls W k → PGs X es (rdGs X.K cls W t.slots (asTs C t)) ∧ (∀ e ∈ es, noStar e = true) ∧ t.len = es.length
  o : ∀ c o t, r.o c o = some t → ∀ X W, Ok X c C cls W k → PO X o (rdO X.K cls W (evO C t)) ∧ match o, t with
    | none, .none => True
    | some e, .some e' => PT X e (rdT X.K cls W (ev C e').t)
    | _, _ => False

/-! ### syntax -/
theorem star_cons {e : Expr} {es : List Expr} {env : Env} (h : noStar e = true) : starEach (e :: es) env = (false, eval e env) :: starEach es env := by
  cases e <;> first | rfl | (cases h)
theorem star_plain {env : Env} {pos : Pos} : ∀ {es : List Expr}, (∀ e ∈ es, noStar e = true) → (backTo pos (starEach es env)).any (·.1) = false
  | [], _ => rfl
  | e :: es, h => by
    rw [star_cons (h e List.mem_cons_self)]
    show (false || (backTo pos (starEach es env)).any (·.1)) = false
    rw [star_plain fun x hx => h x (List.mem_cons_of_mem _ hx)]
    rfl
theorem slot_get : ∀ {N : List Str} {x : Str} {i j : Nat}, slotOf N x i = some j → i ≤ j ∧ N[j - i]? = some x
  | [], x, i, j, h => by cases h
  | y :: r, x, i, j, h => by
    unfold slotOf at h
    split at h
    · rename_i e
      cases h
      exact ⟨Nat.le_refl _, by simp [beq_iff_eq.mp e]⟩
    · obtain ⟨h1, h2⟩ := slot_get h
      refine ⟨by omega, ?_⟩
      have e : j - i = (j - (i + 1)) + 1 := by omega
      rw [e]; simpa using h2
theorem slot_get0 {N : List Str} {x : Str} {j : Nat} (h : slotOf N x 0 = some j) : N[j]? = some x := by simpa using (slot_get h).2
theorem vis_of {sc : Scope} {x : Str} (h : visB sc x = true) : Vis sc x := by
  unfold visB at h
  split at h
  · rename_i e; exact .inl e
  · rename_i e; exact .inr (.inl e)
  · rename_i e; exact .inr (.inr e)
  · cases h
theorem gl_of {X : Cx} {x : Str} (h : glB X.env.scope x = true) : Gl X x := by
  unfold glB at h
  split at h
  · rename_i e; exact e
  · cases h
theorem base_plain {o : Expr} {m : Str} {env : Env} {w : Sem Value} (h : plainB o = true) : attributeBase o m env w = w := by
  unfold attributeBase
  split
  · cases h
  · rfl
theorem ix_plain {b : Expr} (h : noSlice b = true) : PlainIx b := by
  intro o i
  cases b <;> first | rfl | (cases h)
theorem in_plain {op : CmpOp} {b : Expr} (h : noSet b = true) : behindInMarks op b = false := by
  cases b <;> first | rfl | (cases h)
theorem fold_plain {e : Expr} {env : Env} (h : noSet e = true) : ∀ x, foldedSetIterable e env x = pure x := by
  intro x
  cases e <;> first | rfl | (cases h)
theorem name_ok {x : Str} (h : nameOk x = true) : (x == ("__debug__" : Str)) = false ∧ (x == ("__classdict__" : Str)) = false ∧ x ≠ "__name__" := by
  unfold nameOk at h
  simp only [Bool.and_eq_true, Bool.not_eq_true'] at h
  exact ⟨h.1.1, h.1.2, beq_eq_false_iff_ne.mp h.2⟩

section
variable {X : Cx} {c : CC} {C : Cn} {cls : Nat → Option Addr} {W : WX} {k : Nat} {r : Rec}
/-- the test of a value by its truth -/
theorem pt_of {e : Expr} {v : Fr → DH → Out D} (h : PE X e (rdE X.K cls W v)) (he : ∀ whole, isTrue e X.env whole = (do let v ← whole; standAt e.pos; holding [v] (truthy v))) : PT X e (rdT X.K cls W (tst v).t) := by
  refine pt_imp (pt_truth h he) fun σ H Q ⟨α, δ, hh, rp, rf, p⟩ => ⟨α, δ, hh, rp, rf, (Post.of_bind p).mono fun d α' H' h' e1 rp1 p1 x hx => ?_⟩
  obtain ⟨b, hb, q⟩ := Post.opt p1 rp1
  exact ⟨b, tru_vr rp1 hx hb, q⟩
theorem both {e : Expr} {v : Fr → DH → Out D} (h : PE X e (rdE X.K cls W v)) (he : ∀ whole, isTrue e X.env whole = (do let v ← whole; standAt e.pos; holding [v] (truthy v))) : PE X e (rdE X.K cls W (tst v).v) ∧ PT X e (rdT X.K cls W (tst v).t) := ⟨h, pt_of h he⟩

theorem snd_K {q : Const} {j : Nat} {pos : Pos} {t : E} (h : cK q = some t) : PE X (.Constant q j pos) (rdE X.K cls W (ev C t).v) ∧ PT X (.Constant q j pos) (rdT X.K cls W (ev C t).t) := by
  have key : ∀ (d : D) (v : V), t = .c d → PE X (.Constant q j pos) (tC v) → (∀ α H, VR X.K α H d v) → PE X (.Constant q j pos) (rdE X.K cls W (ev C t).v) ∧ PT X (.Constant q j pos) (rdT X.K cls W (ev C t).t) := by
    intro d v et hp hv
    subst et
    exact both (pe_imp hp fun σ H Q ⟨α, δ, hh, rp, rf, p⟩ => p α H Ext.refl rp v (hv _ _)) fun _ => rfl
  cases q <;> simp only [cK] at h <;> try contradiction
  · cases h; exact key .non .non rfl pe_non fun _ _ => rfl
  · cases h; exact key _ (.bl _) rfl pe_bl fun _ _ => rfl
  · cases h; exact key _ (.int _) rfl pe_int fun _ _ => rfl
  · cases h
    refine key _ (.str _) rfl pe_str fun _ _ => ?_
    show V.str _ = V.str _
    rw [toS_cps]
theorem snd_N {x : Str} {pos : Pos} {t : E} (ok : Ok X c C cls W k) (h : cN c x = some t) : PE X (.Name x pos) (rdE X.K cls W (ev C t).v) ∧ PT X (.Name x pos) (rdT X.K cls W (ev C t).t) := by
  unfold cN at h
  split at h
  · rename_i hn
    obtain ⟨n1, n2, n3⟩ := name_ok hn
    split at h
    · rename_i hv
      obtain ⟨i, hi, rfl⟩ := Option.map_eq_some_iff.mp h
      have hN : X.N[i]? = some x := by rw [ok.hN]; exact slot_get0 hi
      refine both (pe_imp (pe_var (i := i) hN (by rw [ok.sc]; exact vis_of hv) n1 n2) fun σ H Q ⟨α, δ, hh, rp, rf, p⟩ => ?_) fun _ => rfl
      dsimp only at p
      cases hd : δ[i]? with
      | none => rw [hd] at p; exact p.elim
      | some o =>
        cases o with
        | none => rw [hd] at p; exact p.elim
        | some d =>
          rw [hd] at p
          obtain ⟨v, h1, h2⟩ := rf.sl i d hd
          exact ⟨v, h1, p α H Ext.refl rp v h2⟩
    · split at h
      · rename_i hg
        obtain ⟨d, hd, rfl⟩ := Option.map_eq_some_iff.mp h
        obtain ⟨u, v, h1, h2, h3⟩ := ok.fa.gl x d hd
        exact both (pe_imp (pe_glob (gl_of (by rw [ok.sc]; exact hg)) h1 h2 n1) fun σ H Q ⟨α, δ, hh, rp, rf, p⟩ => p α H Ext.refl rp v (h3 _ _)) fun _ => rfl
      · cases h
  · cases h

/-! ### one value, two values -/
theorem rdE_mono {f : Fr → DH → Out D} {K : PySem.W.Frag} {σ : L2.St} {H : Hp} {Q Q' : VK} (h : rdE K cls W f σ H Q) (i : ∀ v H', Q v H' → Q' v H') : rdE K cls W f σ H Q' := by
  obtain ⟨α, δ, hh, rp, rf, p⟩ := h
  exact ⟨α, δ, hh, rp, rf, p.mono fun d α' H' h' _ _ q v hv => i _ _ (q v hv)⟩
theorem rd1 {K : PySem.W.Frag} {β : Type} {va : Fr → DH → Out D} {g : D → DH → Out β} {σ : L2.St} {α : List Addr} {H : Hp} {δ : Fr} {h : DH} {Z : β → List Addr → Hp → DH → Prop} (rp : RepH K α H h) (rf : RepF K α H σ δ)
    (p : Post K cls W σ α H ((va δ h).bind g) Z) :
    rdE K cls W va σ H fun x H1 => ∃ α1 h1 d, RepH K α1 H1 h1 ∧ RepF K α1 H1 σ δ ∧ VR K α1 H1 d x ∧ Ext α H α1 H1 ∧ Post K cls W σ α1 H1 (g d h1) Z :=
  ⟨α, δ, h, rp, rf, (Post.of_bind p).mono fun d α1 H1 h1 e1 rp1 p1 v hv => ⟨α1, h1, d, rp1, rf.ext e1, hv, e1, p1⟩⟩
theorem rd2 {K : PySem.W.Frag} {β : Type} {va vb : Fr → DH → Out D} {g : D → D → DH → Out β} {σ : L2.St} {α : List Addr} {H : Hp} {δ : Fr} {h : DH} {Z : β → List Addr → Hp → DH → Prop} (rp : RepH K α H h) (rf : RepF K α H σ δ)
    (p : Post K cls W σ α H ((va δ h).bind fun x h => (vb δ h).bind fun y h => g x y h) Z) :
    rdE K cls W va σ H fun x H1 => rdE K cls W vb σ H1 fun y H2 => ∃ α2 h2 d e, RepH K α2 H2 h2 ∧ RepF K α2 H2 σ δ ∧ VR K α2 H2 d x ∧ VR K α2 H2 e y ∧ Ext α H α2 H2 ∧ Post K cls W σ α2 H2 (g d e h2) Z :=
  rdE_mono (rd1 rp rf p) fun x H1 ⟨α1, h1, d, rp1, rf1, hx, e1, p1⟩ => rdE_mono (rd1 rp1 rf1 p1) fun y H2 ⟨α2, h2, e, rp2, rf2, hy, e2, p2⟩ => ⟨α2, h2, d, e, rp2, rf2, hx.ext e2, hy, e1.trans e2, p2⟩
theorem no_binD {h : DH} {o : BOp} {x y : D} {n : Nat} {fs : List (List Nat × D)} {h' : DH} : binD h o x y ≠ .exc n fs h' := by
  cases o <;> cases x <;> cases y <;> simp only [binD] <;> (try exact fun z => by cases z) <;> split <;> (try exact fun z => by cases z) <;> split <;> exact fun z => by cases z
theorem no_sliD {h : DH} {x : D} {lo hi : Option Int} {n : Nat} {fs : List (List Nat × D)} {h' : DH} : sliD h x lo hi ≠ .exc n fs h' := by
  unfold sliD
  split
  · split <;> exact fun z => by cases z
  · split <;> exact fun z => by cases z
  · exact fun z => by cases z
  · exact fun z => by cases z
theorem no_mtD {h : DH} {m : Mt} {x : D} {es : List D} {n : Nat} {fs : List (List Nat × D)} {h' : DH} : mtD h m x es ≠ .exc n fs h' := by
  cases m <;> simp only [mtD]
  · unfold appD
    split
    · split
      · split <;> exact fun z => by cases z
      · exact fun z => by cases z
    · exact fun z => by cases z
  · unfold fnd2D
    split <;> exact fun z => by cases z
  · unfold fnd3D
    split
    · split <;> exact fun z => by cases z
    · exact fun z => by cases z
  · unfold joiD
    split
    · split
      · rename_i xs _
        cases mlD .join (.str _) xs <;> exact fun z => by cases z
      · exact fun z => by cases z
    · exact fun z => by cases z
  · unfold splD
    split
    · split <;> exact fun z => by cases z
    · exact fun z => by cases z
  · unfold splND
    split
    · split <;> exact fun z => by cases z
    · exact fun z => by cases z
  · unfold parD
    split
    · split <;> exact fun z => by cases z
    · exact fun z => by cases z
  · unfold rparD
    split
    · split <;> exact fun z => by cases z
    · exact fun z => by cases z
/-- an outcome that is no exception -/
theorem Post.ok_of {β : Type} {K : PySem.W.Frag} {σ : L2.St} {α : List Addr} {H : Hp} {o : Out β} {Z : β → List Addr → Hp → DH → Prop} (p : Post K cls W σ α H o Z) (n : ∀ c fs h', o ≠ .exc c fs h') : ∃ b h', o = .ok b h' ∧ ∀ α' H', Ext α H α' H' → RepH K α' H' h' → Z b α' H' h' := by
  cases o with
  | ok b h' => exact ⟨b, h', rfl, p⟩
  | exc c fs h' => exact absurd rfl (n c fs h')
  | bad => exact p.elim

theorem toOp_of {op : Operator} {o : BOp} (h : cOp op = some o) : op = toOp o := by
  cases op <;> simp only [cOp] at h <;> first | (cases h; rfl) | cases h
theorem toCo_of {op : CmpOp} {o : COp} (h : cCo op = some o) : op = toCmp o := by
  cases op <;> simp only [cCo] at h <;> first | (cases h; rfl) | cases h
theorem snd_bin {a b : Expr} {a' b' : E} {op : Operator} {o : BOp} {pos : Pos} (ho : cOp op = some o) (ha : PE X a (rdE X.K cls W (ev C a').v)) (hb : PE X b (rdE X.K cls W (ev C b').v)) :
    PE X (.BinOp a op b pos) (rdE X.K cls W (ev C (.bin o a' b')).v) := by
  rw [toOp_of ho]
  refine pe_imp (pe_op (bin_ok o) ha hb) fun σ H Q ⟨α, δ, h, rp, rf, p⟩ => ?_
  refine rdE_mono (rd2 rp rf p) fun x H1 q => rdE_mono q fun y H2 ⟨α2, h2, d, e, rp2, rf2, hd, he, e2, p2⟩ => ?_
  obtain ⟨r, h', hr, q⟩ := Post.ok_of p2 fun _ _ _ => no_binD
  exact ⟨α2, h2, d, e, r, h', rp2, hd, he, hr, q⟩
theorem snd_neg {a : Expr} {a' : E} {pos : Pos} (ha : PE X a (rdE X.K cls W (ev C a').v)) : PE X (.UnaryOp .USub a pos) (rdE X.K cls W (ev C (.neg a')).v) := by
  refine pe_imp (pe_un un_neg ha) fun σ H Q ⟨α, δ, h, rp, rf, p⟩ => ?_
  refine rdE_mono (rd1 rp rf p) fun x H1 ⟨α1, h1, d, rp1, rf1, hx, e1, p1⟩ => ?_
  cases d <;> try exact p1.elim
  rename_i i
  rw [vr_int hx]
  exact ⟨i, rfl, p1 _ _ Ext.refl rp1 _ rfl⟩
theorem snd_cmp (ok : Ok X c C cls W k) {a b : Expr} {a' b' : E} {op : CmpOp} {o : COp} {pos : Pos} (ho : cCo op = some o) (hs : noSet b = true) (ha : PE X a (rdE X.K cls W (ev C a').v)) (hb : PE X b (rdE X.K cls W (ev C b').v)) :
    PE X (.Compare a [op] [b] pos) (rdE X.K cls W (ev C (.cmp o a' b')).v) ∧ PT X (.Compare a [op] [b] pos) (rdT X.K cls W (ev C (.cmp o a' b')).t) := by
  rw [toCo_of ho]
  have key : ∀ {σ : L2.St} {H : Hp} {Z : D → List Addr → Hp → DH → Prop} {α : List Addr} {δ : Fr} {h : DH}, RepH X.K α H h → RepF X.K α H σ δ → Post X.K cls W σ α H ((ev C (.cmp o a' b')).v δ h) Z →
      tOp (rB2 X.K fun h => cmpD h o) (rdE X.K cls W (ev C a').v) (rdE X.K cls W (ev C b').v) σ H fun v H' => ∃ bb α' h', v = .bl bb ∧ Z (.bl bb) α' H' h' ∧ RepH X.K α' H' h' ∧ VR X.K α' H' (.bl bb) v := fun rp rf p =>
    rdE_mono (rd2 rp rf p) fun x H1 q => rdE_mono q fun y H2 ⟨α2, h2, d, e, rp2, rf2, hd, he, e2, p2⟩ => by
      obtain ⟨r, hr, q⟩ := Post.opt p2 rp2
      obtain ⟨bb, hb, rfl⟩ := Option.map_eq_some_iff.mp hr
      exact ⟨α2, h2, d, e, bb, rp2, hd, he, hb, bb, α2, h2, rfl, q, rp2, rfl⟩
  refine ⟨pe_imp (pe_cmpR (cmp_ok ok.room.units o) ha hb (in_plain hs)) fun σ H Q ⟨α, δ, h, rp, rf, p⟩ => ?_, pt_imp (pt_cmpR (cmp_ok ok.room.units o) ha hb (in_plain hs)) fun σ H Q ⟨α, δ, h, rp, rf, p⟩ => ?_⟩
  · refine rdE_mono (key rp rf p) fun x H1 q => rdE_mono q fun y H2 ⟨α2, h2, d, e, b, z1, z2, z3, z4, bb, α', h', z5, q, rp', hv⟩ => ⟨α2, h2, d, e, b, z1, z2, z3, z4, ?_⟩
    rw [z5]
    exact q _ (by rw [← z5]; exact hv)
  · have p' := Post.of_bind p
    refine rdE_mono (key rp rf p') fun x H1 q => rdE_mono q fun y H2 ⟨α2, h2, d, e, b, z1, z2, z3, z4, bb, α', h', z5, q, rp', hv⟩ => ⟨α2, h2, d, e, b, z1, z2, z3, z4, ?_⟩
    obtain ⟨b2, hb2, q⟩ := Post.opt q rp'
    cases hb2
    exact ⟨_, z5, q⟩
theorem si_PE {b : Expr} {s : Si} (h : cSi b = some s) : PE X b (tC (siV s)) := by
  unfold cSi at h
  split at h <;> first | (cases h; exact pe_non) | (cases h; exact pe_bl) | cases h
theorem si_set {b : Expr} {s : Si} (h : cSi b = some s) : noSet b = true := by
  unfold cSi at h
  split at h <;> first | rfl | cases h
theorem snd_is {a b : Expr} {a' : E} {s : Si} {pos : Pos} (hs : cSi b = some s) (ha : PE X a (rdE X.K cls W (ev C a').v)) :
    PE X (.Compare a [.Is] [b] pos) (rdE X.K cls W (ev C (.is_ true a' s)).v) ∧ PT X (.Compare a [.Is] [b] pos) (rdT X.K cls W (ev C (.is_ true a' s)).t) := by
  refine ⟨pe_imp (pe_cmpR (is_ok s) ha (si_PE hs) (in_plain (si_set hs))) fun σ H Q ⟨α, δ, h, rp, rf, p⟩ => ?_, pt_imp (pt_cmpR (is_ok s) ha (si_PE hs) (in_plain (si_set hs))) fun σ H Q ⟨α, δ, h, rp, rf, p⟩ => ?_⟩
  · refine rdE_mono (rd1 rp rf p) fun x H1 ⟨α1, h1, d, rp1, rf1, hx, e1, p1⟩ => ⟨rfl, ?_⟩
    rw [isD_vr hx]
    exact p1 _ _ Ext.refl rp1 _ (by show _ = V.bl _; cases isD d s <;> rfl)
  · have p' := Post.of_bind p
    refine rdE_mono (rd1 rp rf p') fun x H1 ⟨α1, h1, d, rp1, rf1, hx, e1, p1⟩ => ⟨rfl, ?_⟩
    rw [isD_vr hx]
    obtain ⟨b2, hb2, q⟩ := Post.opt (p1 _ _ Ext.refl rp1) rp1
    cases hb2
    exact ⟨_, rfl, by revert q; cases isD d s <;> exact id⟩
theorem snd_isn {a b : Expr} {a' : E} {s : Si} {pos : Pos} (hs : cSi b = some s) (ha : PE X a (rdE X.K cls W (ev C a').v)) :
    PE X (.Compare a [.IsNot] [b] pos) (rdE X.K cls W (ev C (.is_ false a' s)).v) ∧ PT X (.Compare a [.IsNot] [b] pos) (rdT X.K cls W (ev C (.is_ false a' s)).t) := by
  refine ⟨pe_imp (pe_cmpR (isnot_ok s) ha (si_PE hs) (in_plain (si_set hs))) fun σ H Q ⟨α, δ, h, rp, rf, p⟩ => ?_, pt_imp (pt_cmpR (isnot_ok s) ha (si_PE hs) (in_plain (si_set hs))) fun σ H Q ⟨α, δ, h, rp, rf, p⟩ => ?_⟩
  · refine rdE_mono (rd1 rp rf p) fun x H1 ⟨α1, h1, d, rp1, rf1, hx, e1, p1⟩ => ⟨rfl, ?_⟩
    rw [isD_vr hx]
    exact p1 _ _ Ext.refl rp1 _ (by show _ = V.bl _; cases isD d s <;> rfl)
  · have p' := Post.of_bind p
    refine rdE_mono (rd1 rp rf p') fun x H1 ⟨α1, h1, d, rp1, rf1, hx, e1, p1⟩ => ⟨rfl, ?_⟩
    rw [isD_vr hx]
    obtain ⟨b2, hb2, q⟩ := Post.opt (p1 _ _ Ext.refl rp1) rp1
    cases hb2
    exact ⟨_, rfl, by revert q; cases isD d s <;> exact id⟩
end
end FD

set_option Elab.async false
set_option linter.all false
set_option maxRecDepth 100000
set_option maxHeartbeats 1000000
/-! The D layer, 10: soundness of expressions, continued. -/
namespace FD
open PySem PySem.Spec PyProof.Rows L2
section
variable {X : Cx} {c : CC} {C : Cn} {cls : Nat → Option Addr} {W : WX} {k : Nat} {r : Rec}
theorem rdT_mono {f : Fr → DH → Out Bool} {K : PySem.W.Frag} {σ : L2.St} {H : Hp} {Q Q' : Bool → Hp → Prop} (h : rdT K cls W f σ H Q) (i : ∀ v H', Q v H' → Q' v H') : rdT K cls W f σ H Q' := by
  obtain ⟨α, δ, hh, rp, rf, p⟩ := h
  exact ⟨α, δ, hh, rp, rf, p.mono fun d α' H' h' _ _ q => i _ _ q⟩
theorem rdEs_mono {f : Fr → DH → Out (List D)} {K : PySem.W.Frag} {σ : L2.St} {H : Hp} {Q Q' : List V → Hp → Prop} (h : rdEs K cls W f σ H Q) (i : ∀ v H', Q v H' → Q' v H') : rdEs K cls W f σ H Q' := by
  obtain ⟨α, δ, hh, rp, rf, p⟩ := h
  exact ⟨α, δ, hh, rp, rf, p.mono fun d α' H' h' _ _ q vs hv => i _ _ (q vs hv)⟩
theorem rdL_mono {f : Fr → DH → Out (List D)} {K : PySem.W.Frag} {σ : L2.St} {H : Hp} {Q Q' : VK} (h : rdL K cls W f σ H Q) (i : ∀ v H', Q v H' → Q' v H') : rdL K cls W f σ H Q' := by
  obtain ⟨α, δ, hh, rp, rf, p⟩ := h
  exact ⟨α, δ, hh, rp, rf, p.mono fun d α' H' h' _ _ q p vs h1 h2 h3 h4 => i _ _ (q p vs h1 h2 h3 h4)⟩
theorem rt1 {K : PySem.W.Frag} {β : Type} {va : Fr → DH → Out Bool} {g : Bool → DH → Out β} {σ : L2.St} {α : List Addr} {H : Hp} {δ : Fr} {h : DH} {Z : β → List Addr → Hp → DH → Prop} (rp : RepH K α H h) (rf : RepF K α H σ δ)
    (p : Post K cls W σ α H ((va δ h).bind g) Z) :
    rdT K cls W va σ H fun b H1 => ∃ α1 h1, RepH K α1 H1 h1 ∧ RepF K α1 H1 σ δ ∧ Ext α H α1 H1 ∧ Post K cls W σ α1 H1 (g b h1) Z :=
  ⟨α, δ, h, rp, rf, (Post.of_bind p).mono fun d α1 H1 h1 e1 rp1 p1 => ⟨α1, h1, rp1, rf.ext e1, e1, p1⟩⟩
theorem rs1 {K : PySem.W.Frag} {β : Type} {va : Fr → DH → Out (List D)} {g : List D → DH → Out β} {σ : L2.St} {α : List Addr} {H : Hp} {δ : Fr} {h : DH} {Z : β → List Addr → Hp → DH → Prop} (rp : RepH K α H h) (rf : RepF K α H σ δ)
    (p : Post K cls W σ α H ((va δ h).bind g) Z) :
    rdEs K cls W va σ H fun xs H1 => ∃ α1 h1 ds, RepH K α1 H1 h1 ∧ RepF K α1 H1 σ δ ∧ VRs K α1 H1 ds xs ∧ Ext α H α1 H1 ∧ Post K cls W σ α1 H1 (g ds h1) Z :=
  ⟨α, δ, h, rp, rf, (Post.of_bind p).mono fun d α1 H1 h1 e1 rp1 p1 vs hv => ⟨α1, h1, d, rp1, rf.ext e1, hv, e1, p1⟩⟩
theorem rl1 {K : PySem.W.Frag} {β : Type} {va : Fr → DH → Out (List D)} {g : List D → DH → Out β} {σ : L2.St} {α : List Addr} {H : Hp} {δ : Fr} {h : DH} {Z : β → List Addr → Hp → DH → Prop} (rp : RepH K α H h) (rf : RepF K α H σ δ)
    (p : Post K cls W σ α H ((va δ h).bind g) Z) :
    rdL K cls W va σ H fun v H1 => ∃ α1 h1 ds a vs, v = .ref a ∧ H a = none ∧ a ∉ α1 ∧ H1 a = some (.lst vs) ∧ RepH K α1 H1 h1 ∧ RepF K α1 H1 σ δ ∧ VRs K α1 H1 ds vs ∧ Ext α H α1 H1 ∧ Post K cls W σ α1 H1 (g ds h1) Z :=
  ⟨α, δ, h, rp, rf, (Post.of_bind p).mono fun d α1 H1 h1 e1 rp1 p1 a vs g1 g2 g3 g4 => ⟨α1, h1, d, a, vs, rfl, g1, g2, g3, rp1, rf.ext e1, g4, e1, p1⟩⟩

/-! ### and, or, not, if else -/
theorem snd_andV {a b : Expr} {rest : List Expr} {a' b' : E} {pos : Pos} (ha : PE X a (rdE X.K cls W (ev C a').v)) (hb : PE X (.BoolOp .And (b :: rest) pos) (rdE X.K cls W (ev C b').v)) :
    PE X (.BoolOp .And (a :: b :: rest) pos) (rdE X.K cls W (ev C (.and_ a' b')).v) := by
  refine pe_imp (pe_andT ha hb) fun σ H Q ⟨α, δ, h, rp, rf, p⟩ => ?_
  refine rdE_mono (rd1 rp rf p) fun x H1 ⟨α1, h1, d, rp1, rf1, hx, e1, p1⟩ => ?_
  cases ht : truD h1 d with
  | none => rw [ht] at p1; exact p1.elim
  | some t =>
    rw [ht] at p1
    refine ⟨t, tru_vr rp1 hx ht, ?_⟩
    cases t with
    | true => rw [if_pos rfl]; exact ⟨α1, δ, h1, rp1, rf1, p1⟩
    | false => rw [if_neg Bool.false_ne_true]; exact p1 _ _ Ext.refl rp1 _ hx
theorem snd_orV {a b : Expr} {rest : List Expr} {a' b' : E} {pos : Pos} (ha : PE X a (rdE X.K cls W (ev C a').v)) (hb : PE X (.BoolOp .Or (b :: rest) pos) (rdE X.K cls W (ev C b').v)) :
    PE X (.BoolOp .Or (a :: b :: rest) pos) (rdE X.K cls W (ev C (.or_ a' b')).v) := by
  refine pe_imp (pe_orT ha hb) fun σ H Q ⟨α, δ, h, rp, rf, p⟩ => ?_
  refine rdE_mono (rd1 rp rf p) fun x H1 ⟨α1, h1, d, rp1, rf1, hx, e1, p1⟩ => ?_
  cases ht : truD h1 d with
  | none => rw [ht] at p1; exact p1.elim
  | some t =>
    rw [ht] at p1
    refine ⟨t, tru_vr rp1 hx ht, ?_⟩
    cases t with
    | false => rw [if_neg Bool.false_ne_true]; exact ⟨α1, δ, h1, rp1, rf1, p1⟩
    | true => rw [if_pos rfl]; exact p1 _ _ Ext.refl rp1 _ hx
theorem snd_andT {a b : Expr} {rest : List Expr} {a' b' : E} {pos : Pos} (ha : PT X a (rdT X.K cls W (ev C a').t)) (hb : PW X (.BoolOp .And (b :: rest) pos) (rdT X.K cls W (ev C b').t)) :
    PW X (.BoolOp .And (a :: b :: rest) pos) (rdT X.K cls W (ev C (.and_ a' b')).t) := by
  refine pw_imp (pw_and ha hb) fun σ H Q ⟨α, δ, h, rp, rf, p⟩ => ?_
  refine rdT_mono (rt1 rp rf p) fun x H1 ⟨α1, h1, rp1, rf1, e1, p1⟩ => ?_
  cases x with
  | true => rw [if_pos rfl] at p1 ⊢; exact ⟨α1, δ, h1, rp1, rf1, p1⟩
  | false => rw [if_neg Bool.false_ne_true] at p1 ⊢; exact p1 _ _ Ext.refl rp1
theorem snd_orT {a b : Expr} {rest : List Expr} {a' b' : E} {pos : Pos} (ha : PT X a (rdT X.K cls W (ev C a').t)) (hb : PW X (.BoolOp .Or (b :: rest) pos) (rdT X.K cls W (ev C b').t)) :
    PW X (.BoolOp .Or (a :: b :: rest) pos) (rdT X.K cls W (ev C (.or_ a' b')).t) := by
  refine pw_imp (pw_or ha hb) fun σ H Q ⟨α, δ, h, rp, rf, p⟩ => ?_
  refine rdT_mono (rt1 rp rf p) fun x H1 ⟨α1, h1, rp1, rf1, e1, p1⟩ => ?_
  cases x with
  | false => rw [if_neg Bool.false_ne_true] at p1 ⊢; exact ⟨α1, δ, h1, rp1, rf1, p1⟩
  | true => rw [if_pos rfl] at p1 ⊢; exact p1 _ _ Ext.refl rp1
theorem snd_notV {a : Expr} {a' : E} {pos : Pos} (ha : PE X a (rdE X.K cls W (ev C a').v)) : PE X (.UnaryOp .Not a pos) (rdE X.K cls W (ev C (.not_ a')).v) := by
  refine pe_imp (pe_notT ha) fun σ H Q ⟨α, δ, h, rp, rf, p⟩ => ?_
  refine rdE_mono (rd1 rp rf p) fun x H1 ⟨α1, h1, d, rp1, rf1, hx, e1, p1⟩ => ?_
  obtain ⟨r, hr, q⟩ := Post.opt p1 rp1
  obtain ⟨b, hb, rfl⟩ := Option.map_eq_some_iff.mp hr
  exact ⟨b, tru_vr rp1 hx hb, q _ rfl⟩
theorem snd_notT {a : Expr} {a' : E} {pos : Pos} (ha : PT X a (rdT X.K cls W (ev C a').t)) : PT X (.UnaryOp .Not a pos) (rdT X.K cls W (ev C (.not_ a')).t) := by
  refine pt_imp (pt_not ha) fun σ H Q ⟨α, δ, h, rp, rf, p⟩ => ?_
  exact rdT_mono (rt1 rp rf p) fun x H1 ⟨α1, h1, rp1, rf1, e1, p1⟩ => p1 _ _ Ext.refl rp1
theorem snd_iteV {t a b : Expr} {t' a' b' : E} {pos : Pos} (ht : PT X t (rdT X.K cls W (ev C t').t)) (ha : PE X a (rdE X.K cls W (ev C a').v)) (hb : PE X b (rdE X.K cls W (ev C b').v)) :
    PE X (.IfExp t a b pos) (rdE X.K cls W (ev C (.ite t' a' b')).v) := by
  refine pe_imp (pe_ifExp ht ha hb) fun σ H Q ⟨α, δ, h, rp, rf, p⟩ => ?_
  refine rdT_mono (rt1 rp rf p) fun x H1 ⟨α1, h1, rp1, rf1, e1, p1⟩ => ?_
  cases x with
  | true => rw [if_pos rfl] at p1 ⊢; exact ⟨α1, δ, h1, rp1, rf1, p1⟩
  | false => rw [if_neg Bool.false_ne_true] at p1 ⊢; exact ⟨α1, δ, h1, rp1, rf1, p1⟩
theorem pt_ifExp {t a b : Expr} {tt ta tb : TT} {pos : Pos} (ht : PT X t tt) (ha : PT X a ta) (hb : PT X b tb) : PT X (.IfExp t a b pos) (fun σ H Q => tt σ H fun c H1 => if c = true then ta σ H1 Q else tb σ H1 Q) := by
  refine ⟨fun pins s σ H Q I h => ?_⟩
  refine isTrue_IfExp (thn (ht.run pins s σ H _ I h) fun d s1 ⟨H1, I1, q1⟩ => ?_)
  cases d with
  | true => exact ha.run pins s1 σ H1 Q I1 q1
  | false => exact hb.run pins s1 σ H1 Q I1 q1
theorem snd_iteT {t a b : Expr} {t' a' b' : E} {pos : Pos} (ht : PT X t (rdT X.K cls W (ev C t').t)) (ha : PT X a (rdT X.K cls W (ev C a').t)) (hb : PT X b (rdT X.K cls W (ev C b').t)) :
    PT X (.IfExp t a b pos) (rdT X.K cls W (ev C (.ite t' a' b')).t) := by
  refine pt_imp (pt_ifExp ht ha hb) fun σ H Q ⟨α, δ, h, rp, rf, p⟩ => ?_
  refine rdT_mono (rt1 rp rf p) fun x H1 ⟨α1, h1, rp1, rf1, e1, p1⟩ => ?_
  cases x with
  | true => rw [if_pos rfl] at p1 ⊢; exact ⟨α1, δ, h1, rp1, rf1, p1⟩
  | false => rw [if_neg Bool.false_ne_true] at p1 ⊢; exact ⟨α1, δ, h1, rp1, rf1, p1⟩

/-! ### tuples, lists, subscripts, slices -/
theorem snd_tup {es : List Expr} {es' : Es} {x1 : Nat} {pos : Pos} (h : PA X es (rdEs X.K cls W (evs C es'))) : PE X (.Tuple es x1 pos) (rdE X.K cls W (ev C (.tup es')).v) := by
  refine pe_imp (pe_tup h) fun σ H Q ⟨α, δ, h, rp, rf, p⟩ => ?_
  refine rdEs_mono (rs1 rp rf p) fun xs H1 ⟨α1, h1, ds, rp1, rf1, hx, e1, p1⟩ => ?_
  by_cases hz : ds.length ≤ SL
  · rw [if_pos hz] at p1
    refine ⟨by rw [hx.length, SL_eq]; exact hz, fun q hq => ?_⟩
    have e2 := Ext.laid (α := α1) (o := .tup xs) hq
    exact p1 _ _ e2 (rp1.laid hq) _ ⟨q, xs, rfl, SqT.of upd_same, hx.ext e2⟩
  · rw [if_neg hz] at p1; exact p1.elim
theorem snd_disp {es : List Expr} {es' : Es} {pos : Pos} (h : PA X es (rdEs X.K cls W (evs C es'))) : PE X (.List es pos) (rdL X.K cls W (evL C (.disp es'))) := by
  refine pe_imp (pe_lst h) fun σ H Q ⟨α, δ, h, rp, rf, p⟩ => ?_
  refine rdEs_mono (rs1 rp rf p) fun xs H1 ⟨α1, h1, ds, rp1, rf1, hx, e1, p1⟩ => ?_
  by_cases hz : ds.length ≤ SL
  · rw [if_pos hz] at p1
    refine ⟨by rw [hx.length, SL_eq]; exact hz, fun q hq => ?_⟩
    have e2 := Ext.laid (α := α1) (o := .lst xs) hq
    have hn := rp1.free hq
    have hH : H q = none := by
      cases z : H q with
      | none => rfl
      | some u =>
        by_cases hm : q ∈ α
        · exact absurd (e1.pre.subset hm) hn
        · rw [e1.keep q u z hm] at hq; cases hq
    exact p1 _ _ e2 (rp1.laid hq) q xs hH hn upd_same (hx.ext e2)
  · rw [if_neg hz] at p1; exact p1.elim
theorem snd_ofL {e : Expr} {l : L} (h : PE X e (rdL X.K cls W (evL C l))) : PE X e (rdE X.K cls W (ev C (.ofL l)).v) := by
  refine pe_imp h fun σ H Q ⟨α, δ, h, rp, rf, p⟩ => ⟨α, δ, h, rp, rf, ?_⟩
  have p' : Post X.K cls W σ α H ((evL C l δ h).bind fun xs h => .ok (.ref h.length) (h ++ [.lst xs])) fun d α' H' _ => ∀ v, VR X.K α' H' d v → Q v H' := p
  cases hl : evL C l δ h with
  | bad => rw [hl] at p'; exact p'.elim
  | exc n fs h' => rw [hl] at p'; exact p'
  | ok ds h1 =>
    rw [hl] at p'
    intro α1 H1 e1 rp1 a vs g1 g2 g3 g4
    exact p' (α1 ++ [a]) H1 (e1.take g1 g2) (rp1.add g2 ⟨vs, g3, g4⟩) _ ⟨a, by rw [← rp1.len]; simp, rfl⟩
theorem snd_dict {keys : List (Option Expr)} {es : List Expr} {ks : List DK} {es' : Es} {pos : Pos} (hk : cKeys keys = some ks) (hl : keys.length = es.length) (h15 : keys.length ≤ 15) (h : PpE X cls W es (evs C es')) (hn : es = [] → es' = .nil) :
    PE X (.Dict keys es pos) (rdE X.K cls W (ev C (.dict ks es')).v) := by
  have hkl : ∀ {keys : List (Option Expr)} {ks : List DK}, cKeys keys = some ks → keys.length = ks.length ∧ keys.all (·.isSome) = true := by
    intro keys
    induction keys with
    | nil => intro ks h; cases h; exact ⟨rfl, rfl⟩
    | cons k r ih =>
      intro ks h
      unfold cKeys at h
      split at h
      · rename_i hz; cases hz
      · rename_i hz
        cases hz
        obtain ⟨r, h1, rfl⟩ := Option.map_eq_some_iff.mp h
        have := ih h1
        simp [this.1, this.2]
      · rename_i hz
        cases hz
        obtain ⟨r, h1, rfl⟩ := Option.map_eq_some_iff.mp h
        have := ih h1
        simp [this.1, this.2]
      · cases h
  have fin : ∀ {α : List Addr} {H H2 : Hp} {σ : L2.St} {h2 : DH} {α2 : List Addr} {p : Addr} {kvs : List (DK × D)} {ws : List (Key × V)} {Q : VK}, H p = none → p ∉ α → Ext α (upd H p (.dK [])) α2 H2 → RepH X.K α2 H2 h2 → KVR X.K α2 H2 toK kvs ws →
      Post X.K cls W σ α H (.ok (.ref h2.length) (h2 ++ [.dic kvs])) (fun d α' H' _ => ∀ v, VR X.K α' H' d v → Q v H') → Q (.ref p) (upd H2 p (.dK ws)) := by
    intro α H H2 σ h2 α2 p kvs ws Q hp hpa e2 rp2 kv p2
    have hn2 : p ∉ α2 := fun z => by
      have := e2.new p z hpa
      rw [upd_same] at this; cases this
    have hne : ∀ {a : Addr} {u : HO}, H a = some u → a ≠ p := fun q z => by rw [z, hp] at q; cases q
    have hk2 : H2 p = some (.dK []) := e2.keep p _ upd_same hpa
    have e0 : Ext0 α2 H2 α2 (upd H2 p (.dK ws)) := ⟨List.prefix_rfl, fun a vs q => by
        have : a ≠ p := fun z => by rw [z, hk2] at q; cases q
        rw [upd_ne this]; exact q, fun a o u q => by
        have : a ≠ p := fun z => by rw [z, hk2] at q; cases q
        rw [upd_ne this]; exact q⟩
    have e3 : Ext α H α2 (upd H2 p (.dK ws)) := ⟨e2.pre, fun a ha hna => by
        have h1 := e2.new a ha hna
        have : a ≠ p := fun z => hn2 (z ▸ ha)
        rw [upd_ne this] at h1; exact h1, fun a u q hna => by
        rw [upd_ne (hne q)]
        exact e2.keep a u (by rw [upd_ne (hne q)]; exact q) hna, fun a vs q => by
        rw [upd_ne (hne q)]
        exact e2.tp a vs (by rw [upd_ne (hne q)]; exact q), fun a o u q => by
        rw [upd_ne (hne q)]
        exact e2.fz a o u (by rw [upd_ne (hne q)]; exact q)⟩
    have rp3 : RepH X.K α2 (upd H2 p (.dK ws)) h2 := rp2.same e0 fun a ha u q => by
      have : a ≠ p := fun z => hn2 (z ▸ ha)
      rw [upd_ne this]; exact q
    exact p2 (α2 ++ [p]) _ (e3.take hp hn2) (rp3.add hn2 ⟨ws, upd_same, kv.1, kv.2.ext0 e0⟩) _ ⟨p, by rw [← rp3.len]; simp, rfl⟩
  obtain ⟨l1, l2⟩ := hkl hk
  cases es with
  | nil =>
    have : keys = [] := List.length_eq_zero_iff.mp hl
    subst this
    cases hk
    rw [hn rfl]
    refine pe_imp pe_dnewK fun σ H Q ⟨α, δ, h, rp, rf, p⟩ q hq => ?_
    have e := fin (h2 := h) (kvs := []) (ws := []) (Q := Q) (σ := σ) hq (rp.free hq) Ext.refl (rp.laid hq) KVR.nil p
    rwa [upd_upd] at e
  | cons e es =>
    obtain ⟨trs, g1, g2⟩ := h pos keys ks hk hl
    refine pe_imp (pe_disp g1 l2 hl (by intro z; subst z; simp at hl) h15) fun σ H Q ⟨α, δ, h, rp, rf, p⟩ q hq => g2 _ _ _ ?_
    have ex : Ext α H α (upd H q (.dK [])) := Ext.laid hq
    have hpa := rp.free hq
    have p' : Post X.K cls W σ α H ((evs C es' δ h).bind fun xs h => dispD ks xs h) fun d α' H' _ => ∀ v, VR X.K α' H' d v → Q v H' := p
    refine ⟨α, δ, h, rp.laid hq, rf.ext ex, ?_⟩
    cases hl2 : evs C es' δ h with
    | bad => rw [hl2] at p'; exact p'.elim
    | exc n fs h' => rw [hl2] at p'; exact Post.from (o := (.exc n fs h' : Out (List D))) p' ex
    | ok ds h2 =>
      rw [hl2] at p'
      intro α2 H2 e2 rp2 vs hv
      have p2 : Post X.K cls W σ α H (dispD ks ds h2) fun d α' H' _ => ∀ v, VR X.K α' H' d v → Q v H' := p'
      have hk2 : H2 q = some (.dK []) := e2.keep q _ upd_same hpa
      refine ⟨hk2, (ks.map toK).zip vs, ?_, ?_, ?_⟩
      · rw [List.zip_map_left]; rfl
      · rw [List.length_zip, List.length_map]; omega
      · unfold dispD at p2
        split at p2
        · exact fin hq hpa e2 rp2 (KVR.disp hv KVR.nil) p2
        · exact p2.elim
theorem snd_ix {a b : Expr} {a' b' : E} {pos : Pos} (hu : X.A.units + 1 < cLine) (hs : noSlice b = true) (ha : PE X a (rdE X.K cls W (ev C a').v)) (hb : PE X b (rdE X.K cls W (ev C b').v)) : PE X (.Subscript a b pos) (rdE X.K cls W (ev C (.ix a' b')).v) := by
  refine pe_imp (pe_ix (ix_ok hu) ha hb (ix_plain hs)) fun σ H Q ⟨α, δ, h, rp, rf, p⟩ => ?_
  refine rdE_mono (rd2 rp rf p) fun x H1 q => rdE_mono q fun y H2 ⟨α2, h2, d, e, rp2, rf2, hd, he, e2, p2⟩ => ?_
  obtain ⟨r, hr, q⟩ := Post.opt p2 rp2
  exact ⟨α2, h2, d, e, r, rp2, hd, he, hr, q⟩
theorem snd_ixL {a b : Expr} {l : L} {b' : E} {pos : Pos} (hs : noSlice b = true) (ha : PE X a (rdL X.K cls W (evL C l))) (hb : PE X b (rdE X.K cls W (ev C b').v)) : PE X (.Subscript a b pos) (rdE X.K cls W (ev C (.ixL l b')).v) := by
  refine pe_imp (pe_ix ix_list ha hb (ix_plain hs)) fun σ H Q ⟨α, δ, h, rp, rf, p⟩ => ?_
  refine rdL_mono (rl1 rp rf p) fun v H1 ⟨α1, h1, ds, a, vs, ev', g1, g2, g3, rp1, rf1, hv, e1, p1⟩ => ?_
  subst ev'
  refine rdE_mono (rd1 rp1 rf1 p1) fun y H2 ⟨α2, h2, d, rp2, rf2, hy, e2, p2⟩ => ?_
  cases d <;> try exact p2.elim
  rename_i i
  obtain ⟨r, hr, q⟩ := Post.opt p2 rp2
  obtain ⟨v, z1, z2⟩ := atI_vrs (hv.ext e2) hr
  rw [vr_int hy]
  exact ⟨a, vs, i, v, rfl, rfl, SqL.of (e2.keep _ _ g3 g2), z1, q v z2⟩
theorem rdO_mono {f : Fr → DH → Out (Option Int)} {K : PySem.W.Frag} {σ : L2.St} {H : Hp} {Q Q' : Option Int → Hp → Prop} (h : rdO K cls W f σ H Q) (i : ∀ v H', Q v H' → Q' v H') : rdO K cls W f σ H Q' := by
  obtain ⟨α, δ, hh, rp, rf, p⟩ := h
  exact ⟨α, δ, hh, rp, rf, p.mono fun d α' H' h' _ _ q => i _ _ q⟩
theorem ro1 {K : PySem.W.Frag} {β : Type} {va : Fr → DH → Out (Option Int)} {g : Option Int → DH → Out β} {σ : L2.St} {α : List Addr} {H : Hp} {δ : Fr} {h : DH} {Z : β → List Addr → Hp → DH → Prop} (rp : RepH K α H h) (rf : RepF K α H σ δ)
    (p : Post K cls W σ α H ((va δ h).bind g) Z) :
    rdO K cls W va σ H fun b H1 => ∃ α1 h1, RepH K α1 H1 h1 ∧ RepF K α1 H1 σ δ ∧ Ext α H α1 H1 ∧ Post K cls W σ α1 H1 (g b h1) Z :=
  ⟨α, δ, h, rp, rf, (Post.of_bind p).mono fun d α1 H1 h1 e1 rp1 p1 => ⟨α1, h1, rp1, rf.ext e1, e1, p1⟩⟩
theorem po_imp {o : Option Expr} {t t' : TO} (h : PO X o t) (i : ∀ σ H Q, t' σ H Q → t σ H Q) : PO X o t' := ⟨fun pins s σ H Q I q => h.run pins s σ H Q I (i _ _ _ q)⟩
theorem snd_oN : PO X none (rdO X.K cls W (evO C .none)) := po_imp po_none fun σ H Q ⟨α, δ, h, rp, rf, p⟩ => p _ _ Ext.refl rp
theorem snd_oS {e : Expr} {e' : E} (h : PE X e (rdE X.K cls W (ev C e').v)) : PO X (some e) (rdO X.K cls W (evO C (.some e'))) := by
  refine po_imp (po_some h) fun σ H Q ⟨α, δ, h, rp, rf, p⟩ => ?_
  refine rdE_mono (rd1 rp rf p) fun x H1 ⟨α1, h1, d, rp1, rf1, hx, e1, p1⟩ => ?_
  cases d <;> try exact p1.elim
  rename_i i
  exact ⟨i, vr_int hx, p1 _ _ Ext.refl rp1⟩
theorem snd_sli {a : Expr} {lo hi : Option Expr} {a' : E} {lo' hi' : Oe} {p2 pos : Pos} (ha : PE X a (rdE X.K cls W (ev C a').v)) (hl : PO X lo (rdO X.K cls W (evO C lo'))) (hh : PO X hi (rdO X.K cls W (evO C hi'))) :
    PE X (.Subscript a (.Slice lo hi none p2) pos) (rdE X.K cls W (ev C (.sli a' lo' hi')).v) := by
  refine pe_imp (pe_slice sli_ok ha hl hh) fun σ H Q ⟨α, δ, h, rp, rf, p⟩ => ?_
  refine rdE_mono (rd1 rp rf p) fun x H1 ⟨α1, h1, d, rp1, rf1, hx, e1, p1⟩ => ?_
  refine rdO_mono (ro1 rp1 rf1 p1) fun l H2 ⟨α2, h2, rp2, rf2, e2, p2⟩ => ?_
  refine rdO_mono (ro1 rp2 rf2 p2) fun u H3 ⟨α3, h3, rp3, rf3, e3, p3⟩ => ?_
  obtain ⟨r, h', hr, q⟩ := Post.ok_of p3 fun _ _ _ => no_sliD
  exact ⟨α3, h3, d, r, h', rp3, (hx.ext e2).ext e3, hr, q⟩

/-! ### calls -/
theorem snd_call (ok : Ok X c C cls W k) {x : Str} {p pos : Pos} {f : Nat} {es : List Expr} {es' : Es} (hn : nameOk x = true) (hg : glB c.sc x = true) (hf : c.fns.lookup x = some f)
    (h : PA X es (rdEs X.K cls W (evs C es'))) (hst : ∀ e ∈ es, noStar e = true) (h0 : es = [] → es' = .nil) : PE X (.Call (.Name x p) es [] pos) (rdE X.K cls W (ev C (.call f es')).v) := by
  obtain ⟨n1, n2, n3⟩ := name_ok hn
  obtain ⟨a, fd, ps, hm, hk, hb, F⟩ := ok.fa.fn x f hf
  have hg' : Gl X x := gl_of (by rw [ok.sc]; exact hg)
  have sp_of : ∀ {σ : L2.St} {Q : VK} {α1 : List Addr} {H1 : Hp} {h1 : DH} {ds : List D} {xs : List V}, RepH X.K α1 H1 h1 → VRs X.K α1 H1 ds xs → Post X.K cls W σ α1 H1 (C.fn f ds h1) (fun d α' H' _ => ∀ v, VR X.K α' H' d v → Q v H') → spD X.K cls (C.fn f) (xs ++ []) H1 Q (WE W σ) := fun {σ Q α1 H1 h1 ds xs} rp1 hx p1 => by
    rw [List.append_nil]
    refine ⟨α1, ds, h1, rp1, hx, ?_⟩
    cases hc : C.fn f ds h1 with
    | bad => rw [hc] at p1; exact p1.elim
    | ok d h' => rw [hc] at p1; exact p1
    | exc n fs h' => rw [hc] at p1; exact p1
  cases es with
  | nil =>
    rw [h0 rfl]
    refine ⟨fun pins s σ H Q I ⟨α, δ, h, rp, rf, p⟩ => ?_⟩
    refine wpAny_Call_Name_kw (ld_glob I hg' hm ?_ n1)
    refine PySem.W.callWith_K0 I.kIn hk (run_fnSD (us := []) (vs := []) (E := WE W) F ok.room hb .nil (passAt ok.tk σ) I .nil (sp_of rp (ds := []) (by exact rfl) p))
  | cons e rest =>
    exact pe_imp (pe_callSD F ok.room hg' hm hk hb .nil (fun σ => passAt ok.tk σ) h n1 (star_cons (hst e List.mem_cons_self)) (star_plain fun y hy => hst y (List.mem_cons_of_mem _ hy))) fun σ H Q ⟨α, δ, h, rp, rf, p⟩ =>
      rdEs_mono (rs1 rp rf p) fun xs H1 ⟨α1, h1, ds, rp1, rf1, hx, e1, p1⟩ => sp_of rp1 hx p1
/-- an argument list of one -/
theorem pa_one {a : Expr} {te : TE} (hs : noStar a = true) (ha : PE X a te) : PA X [a] (tCons te tNil) := pa_cons ha pa_nil (star_cons hs)
theorem star_one {a : Expr} {env : Env} (hs : noStar a = true) : starEach [a] env = (false, eval a env) :: starEach [] env := star_cons hs
theorem star_nil {env : Env} {pos : Pos} : (backTo pos (starEach [] env)).any (·.1) = false := rfl
/-- a built-in function or type of one value -/
theorem snd_bi (ok : Ok X c C cls W k) {x : Str} {p pos : Pos} {a : Expr} {a' : E} {b : Bi} (hn : nameOk x = true) (hg : glB c.sc x = true) (hf : c.free.contains x = true) (hb : cBi.lookup x = some b) (hs : noStar a = true) (ha : PE X a (rdE X.K cls W (ev C a').v)) :
    PE X (.Call (.Name x p) [a] [] pos) (rdE X.K cls W (ev C (.bi b a')).v) := by
  obtain ⟨n1, n2, n3⟩ := name_ok hn
  have hg' : Gl X x := gl_of (by rw [ok.sc]; exact hg)
  have hm := ok.fa.fr x hf
  have conv : ∀ σ H Q, rdE X.K cls W (ev C (.bi b a')).v σ H Q → tCB (rBi X.K b) (tCons (rdE X.K cls W (ev C a').v) tNil) σ H Q := fun σ H Q ⟨α, δ, h, rp, rf, p⟩ =>
    rdE_mono (rd1 rp rf p) fun x H1 ⟨α1, h1, d, rp1, rf1, hx, e1, p1⟩ => by
      cases hr : biD h1 b d with
      | none => rw [hr] at p1; exact p1.elim
      | some r => rw [hr] at p1; exact ⟨α1, h1, d, x, r, rfl, rp1, hx, hr, fun α' H' e' r' v hv => p1 α' H' e' r' v hv⟩
  unfold cBi at hb
  simp only [List.lookup] at hb
  split at hb
  · rename_i e; cases hb; cases beq_iff_eq.mp e
    exact pe_imp (pe_callB len_ok hg' hm boot_len (pa_one hs ha) n3 n1 (star_one hs) star_nil) conv
  · split at hb
    · rename_i e; cases hb; cases beq_iff_eq.mp e
      exact pe_imp (pe_callTy (int_ok ok.fa.su.dg) hg' hm (by decide +kernel) (pa_one hs ha) n3 n1 (star_one hs) star_nil) conv
    · split at hb
      · rename_i e; cases hb; cases beq_iff_eq.mp e
        exact pe_imp (pe_callTy str_ok hg' hm (by decide +kernel) (pa_one hs ha) n3 n1 (star_one hs) star_nil) conv
      · split at hb
        · rename_i e; cases hb; cases beq_iff_eq.mp e
          exact pe_imp (pe_callTy tup_ok hg' hm (by decide +kernel) (pa_one hs ha) n3 n1 (star_one hs) star_nil) conv
        · split at hb
          · rename_i e; cases hb; cases beq_iff_eq.mp e
            exact pe_imp (pe_callB ord_ok hg' hm (by kernel_rfl) (pa_one hs ha) n3 n1 (star_one hs) star_nil) conv
          · cases hb
/-- .. of a fresh list -/
theorem snd_bl (ok : Ok X c C cls W k) {x : Str} {p pos : Pos} {a : Expr} {l : L} {b : Bl} (hn : nameOk x = true) (hg : glB c.sc x = true) (hf : c.free.contains x = true) (hb : cBl.lookup x = some b) (hs : noStar a = true) (ha : PE X a (rdL X.K cls W (evL C l))) :
    PE X (.Call (.Name x p) [a] [] pos) (rdE X.K cls W (ev C (.biL b l)).v) := by
  obtain ⟨n1, n2, n3⟩ := name_ok hn
  have hg' : Gl X x := gl_of (by rw [ok.sc]; exact hg)
  have hm := ok.fa.fr x hf
  have conv : ∀ σ H Q, rdE X.K cls W (ev C (.biL b l)).v σ H Q → tCB (rBl X.K b) (tCons (rdL X.K cls W (evL C l)) tNil) σ H Q := fun σ H Q ⟨α, δ, h, rp, rf, p⟩ => by
    show rdL X.K cls W (evL C l) σ H fun x H1 => rBl X.K b [x] H1 Q
    refine rdL_mono (rl1 rp rf p) fun v H1 ⟨α1, h1, ds, a, vs, ev', g1, g2, g3, rp1, rf1, hv, e1, p1⟩ => ?_
    · subst ev'
      cases hr : blD b ds with
      | none => rw [hr] at p1; exact p1.elim
      | some r => rw [hr] at p1; exact ⟨α1, h1, ds, a, vs, r, rfl, rp1, g3, g2, hv, hr, fun α' H' e' r' v hv => p1 α' H' e' r' v hv⟩
  unfold cBl at hb
  simp only [List.lookup] at hb
  split at hb
  · rename_i e; cases hb; cases beq_iff_eq.mp e
    exact pe_imp (pe_callTy btup_ok hg' hm (by decide +kernel) (pa_one hs ha) n3 n1 (star_one hs) star_nil) conv
  · split at hb
    · rename_i e; cases hb; cases beq_iff_eq.mp e
      exact pe_imp (pe_callB blen_ok hg' hm boot_len (pa_one hs ha) n3 n1 (star_one hs) star_nil) conv
    · split at hb
      · rename_i e; cases hb; cases beq_iff_eq.mp e
        exact pe_imp (pe_callB (ball_ok ok.calm) hg' hm (by decide +kernel) (pa_one hs ha) n3 n1 (star_one hs) star_nil) conv
      · split at hb
        · rename_i e; cases hb; cases beq_iff_eq.mp e
          exact pe_imp (pe_callB (bany_ok ok.calm) hg' hm (by decide +kernel) (pa_one hs ha) n3 n1 (star_one hs) star_nil) conv
        · cases hb
/-- isinstance(a, T) -/
theorem snd_isi (ok : Ok X c C cls W k) {p pos pt : Pos} {a : Expr} {a' : E} {t : Str} {ty : Ty} (hg : glB c.sc "isinstance" = true) (hf : c.free.contains "isinstance" = true) (ht : glFree c t = true) (hy : tyS.lookup t = some ty) (hs : noStar a = true) (ha : PE X a (rdE X.K cls W (ev C a').v)) :
    PE X (.Call (.Name "isinstance" p) [a, .Name t pt] [] pos) (rdE X.K cls W (ev C (.isi a' ty)).v) := by
  have hg' : Gl X "isinstance" := gl_of (by rw [ok.sc]; exact hg)
  have hm := ok.fa.fr _ hf
  unfold glFree at ht
  simp only [Bool.and_eq_true] at ht
  obtain ⟨⟨t1, t2⟩, t3⟩ := ht
  obtain ⟨n1, n2, n3⟩ := name_ok t1
  have pt : PE X (.Name t pt) (tC (.ty (tyN ty))) := by
    refine pe_bltn (gl_of (by rw [ok.sc]; exact t2)) (ok.fa.fr _ t3) (u := .type (tyN ty)) ?_ rfl n3 n1
    unfold tyS at hy
    simp only [List.lookup] at hy
    split at hy
    · rename_i e; cases hy; cases beq_iff_eq.mp e; decide +kernel
    · split at hy
      · rename_i e; cases hy; cases beq_iff_eq.mp e; decide +kernel
      · split at hy
        · rename_i e; cases hy; cases beq_iff_eq.mp e; decide +kernel
        · split at hy
          · rename_i e; cases hy; cases beq_iff_eq.mp e; decide +kernel
          · split at hy
            · rename_i e; cases hy; cases beq_iff_eq.mp e; decide +kernel
            · cases hy
  refine pe_imp (pe_callB call_isi hg' hm (by decide +kernel) (pa_cons ha (pa_cons pt pa_nil rfl) (star_cons hs)) (by decide) (by decide) (star_cons hs) rfl) fun σ H Q ⟨α, δ, h, rp, rf, p⟩ => ?_
  refine rdE_mono (rd1 rp rf p) fun x H1 ⟨α1, h1, d, rp1, rf1, hx, e1, p1⟩ => ?_
  obtain ⟨r, hr, q⟩ := Post.opt p1 rp1
  obtain ⟨b, hb, rfl⟩ := Option.map_eq_some_iff.mp hr
  obtain ⟨T, z1, z2⟩ := isi_vr rp1 hx hb
  exact ⟨x, _, _, _, b, rfl, .ty _, z1, z2, q _ rfl⟩
end
end FD

set_option Elab.async false
set_option linter.all false
set_option maxRecDepth 100000
set_option maxHeartbeats 1000000
/-! The D layer, 11: soundness of methods, lists, loops' heads, targets. -/
namespace FD
open PySem PySem.Spec PyProof.Rows L2
section
variable {X : Cx} {c : CC} {C : Cn} {cls : Nat → Option Addr} {W : WX} {k : Nat} {r : Rec}
/-! ### methods -/
theorem few_of {env : Env} {pos : Pos} : ∀ {es : List Expr}, (∀ e ∈ es, noStar e = true) → (backTo pos (starEach es env)).all (fun x => !x.1) = true
  | [], _ => rfl
  | e :: es, h => by
    rw [star_cons (h e List.mem_cons_self)]
    show (true && (backTo pos (starEach es env)).all (fun x => !x.1)) = true
    rw [few_of fun x hx => h x (List.mem_cons_of_mem _ hx)]
    rfl
theorem few_ok {env : Env} {pos : Pos} {es : List Expr} (h : ∀ e ∈ es, noStar e = true) (hl : es.length < 30) : ((backTo pos (starEach es env)).all (fun x => !x.1) && (backToKw pos (keywordEach [] env)).all (fun x => x.1.isSome)
      && decide (es.length + ([] : List Keyword).length + (if ([] : List Keyword).isEmpty then 0 else 1) < 30)) = true := by
  rw [few_of h]
  show (true && true && decide (es.length + 0 + 0 < 30)) = true
  simp [hl]
theorem ty_str {K : PySem.W.Frag} {α : List Addr} {H : Hp} {s : List Nat} {v : V} (h : VR K α H (.str s) v) : tyV K "str" v H := by rw [vr_str h]; rfl
theorem mt_conv {T : String} {m : Mt} {o' : E} {es' : Es} (ty : ∀ {α : List Addr} {H : Hp} {h : DH} {d : D} {v : V}, RepH X.K α H h → VR X.K α H d v → mtK h m d = true → tyV X.K T v H) (σ : L2.St) (H : Hp) (Q : VK)
    (q : rdE X.K cls W (ev C (.mt m o' es')).v σ H Q) : tBM X.K T (rMt X.K m) (rdE X.K cls W (ev C o').v) (rdEs X.K cls W (evs C es')) σ H Q := by
  obtain ⟨α, δ, h, rp, rf, p⟩ := q
  refine rdE_mono (rd1 rp rf p) fun x H1 ⟨α1, h1, d, rp1, rf1, hx, e1, p1⟩ => ?_
  by_cases hk : mtK h1 m d = true
  · rw [if_pos hk] at p1
    refine ⟨ty rp1 hx hk, rdEs_mono (rs1 rp1 rf1 p1) fun xs H2 ⟨α2, h2, ds, rp2, rf2, hxs, e2, p2⟩ => ?_⟩
    obtain ⟨r, h', hr, q⟩ := Post.ok_of p2 fun _ _ _ => no_mtD
    exact ⟨α2, h2, d, ds, r, h', rp2, hx.ext e2, hxs, hr, q⟩
  · rw [if_neg hk] at p1; exact p1.elim
theorem ty_list {α : List Addr} {H : Hp} {h : DH} {d : D} {v : V} (rp : RepH X.K α H h) (hv : VR X.K α H d v) (hk : mtK h .append d = true) : tyV X.K "list" v H := by
  cases d <;> simp only [mtK] at hk <;> try contradiction
  rename_i n
  obtain ⟨xs, hl⟩ := Option.isSome_iff_exists.mp hk
  obtain ⟨a, vs, _, rfl, h1, _⟩ := rp.ref hv (lget_some hl)
  exact .inl ⟨rfl, _, SqL.of h1⟩
theorem snd_append {o a : Expr} {o' : E} {es' : Es} {apos pos : Pos} (hb : plainB o = true) (hl : (apos.endLine == pos.line) = true) (hs : ∀ e ∈ [a], noStar e = true) (ho : PE X o (rdE X.K cls W (ev C o').v)) (ha : PA X [a] (rdEs X.K cls W (evs C es'))) :
    PE X (.Call (.Attribute o "append" apos) [a] [] pos) (rdE X.K cls W (ev C (.mt .append o' es')).v) :=
  pe_imp (pe_bm PySem.F.plainAttrs_list PySem.F.slot_list_append PySem.F.type_list_append append_ok ho ha (base_plain hb) (few_ok hs (by simp)) hl (star_cons (hs a List.mem_cons_self)) rfl) (mt_conv fun rp hv hk => ty_list rp hv hk)
theorem snd_find {o a b : Expr} {rest : List Expr} {o' : E} {es' : Es} {m : Mt} {apos pos : Pos} (hm : MtR X "str.find" (rMt X.K m)) (hkm : ∀ {h : DH} {d : D}, mtK h m d = true → ∃ s, d = .str s) (hb : plainB o = true) (hl : (apos.endLine == pos.line) = true)
    (hs : ∀ e ∈ a :: b :: rest, noStar e = true) (hlen : (a :: b :: rest).length < 30) (ho : PE X o (rdE X.K cls W (ev C o').v)) (ha : PA X (a :: b :: rest) (rdEs X.K cls W (evs C es'))) :
    PE X (.Call (.Attribute o "find" apos) (a :: b :: rest) [] pos) (rdE X.K cls W (ev C (.mt m o' es')).v) :=
  pe_imp (pe_bm PySem.F.plainAttrs_str PySem.F.slot_str_find PySem.F.type_str_find hm ho ha (base_plain hb) (few_ok hs hlen) hl (star_cons (hs a List.mem_cons_self)) (star_plain fun e he => hs e (List.mem_cons_of_mem _ he)))
    (mt_conv fun rp hv hk => by obtain ⟨s, rfl⟩ := hkm hk; exact ty_str hv)
theorem snd_join {o a : Expr} {o' : E} {l : L} {apos pos : Pos} (hb : plainB o = true) (hl : (apos.endLine == pos.line) = true) (hs : noStar a = true) (ho : PE X o (rdE X.K cls W (ev C o').v)) (ha : PE X a (rdL X.K cls W (evL C l))) :
    PE X (.Call (.Attribute o "join" apos) [a] [] pos) (rdE X.K cls W (ev C (.mtL .join o' l)).v) := by
  refine pe_imp (pe_bm PySem.F.plainAttrs_str PySem.F.slot_str_join PySem.F.type_str_join join_ok ho (pa_one hs ha) (base_plain hb) (few_ok (fun e he => by rw [List.mem_singleton.mp he]; exact hs) (by simp)) hl (star_cons hs) rfl) fun σ H Q ⟨α, δ, h, rp, rf, p⟩ => ?_
  refine rdE_mono (rd1 rp rf p) fun x H1 ⟨α1, h1, d, rp1, rf1, hx, e1, p1⟩ => ?_
  cases d <;> try exact p1.elim
  refine ⟨ty_str hx, ?_⟩
  show rdL X.K cls W (evL C l) σ H1 fun y H2 => rMl X.K .join x [y] H2 Q
  refine rdL_mono (rl1 rp1 rf1 p1) fun v H2 ⟨α2, h2, ds, a, vs, ev', g1, g2, g3, rp2, rf2, hv, e2, p2⟩ => ?_
  subst ev'
  obtain ⟨r, hr, q⟩ := Post.opt p2 rp2
  exact ⟨α2, h2, _, ds, a, vs, r, rfl, rp2, hx.ext e2, g3, hv, hr, q⟩

theorem snd_split1 {o a : Expr} {o' : E} {es' : Es} {apos pos : Pos} (hb : plainB o = true) (hl : (apos.endLine == pos.line) = true) (hs : ∀ e ∈ [a], noStar e = true) (ho : PE X o (rdE X.K cls W (ev C o').v)) (ha : PA X [a] (rdEs X.K cls W (evs C es'))) :
    PE X (.Call (.Attribute o "split" apos) [a] [] pos) (rdE X.K cls W (ev C (.mt .split o' es')).v) :=
  pe_imp (pe_bm PySem.F.plainAttrs_str PySem.F.slot_str_split PySem.F.type_str_split split_ok ho ha (base_plain hb) (few_ok hs (by simp)) hl (star_cons (hs a List.mem_cons_self)) rfl)
    (mt_conv fun rp hv hk => by rename_i d _; cases d <;> simp only [mtK] at hk <;> first | exact ty_str hv | contradiction)
theorem snd_splitN {o a b : Expr} {o' : E} {es' : Es} {apos pos : Pos} (hb : plainB o = true) (hl : (apos.endLine == pos.line) = true) (hs : ∀ e ∈ [a, b], noStar e = true) (ho : PE X o (rdE X.K cls W (ev C o').v)) (ha : PA X [a, b] (rdEs X.K cls W (evs C es'))) :
    PE X (.Call (.Attribute o "split" apos) [a, b] [] pos) (rdE X.K cls W (ev C (.mt .splitN o' es')).v) :=
  pe_imp (pe_bm PySem.F.plainAttrs_str PySem.F.slot_str_split PySem.F.type_str_split splitN_ok ho ha (base_plain hb) (few_ok hs (by simp)) hl (star_cons (hs a List.mem_cons_self)) (star_plain fun e he => hs e (List.mem_cons_of_mem _ he)))
    (mt_conv fun rp hv hk => by rename_i d _; cases d <;> simp only [mtK] at hk <;> first | exact ty_str hv | contradiction)
theorem snd_part {o a : Expr} {o' : E} {es' : Es} {apos pos : Pos} (hb : plainB o = true) (hl : (apos.endLine == pos.line) = true) (hs : ∀ e ∈ [a], noStar e = true) (ho : PE X o (rdE X.K cls W (ev C o').v)) (ha : PA X [a] (rdEs X.K cls W (evs C es'))) :
    PE X (.Call (.Attribute o "partition" apos) [a] [] pos) (rdE X.K cls W (ev C (.mt .part o' es')).v) :=
  pe_imp (pe_bm PySem.F.plainAttrs_str PySem.F.slot_str_partition PySem.F.type_str_partition part_ok ho ha (base_plain hb) (few_ok hs (by simp)) hl (star_cons (hs a List.mem_cons_self)) rfl)
    (mt_conv fun rp hv hk => by rename_i d _; cases d <;> simp only [mtK] at hk <;> first | exact ty_str hv | contradiction)
theorem snd_joinR {o a : Expr} {o' : E} {es' : Es} {apos pos : Pos} (hb : plainB o = true) (hl : (apos.endLine == pos.line) = true) (hs : ∀ e ∈ [a], noStar e = true) (ho : PE X o (rdE X.K cls W (ev C o').v)) (ha : PA X [a] (rdEs X.K cls W (evs C es'))) :
    PE X (.Call (.Attribute o "join" apos) [a] [] pos) (rdE X.K cls W (ev C (.mt .join o' es')).v) :=
  pe_imp (pe_bm PySem.F.plainAttrs_str PySem.F.slot_str_join PySem.F.type_str_join joinR_ok ho ha (base_plain hb) (few_ok hs (by simp)) hl (star_cons (hs a List.mem_cons_self)) rfl)
    (mt_conv fun rp hv hk => by rename_i d _; cases d <;> simp only [mtK] at hk <;> first | exact ty_str hv | contradiction)

theorem snd_get1 {o a : Expr} {o' a' : E} {apos pos : Pos} (hu : X.A.units + 1 < cLine) (hb : plainB o = true) (hl : (apos.endLine == pos.line) = true) (hs : noStar a = true) (ho : PE X o (rdE X.K cls W (ev C o').v)) (ha : PE X a (rdE X.K cls W (ev C a').v)) :
    PE X (.Call (.Attribute o "get" apos) [a] [] pos) (rdE X.K cls W (ev C (.dget1 o' a')).v) := by
  refine pe_imp (pe_dget1 hu ho ha ⟨base_plain hb, few_ok (fun e he => by rw [List.mem_singleton.mp he]; exact hs) (by simp), hl, by rw [star_cons hs]; rfl⟩) fun σ H Q ⟨α, δ, h, rp, rf, p⟩ => ?_
  refine rdE_mono (rd1 rp rf p) fun x H1 ⟨α1, h1, d, rp1, rf1, hx, e1, p1⟩ => ?_
  by_cases hk : isDic h1 d = true
  · rw [if_pos hk] at p1
    obtain ⟨n, aa, rfl, rfl, hd⟩ := isDic_vr rp1 hx hk
    refine ⟨aa, rfl, hd, rdE_mono (rd1 rp1 rf1 p1) fun y H2 ⟨α2, h2, d2, rp2, rf2, hy, e2, p2⟩ => ?_⟩
    obtain ⟨r, hr, q⟩ := Post.opt p2 rp2
    obtain ⟨ov, hov, rfl⟩ := Option.map_eq_some_iff.mp hr
    obtain ⟨b, eb, _, o2, g, ro⟩ := dget_vr rp2 (hx.ext e2) hy hov
    cases eb
    exact ⟨o2, g, q _ (ro.getD rfl)⟩
  · rw [if_neg hk] at p1; exact p1.elim
theorem snd_get2 {o a b : Expr} {o' a' b' : E} {apos pos : Pos} (hu : X.A.units + 1 < cLine) (hb : plainB o = true) (hl : (apos.endLine == pos.line) = true) (hs : noStar a = true) (hs2 : noStar b = true) (ho : PE X o (rdE X.K cls W (ev C o').v)) (ha : PE X a (rdE X.K cls W (ev C a').v)) (hb' : PE X b (rdE X.K cls W (ev C b').v)) :
    PE X (.Call (.Attribute o "get" apos) [a, b] [] pos) (rdE X.K cls W (ev C (.dget2 o' a' b')).v) := by
  refine pe_imp (pe_dget2 hu ho ha hb' ⟨base_plain hb, few_ok (fun e he => by
      rcases List.mem_cons.mp he with rfl | he
      · exact hs
      · rw [List.mem_singleton.mp he]; exact hs2) (by simp), hl, by rw [star_cons hs, star_cons hs2]; rfl⟩) fun σ H Q ⟨α, δ, h, rp, rf, p⟩ => ?_
  refine rdE_mono (rd1 rp rf p) fun x H1 ⟨α1, h1, d, rp1, rf1, hx, e1, p1⟩ => ?_
  by_cases hk : isDic h1 d = true
  · rw [if_pos hk] at p1
    obtain ⟨n, aa, rfl, rfl, hd⟩ := isDic_vr rp1 hx hk
    refine ⟨aa, rfl, hd, rdE_mono (rd1 rp1 rf1 p1) fun y H2 ⟨α2, h2, d2, rp2, rf2, hy, e2, p2⟩ => ?_⟩
    refine rdE_mono (rd1 rp2 rf2 p2) fun z H3 ⟨α3, h3, d3, rp3, rf3, hz, e3, p3⟩ => ?_
    obtain ⟨r, hr, q⟩ := Post.opt p3 rp3
    obtain ⟨ov, hov, rfl⟩ := Option.map_eq_some_iff.mp hr
    obtain ⟨b, eb, _, o2, g, ro⟩ := dget_vr rp3 ((hx.ext e2).ext e3) (hy.ext e3) hov
    cases eb
    exact ⟨o2, g, q _ (ro.getD hz)⟩
  · rw [if_neg hk] at p1; exact p1.elim

/-! ### '..' + o.replace(..).replace(..) -/
theorem replD_app : ∀ {ps : List (Nat × List Nat)} {c : Nat} {z s t : List Nat}, replD (ps ++ [(c, z)]) s = some t → ∃ u, replD ps s = some u ∧ u.length + (u.length + 1) * z.length ≤ SL ∧ t = rep1 c z u
  | [], c, z, s, t, h => by
    simp only [List.nil_append, replD] at h
    split at h
    · rename_i hz
      cases h
      exact ⟨s, rfl, hz, rfl⟩
    · cases h
  | (c', z') :: ps, c, z, s, t, h => by
    simp only [List.cons_append, replD] at h ⊢
    split at h
    · rename_i hz
      rw [if_pos hz]
      exact replD_app h
    · cases h
theorem strip_ok {o' : E} : ∀ {n : Nat} {e o : Expr} {ps : List (Nat × List Nat)}, strip n e = some (o, ps) → PE X o (rdE X.K cls W (ev C o').v) →
    ∃ t, PET X e t ∧ ∀ (σ : L2.St) (H : Hp) (Q : VK), (rdE X.K cls W (ev C o').v σ H fun v H1 => ∃ s u, v = .str (toS s) ∧ replD ps s = some u ∧ Q (.str (toS u)) H1) → t σ H Q := by
  intro n
  induction n with
  | zero => intro e o ps h; cases h
  | succ n ih =>
    intro e o ps h ho
    unfold strip at h
    split at h
    · rename_i k o1 m apos y _ _ z _ _ pos hk
      cases hk
      split at h
      · rename_i hc
        simp only [Bool.and_eq_true, Bool.not_eq_true', beq_iff_eq] at hc
        obtain ⟨⟨⟨rfl, h1⟩, h2⟩, h3⟩ := hc
        have h2' : (apos.endLine == pos.line) = true := by simpa using h2
        split at h
        · rename_i cc hy
          have ey : y = toS [cc] := by rw [← toS_cps y, hy]
          have ez : z = toS z.cps.toList := (toS_cps z).symm
          split at h
          · rename_i b ps' hs
            cases h
            obtain ⟨t, ht, hq⟩ := ih hs ho
            refine ⟨_, CwR.pet_replT ht h3 rfl (base_plain h1) h2', fun σ H Q q => hq σ H _ (rdE_mono q fun v H1 ⟨s, u, e1, e2, q⟩ => ?_)⟩
            obtain ⟨w', w1, w2, rfl⟩ := replD_app e2
            refine ⟨s, w', e1, w1, _, rfl, ?_, ?_⟩
            · rw [ez, toS_length, toS_length]; exact w2
            · rw [ey, ez, repl_eq]; exact q
          · cases h
            refine ⟨_, CwR.pet_replC ho h3 rfl (base_plain h1) h2', fun σ H Q q => rdE_mono q fun v H1 ⟨s, u, e1, e2, q⟩ => ?_⟩
            obtain ⟨w', w1, w2, rfl⟩ := replD_app (ps := []) e2
            cases w1
            refine ⟨_, e1, ?_, ?_⟩
            · rw [ez, toS_length, toS_length]; exact w2
            · rw [ey, ez, repl_eq]; exact q
        · cases h
      · cases h
    · cases h
theorem snd_repl {q : Str} {j n : Nat} {b o : Expr} {o' : E} {ps : List (Nat × List Nat)} {cpos pos : Pos} (h : strip n b = some (o, ps)) (ho : PE X o (rdE X.K cls W (ev C o').v)) :
    PE X (.BinOp (.Constant (.str q) j cpos) .Add b pos) (rdE X.K cls W (ev C (.repl q.cps.toList o' ps)).v) := by
  obtain ⟨t, ht, hq⟩ := strip_ok h ho
  refine ⟨fun pins s σ H Q I ⟨α, δ, hh, rp, rf, p⟩ => ?_⟩
  refine wpAny_BinOp (Calls.Constant_str ?_)
  have q1 : t σ H fun v H1 => ∃ u, v = .str (toS u) ∧ q.length + u.length ≤ sizeLine ∧ Q (.str (q ++ toS u)) H1 := by
    refine hq σ H _ (rdE_mono (rd1 rp rf p) fun x H1 ⟨α1, h1, d, rp1, rf1, hx, e1, p1⟩ => ?_)
    cases d <;> try exact p1.elim
    rename_i s1
    refine ⟨s1, ?_⟩
    dsimp only at p1
    split at p1
    · rename_i u hu
      refine ⟨u, vr_str hx, hu, u, rfl, ?_⟩
      have p2 : Post X.K cls W σ α1 H1 (if q.cps.toList.length + u.length ≤ SL then .ok (.str (q.cps.toList ++ u)) h1 else .bad) fun d α' H' _ => ∀ v, VR X.K α' H' d v → Q v H' := p1
      have eq : q.length = q.cps.toList.length := by simp [Str.length]
      by_cases hz : q.cps.toList.length + u.length ≤ SL
      · rw [if_pos hz] at p2
        refine ⟨by rw [eq, SL_eq]; exact hz, p2 _ _ Ext.refl rp1 _ ?_⟩
        show V.str _ = V.str _
        rw [← app_toS, toS_cps]
      · rw [if_neg hz] at p2; exact p2.elim
    · exact p1.elim
  refine thn (ht pins { s with toks := s.toks + 1 } σ H _ (by show 1 ≤ s.toks + 1; omega) (I.tok _) q1) fun u s2 ⟨y, H2, I2, r2, w', ey, hz, q2⟩ => ?_
  subst ey
  exact op_add_str pins s2 σ H2 (.str q) (.str (toS w')) _ u Q I2 ⟨_, rfl⟩ r2 ⟨q, toS w', rfl, rfl, by rw [toS_length]; exact hz, q2⟩
end
end FD

set_option Elab.async false
set_option linter.all false
set_option maxRecDepth 100000
set_option maxHeartbeats 1000000
/-! The D layer, 12: soundness of what is walked, targets, comprehensions; the step. -/
namespace FD
open PySem PySem.Spec PyProof.Rows L2
section
variable {X : Cx} {c : CC} {C : Cn} {cls : Nat → Option Addr} {W : WX} {k : Nat} {r : Rec}
/-! ### what is walked -/
theorem lim_eq {j : Int} (h : -lim ≤ j ∧ j < lim) : -(2 ^ 62) ≤ j ∧ j < 2 ^ 62 := by
  have e : (2 : Int) ^ 62 = lim := by decide
  rw [e]; exact h
theorem snd_itE {tg e : Expr} {e' : E} (h : PE X e (rdE X.K cls W (ev C e').v)) : PI X tg e (rdI X.K cls W (evI C (.e e'))) := by
  refine pi_imp (pi_dyn h) fun σ H R ⟨α, δ, h, rp, rf, p⟩ => ?_
  refine rdE_mono (rd1 rp rf p) fun x H1 ⟨α1, h1, d, rp1, rf1, hx, e1, p1⟩ => ?_
  obtain ⟨s, hs, q⟩ := Post.opt p1 rp1
  unfold srcD at hs
  split at hs
  · cases hs
    obtain ⟨a, vs, rfl, g1, g2⟩ := vr_tup hx
    exact .inr (.inl ⟨a, rfl, ⟨vs, g1⟩, q _ (wk_tup g1 g2)⟩)
  · rename_i n
    obtain ⟨xs, hl, rfl⟩ := Option.map_eq_some_iff.mp hs
    obtain ⟨a, vs, ha, rfl, g1, g2⟩ := rp1.ref hx (lget_some hl)
    exact .inl ⟨a, rfl, ⟨vs, SqL.of g1⟩, q _ (wk_dyn ha)⟩
  · cases hs
    exact .inr (.inr ⟨_, vr_str hx, q _ (wk_str _)⟩)
  · cases hs
theorem snd_enum (ok : Ok X c C cls W k) {tg a : Expr} {a' : E} {p pos : Pos} (ht : tupT tg = true) (hf : glFree c "enumerate" = true) (hs : noStar a = true) (ha : PE X a (rdE X.K cls W (ev C a').v)) : PI X tg (.Call (.Name "enumerate" p) [a] [] pos) (rdI X.K cls W (evI C (.enum a'))) := by
  unfold glFree at hf
  simp only [Bool.and_eq_true] at hf
  cases tg <;> try cases ht
  refine pi_imp (pi_enum (gl_of (by rw [ok.sc]; exact hf.1.2)) (ok.fa.fr _ hf.2) (pa_one hs ha) (star_one hs)) fun σ H R ⟨α, δ, h, rp, rf, p⟩ => ?_
  show rdE X.K cls W (ev C a').v σ H fun x H1 => ∃ b xs, [x] = [.ref b] ∧ SqL X.K H1 b xs ∧ R (Ite X.K b) H1
  refine rdE_mono (rd1 rp rf p) fun x H1 ⟨α1, h1, d, rp1, rf1, hx, e1, p1⟩ => ?_
  obtain ⟨s, hs', q⟩ := Post.opt p1 rp1
  cases d <;> simp only [enumD] at hs' <;> try contradiction
  rename_i n
  obtain ⟨xs, hl, rfl⟩ := Option.map_eq_some_iff.mp hs'
  obtain ⟨b, vs, hb, rfl, g1, g2⟩ := rp1.ref hx (lget_some hl)
  exact ⟨b, vs, rfl, SqL.of g1, q _ (wk_enum hb)⟩
theorem snd_zip (ok : Ok X c C cls W k) {tg a b : Expr} {a' b' : E} {p pos : Pos} (ht : tupT tg = true) (hf : glFree c "zip" = true) (hs : noStar a = true) (hs2 : noStar b = true) (ha : PE X a (rdE X.K cls W (ev C a').v)) (hb : PE X b (rdE X.K cls W (ev C b').v)) :
    PI X tg (.Call (.Name "zip" p) [a, b] [] pos) (rdI X.K cls W (evI C (.zip a' b'))) := by
  unfold glFree at hf
  simp only [Bool.and_eq_true] at hf
  cases tg <;> try cases ht
  refine pi_imp (RZ.pi_zipA (gl_of (by rw [ok.sc]; exact hf.1.2)) (ok.fa.fr _ hf.2) (pa_cons ha (pa_one hs2 hb) (star_cons hs)) (by rw [star_cons hs]) (star_plain fun e he => by rw [List.mem_singleton.mp he]; exact hs2)) fun σ H R ⟨α, δ, h, rp, rf, p⟩ => ?_
  show rdE X.K cls W (ev C a').v σ H fun x H1 => rdE X.K cls W (ev C b').v σ H1 fun y H2 => ∃ a b xs ys, [x, y] = [.ref a, .ref b] ∧ ((SqL X.K H2 a xs ∧ SqL X.K H2 b ys ∧ R (Itz X.K a b) H2) ∨ (SqT X.K H2 a xs ∧ SqT X.K H2 b ys ∧ R (RZ.ItzT X.K a b) H2))
  refine rdE_mono (rd2 rp rf p) fun x H1 q => rdE_mono q fun y H2 ⟨α2, h2, d, e, rp2, rf2, hd, he, e2, p2⟩ => ?_
  obtain ⟨s, hs', qq⟩ := Post.opt p2 rp2
  unfold zipD at hs'
  split at hs'
  · rename_i n m
    split at hs'
    · rename_i xs ys h1 h2
      cases hs'
      obtain ⟨b1, vs, hb1, rfl, g1, g2⟩ := rp2.ref hd (lget_some h1)
      obtain ⟨b2, us, hb2, rfl, f1, f2⟩ := rp2.ref he (lget_some h2)
      exact ⟨b1, b2, vs, us, rfl, .inl ⟨SqL.of g1, SqL.of f1, qq _ (wk_zip hb1 hb2)⟩⟩
    · cases hs'
  · cases hs'
    obtain ⟨b1, vs, rfl, g1, g2⟩ := vr_tup hd
    obtain ⟨b2, us, rfl, f1, f2⟩ := vr_tup he
    exact ⟨b1, b2, vs, us, rfl, .inr ⟨g1, f1, qq _ (wk_zipT g1 g2 f1 f2)⟩⟩
  · cases hs'
theorem snd_itL {tg e : Expr} {l : L} (h : PE X e (rdL X.K cls W (evL C l))) : PI X tg e (rdI X.K cls W (evI C (.l l))) := by
  refine pi_imp (pi_list h) fun σ H R ⟨α, δ, h, rp, rf, p⟩ => ?_
  refine rdL_mono (rl1 rp rf p) fun v H1 ⟨α1, h1, ds, a, vs, ev', g1, g2, g3, rp1, rf1, hv, e1, p1⟩ => ?_
  subst ev'
  exact ⟨a, rfl, ⟨vs, SqL.of g3⟩, p1 _ _ Ext.refl rp1 _ (wk_hid g3 g2 hv)⟩
theorem snd_r1 (ok : Ok X c C cls W k) {tg a : Expr} {a' : E} {p pos : Pos} (hf : glFree c "range" = true) (hs : noStar a = true) (ha : PE X a (rdE X.K cls W (ev C a').v)) : PI X tg (.Call (.Name "range" p) [a] [] pos) (rdI X.K cls W (evI C (.r1 a'))) := by
  unfold glFree at hf
  simp only [Bool.and_eq_true] at hf
  refine pi_imp (pi_range1 (gl_of (by rw [ok.sc]; exact hf.1.2)) (ok.fa.fr _ hf.2) (pa_one hs ha) (star_one hs)) fun σ H R ⟨α, δ, h, rp, rf, p⟩ => ?_
  show rdE X.K cls W (ev C a').v σ H fun x H1 => ∃ j : Int, [x] = [.int j] ∧ -(2 ^ 62) ≤ j ∧ j < 2 ^ 62 ∧ R (Itr 0 j.toNat) H1
  refine rdE_mono (rd1 rp rf p) fun x H1 ⟨α1, h1, d, rp1, rf1, hx, e1, p1⟩ => ?_
  cases d <;> try exact p1.elim
  rename_i j
  have p2 : Post X.K cls W σ α1 H1 (if -lim ≤ j ∧ j < lim then .ok (.items (rngL 0 j.toNat)) h1 else .bad) fun s α' H' _ => ∀ J, Wk X.K α' H' J s → R J H' := p1
  by_cases hz : -lim ≤ j ∧ j < lim
  · rw [if_pos hz] at p2
    exact ⟨j, by rw [vr_int hx], (lim_eq hz).1, (lim_eq hz).2, p2 _ _ Ext.refl rp1 _ (wk_rng _ _)⟩
  · rw [if_neg hz] at p2; exact p2.elim
theorem snd_r2 (ok : Ok X c C cls W k) {tg a b : Expr} {a' b' : E} {p pos : Pos} (hf : glFree c "range" = true) (hs : noStar a = true) (hs2 : noStar b = true) (ha : PE X a (rdE X.K cls W (ev C a').v)) (hb : PE X b (rdE X.K cls W (ev C b').v)) :
    PI X tg (.Call (.Name "range" p) [a, b] [] pos) (rdI X.K cls W (evI C (.r2 a' b'))) := by
  unfold glFree at hf
  simp only [Bool.and_eq_true] at hf
  refine pi_imp (pi_range2 (gl_of (by rw [ok.sc]; exact hf.1.2)) (ok.fa.fr _ hf.2) (pa_cons ha (pa_one hs2 hb) (star_cons hs)) (by rw [star_cons hs, star_one hs2]; rfl) (star_one hs2)) fun σ H R ⟨α, δ, h, rp, rf, p⟩ => ?_
  show rdE X.K cls W (ev C a').v σ H fun x H1 => rdE X.K cls W (ev C b').v σ H1 fun y H2 => ∃ i j : Int, [x, y] = [.int i, .int j] ∧ (-(2 ^ 62) ≤ i ∧ i < 2 ^ 62 ∧ -(2 ^ 62) ≤ j ∧ j < 2 ^ 62) ∧ R (Itr i (j - i).toNat) H2
  refine rdE_mono (rd2 rp rf p) fun x H1 q => rdE_mono q fun y H2 ⟨α2, h2, d, e, rp2, rf2, hd, he, e2, p2⟩ => ?_
  cases d <;> cases e <;> try exact p2.elim
  rename_i i j
  have p3 : Post X.K cls W σ α2 H2 (if -lim ≤ i ∧ i < lim ∧ -lim ≤ j ∧ j < lim then .ok (.items (rngL i (j - i).toNat)) h2 else .bad) fun s α' H' _ => ∀ J, Wk X.K α' H' J s → R J H' := p2
  by_cases hz : -lim ≤ i ∧ i < lim ∧ -lim ≤ j ∧ j < lim
  · rw [if_pos hz] at p3
    have z1 := lim_eq ⟨hz.1, hz.2.1⟩
    have z2 := lim_eq ⟨hz.2.2.1, hz.2.2.2⟩
    exact ⟨i, j, by rw [vr_int hd, vr_int he], ⟨z1.1, z1.2, z2.1, z2.2⟩, p3 _ _ Ext.refl rp2 _ (wk_rng _ _)⟩
  · rw [if_neg hz] at p3; exact p3.elim

/-! ### targets -/
theorem snd_tN (ok : Ok X c C cls W k) {x : Str} {i : Nat} {pos : Pos} (ha : c.asn.contains x = true) (hi : slotOf c.N x 0 = some i) : PG X (.Name x pos) (rdG X.K cls W [i] (asT C (.sl i))) := by
  obtain ⟨h1, h2⟩ := ok.asn x ha
  refine pg_imp (pg_name (i := i) ok.nd (by rw [ok.hN]; exact slot_get0 hi) h1 h2) fun v σ H Q ⟨α, δ, h, d, rp, rf, hv, p⟩ => ?_
  exact p _ _ Ext.refl rp _ (rf.set i hv) Agree.set
theorem PGs_nil : PGs X [] (rdGs X.K cls W [] (asTs C .nil)) := by
  refine pgs_imp pgs_nil fun vs σ H Q ⟨α, δ, h, ds, rp, rf, hv, p⟩ => ?_
  cases ds with
  | nil => unfold VRs at hv; exact ⟨hv, p _ _ Ext.refl rp _ rf Agree.refl⟩
  | cons d ds => exact p.elim
theorem asEach_cons {e : Expr} {es : List Expr} {env : Env} (h : noStar e = true) : assignEach (e :: es) env = (false, assign e env) :: assignEach es env := by
  cases e <;> first | rfl | (cases h)
theorem asEach_len {env : Env} : ∀ {es : List Expr}, (∀ e ∈ es, noStar e = true) → (assignEach es env).length = es.length ∧ (assignEach es env).findIdx? (·.1) = none
  | [], _ => ⟨rfl, rfl⟩
  | e :: es, h => by
    obtain ⟨h1, h2⟩ := asEach_len (env := env) fun x hx => h x (List.mem_cons_of_mem _ hx)
    rw [asEach_cons (h e List.mem_cons_self)]
    refine ⟨by simp [h1], ?_⟩
    rw [List.findIdx?_cons]
    simp [h2]
theorem PGs_cons {e : Expr} {es : List Expr} {t : T} {ts : Ts} (hs : noStar e = true) (h1 : PG X e (rdG X.K cls W t.slots (asT C t))) (h2 : PGs X es (rdGs X.K cls W ts.slots (asTs C ts))) : PGs X (e :: es) (rdGs X.K cls W (t.slots ++ ts.slots) (asTs C (.cons t ts))) := by
  refine pgs_imp (pgs_cons h1 h2 (by rw [asEach_cons hs]; rfl)) fun vs σ H Q ⟨α, δ, h, ds, rp, rf, hv, p⟩ => ?_
  cases ds with
  | nil => exact p.elim
  | cons d ds =>
    unfold VRs at hv
    obtain ⟨v, us, rfl, hv1, hv2⟩ := hv
    refine ⟨v, us, rfl, α, δ, h, d, rp, rf, hv1, (Post.of_bind p).mono fun δ1 α1 H1 h1 e1 rp1 p1 σ1 rf1 ag1 => ?_⟩
    refine ⟨α1, δ1, h1, ds, rp1, rf1, hv2.ext e1, ?_⟩
    cases hq : asTs C ts ds δ1 h1 with
    | bad => rw [hq] at p1; exact p1.elim
    | exc n fs h' => rw [hq] at p1; exact p1.elim
    | ok δ2 h2 =>
      rw [hq] at p1
      exact fun α2 H2 e2 rp2 σ2 rf2 ag2 => p1 α2 H2 e2 rp2 σ2 rf2 (ag1.trans ag2)
theorem pg_seq {es : List Expr} {kk : Nat} {t : TGs} {n : Nat} {pos : Pos} (hc : X.calm = true) (h : PGs X es t) (hn : (assignEach es X.env).length = n) (hst : (assignEach es X.env).findIdx? (·.1) = none) :
    PG X (.Tuple es kk pos) (fun v σ H Q => gTup X.K n t v σ H Q ∨ gLst X.K n t v σ H Q) := by
  refine ⟨fun pins s σ H v u Q I r hw => ?_⟩
  rcases hw with hw | hw
  · exact (pg_tup hc h hn hst).run pins s σ H v u Q I r hw
  · exact (pg_lst hc h hn hst).run pins s σ H v u Q I r hw
theorem snd_tT (ok : Ok X c C cls W k) {es : List Expr} {ts : Ts} {kk : Nat} {pos : Pos} (hs : ∀ e ∈ es, noStar e = true) (hl : ts.len = es.length) (h : PGs X es (rdGs X.K cls W ts.slots (asTs C ts))) :
    PG X (.Tuple es kk pos) (rdG X.K cls W ts.slots (asT C (.tup ts))) := by
  obtain ⟨l1, l2⟩ := asEach_len (env := X.env) hs
  refine pg_imp (pg_seq ok.calm h l1 l2) fun v σ H Q ⟨α, δ, h, d, rp, rf, hv, p⟩ => ?_
  have fin : ∀ {xs : List D} {vs : List V}, VRs X.K α H xs vs → Post X.K cls W σ α H (if xs.length = ts.len then asTs C ts xs δ h else .bad) (fun δ' α' H' _ => ∀ σ', RepF X.K α' H' σ' δ' → Agree ts.slots σ σ' → Q σ' H') → vs.length = es.length ∧ rdGs X.K cls W ts.slots (asTs C ts) vs σ H Q := fun {xs vs} hx p1 => by
    by_cases hz : xs.length = ts.len
    · rw [if_pos hz] at p1
      exact ⟨by rw [hx.length, hz, hl], α, δ, h, xs, rp, rf, hx, p1⟩
    · rw [if_neg hz] at p1; exact p1.elim
  cases d <;> try exact p.elim
  · obtain ⟨a, vs, rfl, g1, g2⟩ := vr_tup hv
    obtain ⟨f1, f2⟩ := fin g2 p
    exact .inl ⟨a, vs, rfl, g1, f1, f2⟩
  · rename_i n
    have p1 : Post X.K cls W σ α H (match lget h n with | some xs => if xs.length = ts.len then asTs C ts xs δ h else .bad | none => .bad) (fun δ' α' H' _ => ∀ σ', RepF X.K α' H' σ' δ' → Agree ts.slots σ σ' → Q σ' H') := p
    cases hg : lget h n with
    | none => rw [hg] at p1; exact p1.elim
    | some xs =>
      rw [hg] at p1
      obtain ⟨a, vs, _, rfl, g1, g2⟩ := rp.ref hv (lget_some hg)
      obtain ⟨f1, f2⟩ := fin g2 p1
      exact .inr ⟨a, vs, rfl, SqL.of g1, f1, f2⟩
theorem set_any (hu : X.A.units + 1 < cLine) : PSet X fun o i v H Q => rSetL o i v H Q ∨ rSetD o i v H Q := fun pins s σ H o i v ov iv u Q I ro ri rv h => by
  rcases h with h | h
  · exact set_list pins s σ H o i v ov iv u Q I ro ri rv h
  · exact set_dict hu pins s σ H o i v ov iv u Q I ro ri rv h
theorem snd_tS (hu : X.A.units + 1 < cLine) {a b : Expr} {a' b' : E} {pos : Pos} (hs : noSlice b = true) (ha : PE X a (rdE X.K cls W (ev C a').v)) (hb : PE X b (rdE X.K cls W (ev C b').v)) : PG X (.Subscript a b pos) (rdG X.K cls W [] (asT C (.sub a' b'))) := by
  have hrel : ∀ v, assign (.Subscript a b pos) X.env v = (do
      let ov ← holding [v] (eval a X.env)
      let iv ← holding [v, ov] (eval b X.env)
      standAt pos
      holding [v, ov, iv] (setItem ov iv v)
      release [v, ov, iv] []) := fun v => by
    cases b <;> first | rfl | (cases hs)
  refine pg_imp (pg_sub ha hb (set_any hu) hrel) fun v σ H Q ⟨α, δ, h, d, rp, rf, hv, p⟩ => ?_
  refine rdE_mono (rd2 rp rf p) fun x H1 q => rdE_mono q fun y H2 ⟨α2, h2, d', e, rp2, rf2, hd, he, e2, p2⟩ => ?_
  unfold setItD at p2
  cases d' <;> try exact p2.elim
  rename_i n
  dsimp only at p2
  cases hx : h2[n]? with
  | none => rw [hx] at p2; exact p2.elim
  | some ob =>
    rw [hx] at p2
    cases ob with
    | lst xs =>
      cases e <;> try exact p2.elim
      rename_i i
      dsimp only at p2
      cases hj : ixN xs.length i with
      | none => rw [hj] at p2; exact p2.elim
      | some j =>
        rw [hj] at p2
        obtain ⟨aa, vs, g0, rfl, g1, g2⟩ := rp2.ref hd hx
        refine .inl ⟨aa, vs, i, j, rfl, vr_int he, g1, by rw [g2.length]; exact hj, ?_⟩
        have e3 := Ext.write (u := .lst (vs.set j v)) rp2 g0 (.lst g1)
        have hv2 := (hv.ext e2).ext e3
        exact p2 _ _ e3 (rp2.write g0 (.lst g1) ⟨_, upd_same, (g2.ext e3).set j hv2⟩) _ (rf2.ext e3) Agree.refl
    | dic kvs =>
      dsimp only at p2
      cases hk : keyOf e with
      | none => rw [hk] at p2; exact p2.elim
      | some k =>
        rw [hk] at p2
        dsimp only at p2
        split at p2
        · rename_i h' hp
          split at hp
          · rename_i hsz
            cases hp
            obtain ⟨a, ha, rfl⟩ := vr_ref hd
            obtain ⟨b, hb2, ws, w1, w2, w3⟩ := rp2.ob n _ hx
            rw [ha] at hb2; cases hb2
            have e3 := Ext.write (u := .dK (putK ws (toK k) v)) rp2 ha (.dK w1)
            have hv2 := (hv.ext e2).ext e3
            have kv : KVR X.K α2 (upd H2 a (.dK (putK ws (toK k) v))) toK kvs ws := ⟨w2, w3.ext e3⟩
            have kv' := kv.put (fun _ _ z => toK_inj z) hv2 (k := k)
            rw [keyOf_vr he hk]
            refine .inr ⟨a, _, rfl, DPut.k w1 (by rw [kv.length, SL_eq]; exact hsz), ?_⟩
            exact p2 _ _ e3 (rp2.write ha (.dK w1) ⟨_, upd_same, kv'.1, kv'.2⟩) _ (rf2.ext e3) Agree.refl
          · cases hp
        · exact p2.elim
    | dit _ => exact p2.elim
    | obj _ _ => exact p2.elim
    | lck _ => exact p2.elim
    | btp _ => exact p2.elim

/-! ### comprehensions -/
theorem relab_eq (scope : Scope) (env : Env) : relabel scope env = relab scope env.scope := rfl
theorem own_ix (N : List Str) : ∀ (l : List (Str × NameKind)), ∀ p ∈ ownOf N l, N[p.2]? = some p.1
  | [], p, h => by cases h
  | (n, kk) :: r, p, h => by
    unfold ownOf at h
    split at h
    · split at h
      · rename_i i hi
        rcases List.mem_cons.mp h with rfl | h
        · exact slot_get0 hi
        · exact own_ix N r p h
      · exact own_ix N r p h
    · exact own_ix N r p h
/-- the block's context -/
theorem Ok.blk (ok : Ok X c C cls W k) (scope : Scope) (hb : blkC c.N c.sc scope (ownOf c.N scope.names) = true) (s : Shared) (H : Hp) (D0 : Addr) (cl : List (Str × Addr)) (fp : List Addr) :
    Ok (X.blk s H scope (compEnvC scope cl D0 X.env) fp) (inner c scope) C cls (fun _ _ _ _ => False) k where
  hN := ok.hN
  nd := ok.nd
  sc := by
    show relabel scope X.env = relab scope c.sc
    rw [relab_eq, ok.sc]
  calm := ok.calm
  po := PassesOwn.never
  tk := takes0
  room := ok.room
  lv := ok.lv
  asn := fun x hx => by
    have hx' : x ∈ (inner c scope).asn := by simpa using hx
    unfold inner asnOf at hx'
    obtain ⟨_, h2⟩ := List.mem_filter.mp hx'
    have e : (X.blk s H scope (compEnvC scope cl D0 X.env) fp).env.scope = relab scope c.sc := by
      show relabel scope X.env = relab scope c.sc
      rw [relab_eq, ok.sc]
    rw [e]
    simp only [Bool.or_eq_true, Bool.and_eq_true] at h2
    rcases h2 with h2 | ⟨h2, h3⟩
    · unfold locB at h2
      split at h2
      · rename_i q; exact ⟨.inl q, .inr q⟩
      · cases h2
    · split at h2
      · rename_i q; exact ⟨.inr q, .inl h3⟩
      · cases h2
  fa := ⟨ok.fa.fn, ok.fa.gl, ok.fa.fr, ok.fa.ex, ⟨ok.fa.su.n, ok.fa.su.b, ok.fa.su.c, ok.fa.su.dg⟩, ok.fa.ac, ok.fa.nw, ok.fa.mt, ok.fa.cl⟩
theorem snd_comp (ok : Ok X c C cls W k) (S : Snd r C cls k) {elt tg iter : Expr} {ifs : List Expr} {scope : Scope} {pos : Pos} {e' : E} {t' : T} {i' : It} {o' : Oe} (hb : blkC c.N c.sc scope (ownOf c.N scope.names) = true) (hn : noSet iter = true)
    (he : r.e (inner c scope) elt = some e') (ht : r.t (inner c scope) tg = some t') (hi : r.it c iter = some i') (hit : okIt i' tg = true) (ho : cIfs r (inner c scope) ifs = some o') (hs : ∀ i ∈ t'.slots, i ∈ (ownOf c.N scope.names).map (·.2)) :
    PE X (.ListComp elt [⟨tg, iter, ifs, 0⟩] scope pos) (rdL X.K cls W (evL C (.comp e' ((ownOf c.N scope.names).map (·.2)) t' i' o'))) := by
  have bk : BlkOk X.N X.env.scope scope (ownOf c.N scope.names) := by rw [ok.hN, ok.sc]; exact blkOk_by hb
  refine pe_imp (pe_lc (own := ownOf c.N scope.names) ok.calm ok.nd (S.it _ _ _ hi X W tg hit ok) bk (fun s H D0 cl fp => S.t _ _ _ ht _ _ (ok.blk scope hb s H D0 cl fp))
    (tt := rdT X.K cls (fun _ _ _ _ => False) (tsO C o')) (fun s H D0 cl fp => ?_) (fun s H D0 cl fp => (S.e _ _ _ he _ _ (ok.blk scope hb s H D0 cl fp)).1) (fold_plain hn)) fun σ H Q q => comp_rd hs q
  have ok' := ok.blk scope hb s H D0 cl fp
  cases ifs with
  | nil =>
    cases ho
    exact pts_imp pts_nil fun σ H Q ⟨α, δ, h, rp, rf, p⟩ => p _ _ Ext.refl rp
  | cons e es =>
    cases es with
    | nil =>
      have hoo := S.o _ _ _ ho _ _ ok'
      cases o' with
      | none => exact hoo.2.elim
      | some e2 => exact pts_one hoo.2
    | cons _ _ => cases ho

/-! ### two comparisons in a row, f-strings -/
theorem last_plain {op op2 : CmpOp} {b d : Expr} (h : noSet d = true) : lastMarks [op, op2] [b, d] = false := by
  show behindInMarks op2 d = false
  exact in_plain h
theorem chain_core (ok : Ok X c C cls W k) {a' b' d' : E} {o o2 : COp} {σ : L2.St} {H : Hp} {Z : D → List Addr → Hp → DH → Prop} {α : List Addr} {δ : Fr} {h : DH} {Q : VK} (rp : RepH X.K α H h) (rf : RepF X.K α H σ δ)
    (p : Post X.K cls W σ α H ((ev C (.chain o o2 a' b' d')).v δ h) Z) (fin : ∀ b α' H' h', RepH X.K α' H' h' → Z (.bl b) α' H' h' → Q (.bl b) H') :
    tChain (rB2 X.K fun h => cmpD h o) (rB2 X.K fun h => cmpD h o2) (rdE X.K cls W (ev C a').v) (rdE X.K cls W (ev C b').v) (rdE X.K cls W (ev C d').v) σ H Q := by
  refine rdE_mono (rd2 (va := (ev C a').v) (vb := (ev C b').v) (Z := Z) (g := fun x y h => match cmpD h o x y with
    | some true => ((ev C d').v δ h).bind fun z h => Out.opt ((cmpD h o2 y z).map D.bl) h
    | some false => Out.ok (D.bl false) h
    | none => Out.bad) rp rf p) fun x H1 q => rdE_mono q fun y H2 ⟨α2, h2, d, e, rp2, rf2, hd, he, e2, p2⟩ => ?_
  cases hb : cmpD h2 o d e with
  | none => rw [hb] at p2; exact p2.elim
  | some bb =>
    rw [hb] at p2
    refine ⟨α2, h2, d, e, bb, rp2, hd, he, hb, bb, rfl, ?_⟩
    cases bb with
    | false =>
      rw [if_neg Bool.false_ne_true]
      exact fin _ _ _ _ rp2 (p2 _ _ Ext.refl rp2)
    | true =>
      rw [if_pos rfl]
      refine rdE_mono (rd1 rp2 rf2 p2) fun z H3 ⟨α3, h3, dz, rp3, rf3, hz, e3, p3⟩ => ?_
      obtain ⟨r, hr, qq⟩ := Post.opt p3 rp3
      obtain ⟨b3, hb3, rfl⟩ := Option.map_eq_some_iff.mp hr
      exact ⟨α3, h3, e, dz, b3, rp3, he.ext e3, hz, hb3, fin _ _ _ _ rp3 qq⟩
theorem snd_chain (ok : Ok X c C cls W k) {a b d : Expr} {a' b' d' : E} {op op2 : CmpOp} {o o2 : COp} {pos : Pos} (ho : cCo op = some o) (ho2 : cCo op2 = some o2) (hs : noSet d = true) (ha : PE X a (rdE X.K cls W (ev C a').v)) (hb : PE X b (rdE X.K cls W (ev C b').v)) (hd : PE X d (rdE X.K cls W (ev C d').v)) :
    PE X (.Compare a [op, op2] [b, d] pos) (rdE X.K cls W (ev C (.chain o o2 a' b' d')).v) ∧ PT X (.Compare a [op, op2] [b, d] pos) (rdT X.K cls W (ev C (.chain o o2 a' b' d')).t) := by
  rw [toCo_of ho, toCo_of ho2]
  refine ⟨pe_imp (pe_chain (cmp_ok ok.room.units o) (cmp_ok ok.room.units o2) ha hb hd (last_plain hs)) fun σ H Q ⟨α, δ, h, rp, rf, p⟩ => ?_, pt_imp (pt_chain (cmp_ok ok.room.units o) (cmp_ok ok.room.units o2) ha hb hd (last_plain hs)) fun σ H Q ⟨α, δ, h, rp, rf, p⟩ => ?_⟩
  · exact chain_core ok rp rf p fun b α' H' h' rp' q => q _ rfl
  · refine chain_core ok rp rf (Post.of_bind p) fun b α' H' h' rp' q => ?_
    obtain ⟨b2, hb2, q⟩ := Post.opt q rp'
    cases hb2
    exact ⟨_, rfl, q⟩
theorem fj (S : Snd r C cls k) {c : CC} (ok : Ok X c C cls W k) : ∀ (vs : List Expr) (es : Es), cF r c vs = some es → ∃ ts, PJ X vs ts ∧ ∀ (acc : List Nat) (σ : L2.St) (H : Hp) (Q : Str → Hp → Prop),
    (∃ α δ h, RepH X.K α H h ∧ RepF X.K α H σ δ ∧ Post X.K cls W σ α H (evF C es acc δ h) fun s _ H' _ => Q (toS s) H') → tJs ts (toS acc) σ H Q := by
  intro vs
  induction vs with
  | nil =>
    intro es h
    cases h
    exact ⟨[], .nil, fun acc σ H Q ⟨α, δ, h, rp, rf, p⟩ => p _ _ Ext.refl rp⟩
  | cons v vs ih =>
    intro es h
    unfold cF at h
    split at h
    · rename_i hz; cases hz
    · rename_i z _ _ es0 hz
      cases hz
      obtain ⟨es', h1, rfl⟩ := Option.map_eq_some_iff.mp h
      obtain ⟨ts, g1, g2⟩ := ih es' h1
      refine ⟨_, .cons pe_str g1, fun acc σ H Q ⟨α, δ, h, rp, rf, p⟩ => ?_⟩
      have p' : Post X.K cls W σ α H (match fmt1 acc (.str z.cps.toList) with
        | some a => evF C es' a δ h
        | none => .bad) fun s _ H' _ => Q (toS s) H' := p
      unfold fmt1 at p'
      dsimp only at p'
      by_cases hl : acc.length + z.cps.toList.length ≤ SL
      · rw [if_pos hl] at p'
        have e : toS acc ++ z = toS (acc ++ z.cps.toList) := by
          rw [← app_toS, toS_cps]
        refine ⟨z, rfl, ?_, ?_⟩
        · rw [e, toS_length, SL_eq, List.length_append]; exact hl
        · rw [e]
          exact g2 _ _ _ _ ⟨α, δ, h, rp, rf, p'⟩
      · rw [if_neg hl] at p'; exact p'.elim
    · rename_i e _ es0 hz
      cases hz
      split at h
      · rename_i e' es' h1 h2
        cases h
        obtain ⟨ts, g1, g2⟩ := ih es' h2
        refine ⟨_, .cons (pe_fmt (S.e _ _ _ h1 X _ ok).1) g1, fun acc σ H Q ⟨α, δ, h, rp, rf, p⟩ => ?_⟩
        refine rdE_mono (rd1 (va := (ev C e').v) (g := fun x h => match fmt1 acc x with
          | some a => evF C es' a δ h
          | none => .bad) rp rf p) fun x H1 ⟨α1, h1, d, rp1, rf1, hx, e1, p1⟩ => ?_
        cases d <;> simp only [fmt1] at p1 <;> try exact p1.elim
        · rename_i i
          rw [vr_int hx]
          by_cases hl : i.natAbs.log2 < 1920 ∧ acc.length + (strOf i).length ≤ SL
          · rw [if_pos hl] at p1
            have e : toS acc ++ (toString i : Str) = toS (acc ++ strOf i) := by rw [strOf_eq, app_toS]
            refine .inr ⟨i, rfl, hl.1, toString i, rfl, ?_, ?_⟩
            · rw [e, toS_length, SL_eq, List.length_append]; exact hl.2
            · rw [e]
              exact g2 _ _ _ _ ⟨α1, δ, h1, rp1, rf1, p1⟩
          · rw [if_neg hl] at p1; exact p1.elim
        · rename_i z
          rw [vr_str hx]
          by_cases hl : acc.length + z.length ≤ SL
          · rw [if_pos hl] at p1
            refine .inl ⟨toS z, rfl, by rw [toS_length, SL_eq]; omega, toS z, rfl, ?_, ?_⟩
            · rw [app_toS, toS_length, SL_eq, List.length_append]; exact hl
            · rw [app_toS]
              exact g2 _ _ _ _ ⟨α1, δ, h1, rp1, rf1, p1⟩
          · rw [if_neg hl] at p1; exact p1.elim
      · cases h
    · cases h
theorem snd_fstr (S : Snd r C cls k) {c : CC} (ok : Ok X c C cls W k) {v1 v2 : Expr} {vs : List Expr} {pos : Pos} {es : Es} (h : cF r c (v1 :: v2 :: vs) = some es) : PE X (.JoinedStr (v1 :: v2 :: vs) pos) (rdE X.K cls W (ev C (.fstr es)).v) := by
  obtain ⟨ts, g1, g2⟩ := fj S ok _ _ h
  refine pe_imp (pe_joined g1) fun σ H Q ⟨α, δ, h, rp, rf, p⟩ => ?_
  have e : Str.empty = toS [] := rfl
  rw [e]
  refine g2 [] σ H _ ⟨α, δ, h, rp, rf, (Post.of_bind p).mono fun s α1 H1 h1 e1 rp1 p1 => ?_⟩
  exact p1 _ _ Ext.refl rp1 _ rfl
end
end FD

set_option Elab.async false
set_option linter.all false
set_option maxRecDepth 100000
set_option maxHeartbeats 1000000
/-! The D layer, 12b: text[::-1], list(map(ord, text)), sum(accumulate(list)). -/
namespace FD
open PySem PySem.Spec PyProof.Rows L2
section
variable {X : Cx} {c : CC} {C : Cn} {cls : Nat → Option Addr} {W : WX} {k : Nat} {r : Rec}
theorem gf_of (ok : Ok X c C cls W k) {x : Str} (h : glFree c x = true) : Gl X x ∧ X.mg x = none := by
  unfold glFree at h
  simp only [Bool.and_eq_true] at h
  exact ⟨gl_of (by rw [ok.sc]; exact h.1.2), ok.fa.fr _ h.2⟩
theorem snd_revS {e : Expr} {e' : E} {j : Nat} {p1 p2 p3 pos : Pos} (he : PE X e (rdE X.K cls W (ev C e').v)) : PE X (.Subscript e (.Slice none none (some (.UnaryOp .USub (.Constant (.int 1) j p1) p2)) p3) pos) (rdE X.K cls W (ev C (.revS e')).v) := by
  refine pe_imp (pe_revS he) fun σ H Q ⟨α, δ, h, rp, rf, p⟩ => ?_
  refine rdE_mono (rd1 rp rf p) fun x H1 ⟨α1, h1, d, rp1, rf1, hx, e1, p1⟩ => ?_
  obtain ⟨v, hv, q⟩ := Post.opt p1 rp1
  cases d <;> simp only [revD] at hv <;> try contradiction
  rename_i s
  split at hv
  · rename_i hs
    cases hv
    have hx' : x = .str (toS s) := hx
    refine ⟨toS s, hx', by rw [toS_length, SL_eq]; exact hs, q _ ?_⟩
    show V.str _ = V.str _
    simp
  · cases hv
theorem vrs_ords {K : PySem.W.Frag} {α : List Addr} {H : Hp} : ∀ s : List Nat, VRs K α H (s.map fun c => D.int ((c : Nat) : Int)) (s.map fun c => V.int ((c : Nat) : Int))
  | [] => rfl
  | c :: s => ⟨_, _, rfl, rfl, vrs_ords s⟩
theorem snd_ordL (ok : Ok X c C cls W k) {e : Expr} {e' : E} {p p2 p3 pos2 pos : Pos} (hl : glFree c "list" = true) (hm : glFree c "map" = true) (ho : glFree c "ord" = true) (hs : noStar e = true) (he : PE X e (rdE X.K cls W (ev C e').v)) :
    PE X (.Call (.Name "list" p) [.Call (.Name "map" p2) [.Name "ord" p3, e] [] pos2] [] pos) (rdE X.K cls W (ev C (.ordL e')).v) := by
  obtain ⟨l1, l2⟩ := gf_of ok hl
  obtain ⟨m1, m2⟩ := gf_of ok hm
  obtain ⟨o1, o2⟩ := gf_of ok ho
  refine pe_imp (pe_ordL ok.calm l1 l2 m1 m2 o1 o2 he (by rw [star_cons (by rfl)]) (by rw [star_cons hs]; rfl)) fun σ H Q ⟨α, δ, h, rp, rf, p⟩ => ?_
  refine rdE_mono (rd1 rp rf p) fun x H1 ⟨α1, h1, d, rp1, rf1, hx, e1, p1⟩ => ?_
  cases d <;> try exact p1.elim
  rename_i s
  simp only [ordD] at p1
  split at p1
  · rename_i hs
    have hx' : x = .str (toS s) := hx
    refine ⟨toS s, hx', by rw [toS_length, SL_eq]; exact hs, fun a ha => ?_⟩
    rw [toS_list]
    exact fin1 (fun α' H' e r v hv => p1 α' H' e r v hv) rp1 ha (vrs_ords s)
  · exact p1.elim
theorem vrs_ints {K : PySem.W.Frag} {α : List Addr} {H : Hp} : ∀ {xs : List D} {ns : List Int} {vs : List V}, intsOf xs = some ns → VRs K α H xs vs → vs = ns.map V.int
  | [], ns, vs, h, hv => by cases h; exact hv
  | .int i :: r, ns, vs, h, hv => by
    obtain ⟨ms, h1, rfl⟩ := Option.map_eq_some_iff.mp h
    obtain ⟨v, us, rfl, e1, e2⟩ := hv
    cases (show v = .int i from e1)
    rw [vrs_ints h1 e2]
    rfl
  | .non :: _, _, _, h, _ => by cases h
  | .bl _ :: _, _, _, h, _ => by cases h
  | .str _ :: _, _, _, h, _ => by cases h
  | .tup _ :: _, _, _, h, _ => by cases h
  | .ref _ :: _, _, _, h, _ => by cases h
  | .fl _ :: _, _, _, h, _ => by cases h
theorem snd_accS (ok : Ok X c C cls W k) {e : Expr} {e' : E} {y : Str} {p p2 pos2 pos : Pos} (hl : glFree c "sum" = true) (hy : glB c.sc y = true) (hn : nameOk y = true) (hc : c.acs.contains y = true) (hs : noStar e = true) (he : PE X e (rdE X.K cls W (ev C e').v)) :
    PE X (.Call (.Name "sum" p) [.Call (.Name y p2) [e] [] pos2] [] pos) (rdE X.K cls W (ev C (.accS e')).v) := by
  obtain ⟨l1, l2⟩ := gf_of ok hl
  refine pe_imp (pe_accS ok.calm l1 l2 (gl_of (by rw [ok.sc]; exact hy)) (ok.fa.ac y hc) (name_ok hn).1 he (by rw [star_cons hs]; rfl)) fun σ H Q ⟨α, δ, h, rp, rf, p⟩ => ?_
  refine rdE_mono (rd1 rp rf p) fun x H1 ⟨α1, h1, d, rp1, rf1, hx, e1, p1⟩ => ?_
  obtain ⟨v, hv, q⟩ := Post.opt p1 rp1
  cases d <;> simp only [accD] at hv <;> try contradiction
  rename_i n
  split at hv
  · rename_i xs hx2
    split at hv
    · rename_i ns hns
      split at hv
      · rename_i hb
        cases hv
        simp only [Bool.and_eq_true, List.all_eq_true, decide_eq_true_eq] at hb
        obtain ⟨a, ha, rfl⟩ := vr_ref hx
        unfold lget at hx2
        split at hx2
        · rename_i xs' hg
          cases hx2
          obtain ⟨a', ha', vs, hl, hvs⟩ := rp1.ob n _ hg
          have ea : a' = a := by rw [ha] at ha'; exact (Option.some.inj ha').symm
          subst ea
          refine ⟨a', ns, rfl, .inl (.inl ?_), hb.1, hb.2, q _ rfl⟩
          rw [← vrs_ints hns hvs]
          exact hl
        · cases hx2
      · cases hv
    · cases hv
  · cases hv
theorem asc_arr {s : List Nat} (h : asc s = true) : ∀ c ∈ s, c < 128 := fun c hc => by
  have := List.all_eq_true.mp h c hc
  simpa using this
theorem all_congr {s : List Nat} (h : asc s = true) {f g : Nat → Bool} (e : (List.range 128).all (fun c => f c == g c) = true) : s.all f = s.all g := by
  rw [Bool.eq_iff_iff, List.all_eq_true, List.all_eq_true]
  have k : ∀ c ∈ s, f c = g c := fun c hc => by
    have := List.all_eq_true.mp e c (List.mem_range.mpr (asc_arr h c hc))
    exact beq_iff_eq.mp this
  exact ⟨fun z c hc => by rw [← k c hc]; exact z c hc, fun z c hc => by rw [k c hc]; exact z c hc⟩
theorem len_pos (s : List Nat) : decide ((toS s).length > 0) = !s.isEmpty := by
  rw [toS_length]
  cases s <;> rfl
theorem t_ascii (s : List Nat) : Txt.isascii (toS s) = asc s := by
  unfold Txt.isascii asc
  rw [← Array.all_toList, toS_list]
theorem t_alnum {s : List Nat} (h : asc s = true) : Txt.isalnum (toS s) = (!s.isEmpty && s.all alnC) := by
  unfold Txt.isalnum
  rw [len_pos, ← Array.all_toList, toS_list, all_congr (g := alnC) h (by decide +kernel)]
theorem t_digit {s : List Nat} (h : asc s = true) : Txt.isdigit (toS s) = (!s.isEmpty && s.all digC) := by
  unfold Txt.isdigit
  rw [len_pos, ← Array.all_toList, toS_list, all_congr (g := digC) h (by decide +kernel)]
theorem low_table : (List.range 128).all (fun c => Unicode.lowerOf c == [lowC c]) = true := by decide +kernel
theorem t_lower {s : List Nat} (h : asc s = true) : Txt.lower (toS s) = toS (s.map lowC) := by
  unfold Txt.lower
  congr 1
  unfold placed
  have e : ((toS s).cps.mapIdx fun i _ => (Unicode.lowerAt (toS s).cps i).toArray) = (s.map fun c => #[lowC c]).toArray := by
    apply Array.ext
    · simp
    · intro i h1 h2
      have hi : i < s.length := by simpa using h1
      have hc := asc_arr h _ (List.getElem_mem hi)
      have ht := beq_iff_eq.mp (List.all_eq_true.mp low_table _ (List.mem_range.mpr hc))
      have hne : (s[i] == 0x3A3) = false := by
        rw [beq_eq_false_iff_ne]; omega
      have hl : Unicode.lowerAt (toS s).cps i = [lowC s[i]] := by
        unfold Unicode.lowerAt
        have : (toS s).cps[i]? = some s[i] := by simp [hi]
        rw [this]
        simp only [hne, Bool.false_and]
        exact ht
      simp [hl]
  rw [e]
  apply Array.ext'
  simp only [Array.toList_flatten, List.map_map, Function.comp_def]
  have z : ∀ s : List Nat, (s.map fun x => [lowC x]).flatten = s.map lowC := fun s => by
    induction s with
    | nil => rfl
    | cons c s ih => simp [ih]
  exact z s
theorem snd_tm {o : Expr} {o' : E} {m : Str} {q : Tm} {apos pos : Pos} (hq : cTm.lookup m = some q) (hb : plainB o = true) (hl : (apos.endLine == pos.line) = true) (ho : PE X o (rdE X.K cls W (ev C o').v)) :
    PE X (.Call (.Attribute o m apos) [] [] pos) (rdE X.K cls W (ev C (.tm q o')).v) := by
  have key : ∀ {r : V → List V → Hp → VK → Prop}, PE X (.Call (.Attribute o m apos) [] [] pos) (tM0 r (rdE X.K cls W (ev C o').v)) → (∀ (s : List Nat) (v : D) (H : Hp) (Q : VK), tmD q (.str s) = some v → (∀ α, ∃ u, VR X.K α H v u ∧ (Q u H → r (.str (toS s)) [] H Q))) → PE X (.Call (.Attribute o m apos) [] [] pos) (rdE X.K cls W (ev C (.tm q o')).v) := by
    intro r h1 h2
    refine pe_imp h1 fun σ H Q ⟨α, δ, h, rp, rf, p⟩ => ?_
    refine rdE_mono (rd1 rp rf p) fun x H1 ⟨α1, h1, d, rp1, rf1, hx, e1, p1⟩ => ?_
    obtain ⟨v, hv, q'⟩ := Post.opt p1 rp1
    have hs : ∃ s, d = .str s := by
      cases q <;> cases d <;> simp only [tmD] at hv <;> first | exact ⟨_, rfl⟩ | contradiction
    obtain ⟨s, rfl⟩ := hs
    have hx' : x = .str (toS s) := hx
    obtain ⟨u, g1, g2⟩ := h2 s v H1 Q hv α1
    rw [hx']
    exact ⟨⟨_, rfl⟩, g2 (q' u g1)⟩
  unfold cTm at hq
  simp only [List.lookup] at hq
  split at hq
  · rename_i e
    cases hq
    cases beq_iff_eq.mp e
    refine key (pe_m0 F.slot_str_isascii F.type_str_isascii mt_isascii ho (base_plain hb) hl) fun s v H Q hv α => ?_
    cases hv
    exact ⟨_, rfl, fun q => ⟨_, rfl, rfl, trivial, by rw [t_ascii]; exact q⟩⟩
  · split at hq
    · rename_i e
      cases hq
      cases beq_iff_eq.mp e
      refine key (pe_m0 F.slot_str_isalnum F.type_str_isalnum mt_isalnum ho (base_plain hb) hl) fun s v H Q hv α => ?_
      simp only [tmD] at hv
      split at hv
      · rename_i ha
        cases hv
        exact ⟨_, rfl, fun q => ⟨_, rfl, rfl, trivial, by rw [t_alnum ha]; exact q⟩⟩
      · cases hv
    · split at hq
      · rename_i e
        cases hq
        cases beq_iff_eq.mp e
        refine key (pe_m0 F.slot_str_lower F.type_str_lower mt_lower ho (base_plain hb) hl) fun s v H Q hv α => ?_
        simp only [tmD] at hv
        split at hv
        · rename_i ha
          cases hv
          exact ⟨_, rfl, fun q => ⟨_, rfl, rfl, by rw [toS_length]; exact ha.2, by rw [t_lower ha.1]; exact q⟩⟩
        · cases hv
      · split at hq
        · rename_i e
          cases hq
          cases beq_iff_eq.mp e
          refine key (pe_m0 F.slot_str_isdigit F.type_str_isdigit mt_isdigit ho (base_plain hb) hl) fun s v H Q hv α => ?_
          simp only [tmD] at hv
          split at hv
          · rename_i ha
            cases hv
            exact ⟨_, rfl, fun q => ⟨_, rfl, rfl, trivial, by rw [t_digit ha]; exact q⟩⟩
          · cases hv
        · cases hq
end
end FD

set_option Elab.async false
set_option linter.all false
set_option maxRecDepth 100000
set_option maxHeartbeats 1000000
/-! The D layer, 12c: instances of own classes. -/
namespace FD
open PySem PySem.Spec PyProof.Rows L2
section
variable {K : PySem.W.Frag} {α : List Addr} {H : Hp}
theorem key_iff {g : List Nat} {f : Str} : toS g = f ↔ g = toN f := ⟨fun h => by rw [← h], fun h => by rw [h, toS_cps]⟩
theorem fld_vr {f : Str} : ∀ {fs : List (List Nat × D)} {gs : List (Str × V)}, gs.map (·.1) = fs.map (fun p => toS p.1) → VRs K α H (fs.map (·.2)) (gs.map (·.2)) → OVR K α H (fs.lookup (toN f)) (gs.lookup f)
  | [], [], _, _ => rfl
  | [], g :: gs, e, _ => by simp at e
  | p :: fs, [], e, _ => by simp at e
  | p :: fs, g :: gs, e, hv => by
    simp only [List.map_cons, List.cons.injEq] at e
    obtain ⟨v, r, e2, h1, h2⟩ := hv
    simp only [List.map_cons, List.cons.injEq] at e2
    obtain ⟨rfl, rfl⟩ := e2
    obtain ⟨pn, pv⟩ := p
    obtain ⟨gn, gv⟩ := g
    dsimp only at e h1
    rw [List.lookup_cons, List.lookup_cons]
    by_cases z : toN f = pn
    · have z' : f = gn := by rw [e.1, ← z, toS_cps]
      have b1 : (toN f == pn) = true := by simp [z]
      have b2 : (f == gn) = true := by simp [z']
      rw [b1, b2]
      exact ⟨gv, rfl, h1⟩
    · have z' : ¬ f = gn := fun y => z (by rw [y, e.1, toN, toS_list])
      have b1 : (toN f == pn) = false := by simpa using z
      have b2 : (f == gn) = false := by simpa using z'
      rw [b1, b2]
      exact fld_vr e.2 h2
theorem put_vr {f : Str} {d : D} {v : V} (hd : VR K α H d v) : ∀ {fs : List (List Nat × D)} {gs : List (Str × V)}, gs.map (·.1) = fs.map (fun p => toS p.1) → VRs K α H (fs.map (·.2)) (gs.map (·.2)) →
    (putF f v gs).map (·.1) = (putFd (toN f) d fs).map (fun p => toS p.1) ∧ VRs K α H ((putFd (toN f) d fs).map (·.2)) ((putF f v gs).map (·.2))
  | [], [], _, _ => ⟨by show [f] = [toS (toN f)]; rw [toS_cps], VRs.one hd⟩
  | [], g :: gs, e, _ => by simp at e
  | p :: fs, [], e, _ => by simp at e
  | p :: fs, g :: gs, e, hv => by
    simp only [List.map_cons, List.cons.injEq] at e
    obtain ⟨w, r, e2, h1, h2⟩ := hv
    simp only [List.map_cons, List.cons.injEq] at e2
    obtain ⟨rfl, rfl⟩ := e2
    obtain ⟨pn, pv⟩ := p
    obtain ⟨gn, gv⟩ := g
    dsimp only at e h1
    unfold putF putFd
    by_cases z : pn = toN f
    · have z' : gn = f := by rw [e.1, z, toS_cps]
      rw [if_pos z, if_pos z']
      exact ⟨by simp only [List.map_cons, e.1, e.2], v, gs.map (·.2), rfl, hd, h2⟩
    · have z' : ¬ gn = f := fun y => z (by rw [← y, e.1, toN, toS_list])
      rw [if_neg z, if_neg z']
      obtain ⟨k1, k2⟩ := put_vr hd e.2 h2
      exact ⟨by simp only [List.map_cons, e.1, k1], gv, _, rfl, h1, k2⟩
theorem put_len {f : Str} {v : V} (gs : List (Str × V)) : (putF f v gs).length ≤ gs.length + 1 := by
  induction gs with
  | nil => simp [putF]
  | cons g gs ih =>
    obtain ⟨gn, gv⟩ := g
    unfold putF
    split <;> simp <;> omega
/-- an instance's place -/
theorem obj_at {h : DH} (rp : RepH K α H h) {n : Nat} {x : V} (hx : VR K α H (.ref n) x) {cn : List Nat} {fs : List (List Nat × D)} (e : oget h n = some (cn, fs)) :
    ∃ (a dx : Addr) (gs : List (Str × V)), α[n]? = some a ∧ x = .ref a ∧ H a = some (.ins (He.ga K (toS cn)) dx gs) ∧ gs.map (·.1) = fs.map (fun p => toS p.1) ∧ VRs K α H (fs.map (·.2)) (gs.map (·.2)) := by
  obtain ⟨a, ha, rfl⟩ := vr_ref hx
  unfold oget at e
  split at e
  · rename_i cn' fs' q
    cases e
    obtain ⟨b, hb, dx, gs, h1, h2, h3⟩ := rp.ob n _ q
    rw [ha] at hb; cases hb
    exact ⟨a, dx, gs, ha, rfl, h1, h2, h3⟩
  · cases e
end
section
variable {X : Cx} {c : CC} {C : Cn} {cls : Nat → Option Addr} {W : WX} {k : Nat} {r : Rec}
theorem cn_of {cn : List Nat} {l : List Str} (h : (l.map toN).contains cn = true) : ∃ x, l.contains x = true ∧ cn = toN x := by
  have := List.mem_of_elem_eq_true h
  obtain ⟨x, hx, rfl⟩ := List.mem_map.mp this
  exact ⟨x, List.elem_eq_true_of_mem hx, rfl⟩
theorem snd_fld (ok : Ok X c C cls W k) {o : Expr} {o' : E} {f : Str} {pos : Pos} (hb : plainB o = true) (hf : c.fds.contains f = true) (ho : PE X o (rdE X.K cls W (ev C o').v)) :
    PE X (.Attribute o f pos) (rdE X.K cls W (ev C (.fld (c.cns.map toN) o' (toN f))).v) := by
  refine pe_imp (pe_fld ho (base_plain hb)) fun σ H Q ⟨α, δ, h, rp, rf, p⟩ => ?_
  refine rdE_mono (rd1 rp rf p) fun x H1 ⟨α1, h1, d, rp1, rf1, hx, e1, p1⟩ => ?_
  obtain ⟨v, hv, q⟩ := Post.opt p1 rp1
  unfold fldD at hv
  split at hv
  · rename_i n
    split at hv
    · rename_i cn fs ho2
      split at hv
      · rename_i hc
        obtain ⟨a, dx, gs, _, rfl, g1, g2, g3⟩ := obj_at rp1 hx ho2
        obtain ⟨y, hy, rfl⟩ := cn_of hc
        have := fld_vr (f := f) g2 g3
        rw [hv] at this
        obtain ⟨w, hw, q2⟩ := this
        rw [toS_cps] at g1
        obtain ⟨c1, c2⟩ := ok.fa.cl y hy
        exact ⟨a, _, dx, gs, w, rfl, g1, c1, c2 f hf, hw, q w q2⟩
      · cases hv
    · cases hv
  · cases hv
theorem ds_of {l : List (Str × Nat)} {cn : List Nat} {f : Nat} (h : (l.map fun p => (toN p.1, p.2)).lookup cn = some f) : l.lookup (toS cn) = some f := by
  induction l with
  | nil => cases h
  | cons p l ih =>
    obtain ⟨x, g⟩ := p
    rw [List.map_cons, List.lookup_cons] at h
    rw [List.lookup_cons]
    by_cases z : cn = toN x
    · have b1 : (cn == toN x) = true := by simp [z]
      rw [b1] at h
      have b2 : (toS cn == x) = true := by rw [z, toS_cps]; simp
      rw [b2]
      exact h
    · have b1 : (cn == toN x) = false := by simpa using z
      rw [b1] at h
      have b2 : (toS cn == x) = false := by
        rw [beq_eq_false_iff_ne]
        exact fun y => z (key_iff.mp y)
      rw [b2]
      exact ih h
theorem spD_of {f : List D → DH → Out D} {K : PySem.W.Frag} {σ : L2.St} {Q : VK} {α1 : List Addr} {H1 : Hp} {h1 : DH} {ds : List D} {xs : List V} (rp1 : RepH K α1 H1 h1) (hx : VRs K α1 H1 ds xs) (p1 : Post K cls W σ α1 H1 (f ds h1) (fun d α' H' _ => ∀ v, VR K α' H' d v → Q v H')) : spD K cls f xs H1 Q (WE W σ) := by
  refine ⟨α1, ds, h1, rp1, hx, ?_⟩
  cases hc : f ds h1 with
  | bad => rw [hc] at p1; exact p1.elim
  | ok d h' => rw [hc] at p1; exact p1
  | exc n fs h' => rw [hc] at p1; exact p1
theorem snd_meth (ok : Ok X c C cls W k) {o : Expr} {o' : E} {m : Str} {ds : List (Str × Nat)} {es : List Expr} {es' : Es} {apos pos : Pos} (hb : plainB o = true) (hl : (apos.endLine == pos.line) = true) (hm : c.mths.lookup m = some ds) (hfew : es.length < 30)
    (ho : PE X o (rdE X.K cls W (ev C o').v)) (h : PA X es (rdEs X.K cls W (evs C es'))) (hst : ∀ e ∈ es, noStar e = true) (h0 : es = [] → es' = .nil) :
    PE X (.Call (.Attribute o m apos) es [] pos) (rdE X.K cls W (ev C (.meth (toN m) (ds.map fun p => (toN p.1, p.2)) o' es')).v) := by
  have key : ∀ {t : TA}, (∀ σ H Q, rdEs X.K cls W (evs C es') σ H Q → t σ H Q) → ∀ σ H Q, rdE X.K cls W (ev C (.meth (toN m) (ds.map fun p => (toN p.1, p.2)) o' es')).v σ H Q → tMethA X m k (WE W) (rdE X.K cls W (ev C o').v) t σ H Q := by
    intro t ht σ H Q ⟨α, δ, h, rp, rf, p⟩
    refine rdE_mono (rd1 rp rf p) fun x H1 ⟨α1, h1, d, rp1, rf1, hx, e1, p1⟩ => ?_
    cases hmd : methD h1 (toN m) (ds.map fun p => (toN p.1, p.2)) d with
    | none => rw [hmd] at p1; exact p1.elim
    | some f =>
      rw [hmd] at p1
      have p1' : Post X.K cls W σ α1 H1 ((evs C es' δ h1).bind fun xs h => C.fn f (d :: xs) h) fun d α' H' _ => ∀ v, VR X.K α' H' d v → Q v H' := p1
      unfold methD at hmd
      split at hmd
      · rename_i n
        split at hmd
        · rename_i cn fs ho2
          split at hmd
          · rename_i hno
            obtain ⟨a, dx, gs, ha, rfl, g1, g2, g3⟩ := obj_at rp1 hx ho2
            obtain ⟨g, fd, ps, c1, c2, c3, c4⟩ := ok.fa.mt m ds (toS cn) f hm (ds_of hmd)
            have lk := fld_vr (f := m) g2 g3
            rw [Option.isNone_iff_eq_none.mp hno] at lk
            refine ⟨a, _, dx, g, gs, fd, ps, _, rfl, g1, lk, c1, c2, c4, c3, ht _ _ _ ?_⟩
            exact rdEs_mono (rs1 rp1 rf1 p1') fun xs H2 ⟨α2, h2, es2, rp2, rf2, hxs, e2, p2⟩ => spD_of rp2 (ds := .ref n :: es2) ⟨_, _, rfl, hx.ext e2, hxs⟩ p2
          · cases hmd
        · cases hmd
      · cases hmd
  cases es with
  | nil =>
    rw [h0 rfl] at key ⊢
    exact pe_imp (pe_methA0 ho ok.room (fun σ => passAt ok.tk σ) (base_plain hb) hl) (key fun σ H Q ⟨α, δ, h, rp, rf, p⟩ => by
      show Q [] H
      exact p α H Ext.refl rp [] rfl)
  | cons e rest => exact pe_imp (pe_methA ho ok.room (fun σ => passAt ok.tk σ) h (star_cons (hst e List.mem_cons_self)) (star_plain fun y hy => hst y (List.mem_cons_of_mem _ hy)) (base_plain hb) hl (few_ok hst hfew)) (key fun _ _ _ q => q)
theorem made_ext {K : PySem.W.Frag} {α : List Addr} {H : Hp} {h : DH} (rp : RepH K α H h) {x dx : Addr} (hx : H x = none) (hdx : H dx = none) (ne : dx ≠ x) (cn : List Nat) :
    Ext α H (α ++ [x]) (upd (upd H dx (.own x)) x (.ins (He.ga K (toS cn)) dx [])) ∧ RepH K (α ++ [x]) (upd (upd H dx (.own x)) x (.ins (He.ga K (toS cn)) dx [])) (h ++ [.obj cn []]) := by
  have hx2 : upd H dx (.own x) x = none := by rw [upd_ne (Ne.symm ne)]; exact hx
  have e1 : Ext α H α (upd H dx (.own x)) := Ext.laid hdx
  have e2 : Ext α (upd H dx (.own x)) α (upd (upd H dx (.own x)) x (.ins (He.ga K (toS cn)) dx [])) := Ext.laid hx2
  have r2 := (rp.laid (o := .own x) hdx).laid (o := .ins (He.ga K (toS cn)) dx []) hx2
  have nm : x ∉ α := rp.free hx
  exact ⟨(e1.trans e2).take hx nm, r2.add nm ⟨dx, [], upd_same, rfl, rfl⟩⟩
theorem snd_mk (ok : Ok X c C cls W k) {x : Str} {f : Nat} {es : List Expr} {es' : Es} {p pos : Pos} (hn : nameOk x = true) (hg : glB c.sc x = true) (hm : c.mks.lookup x = some f)
    (h : PA X es (rdEs X.K cls W (evs C es'))) (hst : ∀ e ∈ es, noStar e = true) (h0 : es = [] → es' = .nil) : PE X (.Call (.Name x p) es [] pos) (rdE X.K cls W (ev C (.mk (toN x) f es')).v) := by
  obtain ⟨n1, n2, n3⟩ := name_ok hn
  have hg' : Gl X x := gl_of (by rw [ok.sc]; exact hg)
  obtain ⟨mg, bad | ⟨j, g, fd, ps, rfl, M, hb, F⟩⟩ := ok.fa.nw x f hm
  · refine ⟨fun pins s σ H Q I ⟨α, δ, h, rp, rf, p⟩ => ?_⟩
    exfalso
    have p' : Post X.K cls W σ α H (if C.lvl = 0 then .bad else (evs C es' δ h).bind fun xs h1 => (C.fm f (.ref h1.length :: xs) (h1 ++ [.obj (toN x) []])).bind fun r h' => match r with | .non => .ok (.ref h1.length) h' | _ => .bad) fun d α' H' _ => ∀ v, VR X.K α' H' d v → Q v H' := p
    rw [if_pos bad] at p'
    exact p'
  · have key : ∀ {t : TA}, (∀ σ H Q, rdEs X.K cls W (evs C es') σ H Q → t σ H Q) → ∀ σ H Q, rdE X.K cls W (ev C (.mk (toN x) f es')).v σ H Q → tMakeA (He.ga X.K x) (spD X.K cls (C.fm f)) (WE W) t σ H Q := by
      intro t ht σ H Q ⟨α, δ, h, rp, rf, p⟩
      have p0 : Post X.K cls W σ α H (if C.lvl = 0 then .bad else (evs C es' δ h).bind fun xs h1 => (C.fm f (.ref h1.length :: xs) (h1 ++ [.obj (toN x) []])).bind fun r h' => match r with | .non => .ok (.ref h1.length) h' | _ => .bad) fun d α' H' _ => ∀ v, VR X.K α' H' d v → Q v H' := p
      by_cases lz : C.lvl = 0
      · rw [if_pos lz] at p0; exact p0.elim
      rw [if_neg lz] at p0
      have p' : Post X.K cls W σ α H ((evs C es' δ h).bind fun xs h1 => (C.fm f (.ref h1.length :: xs) (h1 ++ [.obj (toN x) []])).bind fun r h' => match r with | .non => .ok (.ref h1.length) h' | _ => .bad) fun d α' H' _ => ∀ v, VR X.K α' H' d v → Q v H' := p0
      refine ht _ _ _ (rdEs_mono (rs1 rp rf p') fun vs H1 ⟨α1, h1, ds, rp1, rf1, hx, e1, p1⟩ => fun y dx hy hdx ne => ?_)
      obtain ⟨e2, rp2⟩ := made_ext rp1 hy hdx ne (toN x)
      rw [toS_cps] at e2 rp2
      have hy2 : VR X.K (α1 ++ [y]) (upd (upd H1 dx (.own y)) y (.ins (He.ga X.K x) dx [])) (.ref h1.length) (.ref y) := ⟨y, by rw [← rp1.len]; simp, rfl⟩
      refine spD_of (f := C.fm f) (ds := .ref h1.length :: ds) rp2 ⟨_, _, rfl, hy2, hx.ext e2⟩ ?_
      refine (Post.of_bind (Post.from p1 e2)).mono fun d α3 H3 h3 e3 rp3 p3 v hv => ?_
      cases d <;> try exact p3.elim
      exact ⟨hv, p3 α3 H3 Ext.refl rp3 _ (hy2.ext e3)⟩
    cases es with
    | nil =>
      rw [h0 rfl] at key ⊢
      exact pe_imp (pe_makeA0 M F ok.room hg' mg hb (fun σ => passAt ok.tk σ) n1) (key fun σ H Q ⟨α, δ, h, rp, rf, p⟩ => by
        show Q [] H
        exact p α H Ext.refl rp [] rfl)
    | cons e rest => exact pe_imp (pe_makeA M F ok.room hg' mg hb (fun σ => passAt ok.tk σ) h n1 (star_cons (hst e List.mem_cons_self)) (star_plain fun y hy => hst y (List.mem_cons_of_mem _ hy))) (key fun _ _ _ q => q)
theorem snd_sfld (ok : Ok X c C cls W k) {o v : Expr} {o' v' : E} {f : Str} {p' pos : Pos} (hf : c.fds.contains f = true) (ho : PE X o (rdE X.K cls W (ev C o').v)) (he : PE X v (rdE X.K cls W (ev C v').v)) :
    PS X (.Assign [.Attribute o f p'] v pos) (rdS X.K cls W (evS C (.sfld (c.cns.map toN) o' (toN f) v'))) := by
  refine ps_imp (ps_fld ho he (by cases v <;> rfl)) fun D σ H ⟨α, δ, h, rp, rf, p⟩ => ?_
  refine ⟨α, δ, h, rp, rf, (PostS.of_sbind p rf).mono fun d α1 H1 h1 e1 rp1 p1 y hy => ?_⟩
  refine ⟨α1, δ, h1, rp1, rf.ext e1, (PostS.of_sbind p1 (rf.ext e1)).mono fun d2 α2 H2 h2 e2 rp2 p2 x hx => ?_⟩
  cases hs : sfldD h2 (c.cns.map toN) d2 (toN f) d with
  | none => rw [hs] at p2; exact p2.elim
  | some h3 =>
    rw [hs] at p2
    unfold sfldD at hs
    split at hs
    · rename_i n
      split at hs
      · rename_i cn fs ho2
        split at hs
        · rename_i hc
          cases hs
          obtain ⟨a, dx, gs, ha, rfl, g1, g2, g3⟩ := obj_at rp2 hx ho2
          obtain ⟨z, hz, rfl⟩ := cn_of hc.1
          obtain ⟨c1, c2⟩ := ok.fa.cl z hz
          have hlen : gs.length = fs.length := by
            have := congrArg List.length g2
            simpa using this
          have e3 := Ext.write (u := .ins (He.ga X.K (toS (toN z))) dx (putF f y gs)) rp2 ha (.ins g1)
          have hy2 := (hy.ext e2).ext e3
          obtain ⟨k1, k2⟩ := put_vr (f := f) hy2 g2 (g3.ext e3)
          have rp3 := rp2.write (o := .obj (toN z) (putFd (toN f) d fs)) ha (.ins g1) ⟨dx, _, upd_same, k1, k2⟩
          rw [toS_cps] at g1 e3 rp3
          refine ⟨a, _, dx, gs, rfl, g1, c1, c2 f hf, by rw [hlen]; exact hc.2, ?_⟩
          exact p2 _ σ _ e3 rp3 ((rf.ext e1).ext e2 |>.ext e3)
        · cases hs
      · cases hs
    · cases hs
end
end FD

set_option Elab.async false
set_option linter.all false
set_option maxRecDepth 100000
set_option maxHeartbeats 1000000
/-! The D layer: dict(pairs), list(xs), sorted(dict), dict comprehensions of nothing, values and items. -/
namespace FD
open PySem PySem.Spec PyProof.Rows L2
section
variable {K : PySem.W.Frag} {α : List Addr} {H : Hp} {h : DH}
/-- a new object that is told of -/
theorem fresh {l : Addr} {o : O} {u : HO} (rp : RepH K α H h) (hl : H l = none) (ho : OR K α (upd H l u) l o) : Ext α H (α ++ [l]) (upd H l u) ∧ RepH K (α ++ [l]) (upd H l u) (h ++ [o]) ∧ VR K (α ++ [l]) (upd H l u) (.ref h.length) (.ref l) :=
  ⟨(Ext.laid hl).take hl (rp.free hl), (rp.laid hl).add (rp.free hl) ho, l, by rw [← rp.len]; simp, rfl⟩
end
section
variable {X : Cx}
/-- one argument, its value told by D -/
def rNw (K : PySem.W.Frag) (f : DH → D → Out D) : List V → Hp → VK → Prop := fun xs H Q => ∃ α h d x r h', xs = [x] ∧ RepH K α H h ∧ VR K α H d x ∧ f h d = .ok r h' ∧ ∀ α' H', Ext α H α' H' → RepH K α' H' h' → ∀ v, VR K α' H' r v → Q v H'
theorem list_ok : CallR X (.type "list") (rNw X.K listD) := CallR.at fun xs H Q q => by
  obtain ⟨α, h, d, x, r, h', rfl, rp, hd, hf, q⟩ := q
  unfold listD at hf
  split at hf
  · cases hf
    obtain ⟨a, vs, rfl, h1, h2⟩ := vr_tup hd
    refine ⟨_, call_list_of, _, _, rfl, .inr h1, fun l hl => ?_⟩
    have e0 := Ext.laid (α := α) (o := .lst vs) hl
    obtain ⟨e, r1, v1⟩ := fresh (o := .lst _) rp hl ⟨vs, upd_same, h2.ext e0⟩
    exact q _ _ e r1 _ v1
  · split at hf
    · rename_i xs hx
      cases hf
      obtain ⟨a, vs, _, rfl, h1, h2⟩ := rp.ref hd (lget_some hx)
      refine ⟨_, call_list_of, _, _, rfl, .inl (SqL.of h1), fun l hl => ?_⟩
      have e0 := Ext.laid (α := α) (o := .lst vs) hl
      obtain ⟨e, r1, v1⟩ := fresh (o := .lst _) rp hl ⟨vs, upd_same, h2.ext e0⟩
      exact q _ _ e r1 _ v1
    · cases hf
  · cases hf

/-! ### sorted -/
theorem insI_perm (i : Int) : ∀ l : List Int, (insI i l).Perm (i :: l)
  | [] => .refl _
  | j :: r => by
    unfold insI
    split
    · exact .refl _
    · exact ((insI_perm i r).cons j).trans (.swap i j r)
theorem isoI_perm : ∀ l : List Int, (isoI l).Perm l
  | [] => .refl _
  | i :: r => (insI_perm i _).trans ((isoI_perm r).cons i)
theorem insI_pw (i : Int) : ∀ l : List Int, l.Pairwise (· ≤ ·) → (insI i l).Pairwise (· ≤ ·)
  | [], _ => by unfold insI; simp
  | j :: r, h => by
    obtain ⟨h1, h2⟩ := List.pairwise_cons.mp h
    unfold insI
    split
    · rename_i hij
      refine List.pairwise_cons.mpr ⟨fun x hx => ?_, h⟩
      rcases List.mem_cons.mp hx with rfl | hx
      · exact hij
      · exact Int.le_trans hij (h1 x hx)
    · rename_i hij
      refine List.pairwise_cons.mpr ⟨fun x hx => ?_, insI_pw i r h2⟩
      rcases List.mem_cons.mp ((insI_perm i r).mem_iff.mp hx) with rfl | hx
      · omega
      · exact h1 x hx
theorem isoI_pw : ∀ l : List Int, (isoI l).Pairwise (· ≤ ·)
  | [] => .nil
  | i :: r => insI_pw i _ (isoI_pw r)
theorem keyI_ks : ∀ {kvs : List (DK × D)} {ks : List Int}, keyI kvs = some ks → kvs.map (fun p => toK p.1) = ks.map Sum.inl
  | [], ks, h => by cases h; rfl
  | (.inl i, d) :: r, ks, h => by
    obtain ⟨ks', h', rfl⟩ := Option.map_eq_some_iff.mp h
    show Sum.inl i :: r.map (fun p => toK p.1) = Sum.inl i :: ks'.map Sum.inl
    rw [keyI_ks h']
  | (.inr _, _) :: _, _, h => by cases h
theorem vrs_intsN {α : List Addr} {H : Hp} {K : PySem.W.Frag} : ∀ is : List Int, VRs K α H (is.map D.int) (is.map V.int)
  | [] => rfl
  | i :: r => ⟨.int i, _, rfl, rfl, vrs_intsN r⟩
theorem sort_ok (hcalm : X.calm = true) : CallR X (.builtin "sorted") (rNw X.K sortDD) := CallR.at fun xs H Q q => by
  obtain ⟨α, h, d, x, r, h', rfl, rp, hd, hf, q⟩ := q
  unfold sortDD at hf
  split at hf
  · rename_i n
    split at hf
    · rename_i kvs hx
      split at hf
      · rename_i ks hk
        split at hf
        · rename_i hz
          cases hf
          obtain ⟨a, ha, rfl⟩ := vr_ref hd
          obtain ⟨b, hb2, ws, w1, w2, w3⟩ := rp.ob n _ hx
          rw [ha] at hb2; cases hb2
          refine ⟨_, call_sortedDI hcalm, a, ws, ks, rfl, .inl w1, w2.trans (keyI_ks hk), hz, fun ys p hp hs hl => ?_⟩
          have ey : ys = isoI ks := List.Perm.eq_of_pairwise (le := (· ≤ ·)) (fun a b _ _ h1 h2 => Int.le_antisymm h1 h2) hs (isoI_pw ks) (hp.trans (isoI_perm ks).symm)
          subst ey
          obtain ⟨e, r1, v1⟩ := fresh (o := .lst _) rp hl ⟨(isoI ks).map V.int, upd_same, vrs_intsN _⟩
          exact q _ _ e r1 _ v1
        · cases hf
      · cases hf
    · cases hf
  · cases hf

/-! ### tuples that are known to be bare -/
theorem call_tuple_frz : CallR X (.type "tuple") (fun xs H Q => ∃ p ys, xs = [.ref p] ∧ SqL X.K H p ys ∧ ∀ l ob, H l = none → ob.dict = none → Q (.ref l) (upd H l (.frz ob (.tup ys)))) := by
  intro pins s σ H xs us Q I r h
  obtain ⟨p, ys, rfl, hq, q⟩ := h
  obtain ⟨u, rfl, rx⟩ := vals1 r
  cases rx
  obtain ⟨its, r', pl, hz⟩ := I.list hq
  have hlen := r'.length
  refine call_tuple_list pl.isList (fun h' kp => ?_) (by simp only [List.size_toArray] <;> omega)
  have I1 : Inv X pins σ H { s with heap := h' } := I.kept (t' := s.toks) kp
  have I2 : Inv X pins σ (upd H h'.objs.size (.frz { cls := .type "tuple", data := .seq its.toArray } (.tup ys))) { s with heap := h'.push { cls := .type "tuple", data := .seq its.toArray } } :=
    I1.laid (t' := s.toks) (fun b o e => Heap.get?_push_of_some _ e) (Nat.le_refl _) (show ObjOk X.prog X.w _ _ _ (.frz _ (.tup ys)) from ⟨Heap.get?_push_size _ rfl, hz, its, r', IsTup.new _ _⟩)
  exact ⟨.ref h'.objs.size, _, I2, rfl, q _ _ (I1.hok.fresh (Nat.le_refl _)) rfl⟩
theorem pairs_of2 {pins : List (Addr × Obj)} {σ : L2.St} {H : Hp} {s : Shared} (I : Inv X pins σ H s) : ∀ {ps : List Addr} {kvs : List (Key × V)}, Paired (fun p kv => SqT X.K H p [kV kv.1, kv.2]) ps kvs →
    ∃ (prs : List (Key × Value)) (us : List (Value × Value)), KV kvs prs ∧ prs.length = ps.length ∧ us.length = ps.length ∧ (∀ (j : Nat) (k v : Value), us[j]? = some (k, v) → ∃ b, ps[j]? = some b ∧ IsTup s.heap b #[k, v] ∧ ∃ kk, prs[j]? = some (kk, v) ∧ keyIs kk k = true)
  | _, _, .nil => ⟨[], [], .nil, rfl, rfl, fun j k v e => by simp at e⟩
  | _, _, .cons (a := p) (b := kv) h t => by
    obtain ⟨prs, us, r, hl, hl2, hp⟩ := pairs_of2 I t
    obtain ⟨its, rv, ht, _⟩ := I.tuple h
    obtain ⟨u, y, ei, ru, ry⟩ := vals2 rv
    subst ei
    refine ⟨(kv.1, y) :: prs, (u, y) :: us, .cons ⟨rfl, ry⟩ r, by rw [List.length_cons, List.length_cons, hl], by rw [List.length_cons, List.length_cons, hl2], fun j k v e => ?_⟩
    cases j with
    | zero =>
      have e' : (u, y) = (k, v) := Option.some.inj e
      cases e'
      exact ⟨p, rfl, ht, _, rfl, kV_is (P := X.prog) (w := X.w) ru⟩
    | succ j =>
      obtain ⟨b, e1, e2, kk, e3, e4⟩ := hp j k v (by simpa using e)
      exact ⟨b, by simpa using e1, e2, kk, by simpa using e3, e4⟩
/-- dict(xs) of a bare tuple of pairs -/
theorem call_dictT (hcalm : X.calm = true) : CallR X (.type "dict") (fun xs H Q => ∃ (a : Addr) (ob : Obj) (ps : List Addr) (kvs : List (Key × V)), xs = [.ref a] ∧ H a = some (.frz ob (.tup (ps.map V.ref))) ∧ ob.dict = none ∧ Paired (fun p kv => SqT X.K H p [kV kv.1, kv.2]) ps kvs ∧
    ∀ p, H p = none → Q (.ref p) (upd H p (.dK (mergeK [] kvs)))) := by
  intro pins s σ H xs us Q I r q
  obtain ⟨a, ob, ps, kvs, ex, hq, hob, hp, q⟩ := q
  subst ex
  obtain ⟨u, eu, rx⟩ := vals1 r
  subst eu
  cases rx
  obtain ⟨hat, hz, its, rv, ot, hot, hc, n, hdat⟩ := I.hok a _ hq
  rw [hat] at hot
  cases hot
  have ei := refs_at rv
  subst ei
  rw [List.length_map] at hz
  obtain ⟨prs, us, rel, hl, hl2, hpr⟩ := pairs_of2 I hp
  let Ts : Nat → Addr := fun j => (ps[j]?).getD 0
  refine PySem.call_dict_pairs (knd := mixKind X.prog X.w) (kvs := prs) (PySem.PairArg.tuple a _ Ts us) (I.ok.hd hcalm) ⟨⟨ob, n, hat, hc, hob, hdat⟩, by simp [hl2], fun j k v e => ?_⟩ ⟨by rw [hl, hl2], fun j k v e => ?_⟩ (by rw [hl2]; exact hz) fun h' tk hd' k => ?_
  · obtain ⟨b, e1, e2, _⟩ := hpr j k v e
    have eT : Ts j = b := by show (ps[j]?).getD 0 = b; rw [e1]; rfl
    rw [eT]
    refine ⟨by simp [e1], .inl ?_⟩
    exact e2
  · obtain ⟨b, e1, e2, kk, e3, e4⟩ := hpr j k v e
    exact ⟨kk, e3, e4⟩
  · have hm : (s.heap.objs.size == sysModules) = false := beq_eq_false_iff_ne.mpr (Nat.ne_of_gt I.big)
    have hlen : (mergeK [] kvs).length ≤ sizeLine := by
      refine Nat.le_trans (length_mergeK kvs []) ?_
      rw [List.length_nil, Nat.zero_add, rel.length, hl]
      exact hz
    exact ⟨.ref s.heap.objs.size, upd H s.heap.objs.size (.dK (mergeK [] kvs)), I.laid (t' := tk) (fun b o e => k b o (by simp) e) (Nat.le_refl _) (show ObjOk X.prog X.w _ _ _ (.dK (mergeK [] kvs)) from ⟨hlen, hm, PySem.merged [] prs, KV.merge rel .nil, hd'⟩), rfl, q _ (I.hok.fresh (Nat.le_refl _))⟩
theorem pairsD_vr {K : PySem.W.Frag} {α : List Addr} {H : Hp} : ∀ {ps : List D} {kvs : List (DK × D)} {vs : List V}, pairsD ps = some kvs → VRs K α H ps vs → ∃ (as : List Addr) (ws : List (Key × V)), vs = as.map V.ref ∧ Paired (fun p kv => SqT K H p [kV kv.1, kv.2]) as ws ∧ KVR K α H toK kvs ws
  | [], kvs, vs, h, hv => by
    cases h
    unfold VRs at hv
    subst hv
    exact ⟨[], [], rfl, .nil, KVR.nil⟩
  | x :: r, kvs, vs, h, hv => by
    unfold VRs at hv
    obtain ⟨v, us, rfl, h1, h2⟩ := hv
    unfold pairsD at h
    split at h
    · rename_i e; cases e
    · rename_i k d r' e
      cases e
      split at h
      · rename_i k' r'' g1 g2
        cases h
        obtain ⟨as, ws, rfl, p, kv⟩ := pairsD_vr g2 h2
        obtain ⟨a, vs, rfl, t1, t2⟩ := vr_tup h1
        obtain ⟨x1, x2, rfl, y1, y2⟩ := vrs2 t2
        have ek := keyOf_vr y1 g1
        subst ek
        exact ⟨a :: as, (toK k', x2) :: ws, rfl, .cons t1 p, KVR.cons rfl y2 kv⟩
      · cases h
    · cases h
theorem merge_kvr {K : PySem.W.Frag} {α : List Addr} {H : Hp} : ∀ {js kvs : List (DK × D)} {us ws : List (Key × V)}, KVR K α H toK js us → KVR K α H toK kvs ws → KVR K α H toK (js.foldl (fun acc kv => dput acc kv.1 kv.2) kvs) (mergeK ws us)
  | [], kvs, us, ws, h, h' => by
    have e : us = [] := by simpa [KVR] using h.1
    subst e
    exact h'
  | p :: js, kvs, us, ws, h, h' => by
    obtain ⟨w, r, rfl, e, hv, t⟩ := h.uncons
    show KVR K α H toK (js.foldl _ (dput kvs p.1 p.2)) (mergeK (putK ws w.1 w.2) r)
    rw [e]
    exact merge_kvr t (h'.put (fun _ _ z => toK_inj z) hv)
theorem dictP_ok (hcalm : X.calm = true) : CallR X (.type "dict") (rNw X.K dictPD) := CallR.at fun xs H Q q => by
  obtain ⟨α, h, d, x, r, h', rfl, rp, hd, hf, q⟩ := q
  unfold dictPD at hf
  split at hf
  · rename_i n
    split at hf
    · rename_i ps hx
      split at hf
      · rename_i kvs hk
        split at hf
        · rename_i hz
          cases hf
          obtain ⟨a, ha, rfl⟩ := vr_ref hd
          obtain ⟨b, hb2, ob, vs, w1, w2, w3⟩ := rp.ob n _ hx
          rw [ha] at hb2; cases hb2
          obtain ⟨as, ws, rfl, p, kv⟩ := pairsD_vr hk w3
          refine ⟨_, call_dictT hcalm, a, ob, as, ws, rfl, w1, w2, p, fun l hl => ?_⟩
          have e0 := Ext.laid (α := α) (o := .dK (mergeK [] ws)) hl
          have kv2 : KVR X.K α (upd H l (.dK (mergeK [] ws))) toK kvs ws := ⟨kv.1, kv.2.ext e0⟩
          have kv3 := merge_kvr kv2 KVR.nil
          obtain ⟨e, r1, v1⟩ := fresh (o := .dic _) rp hl ⟨mergeK [] ws, upd_same, kv3.1, kv3.2⟩
          exact q _ _ e r1 _ v1
        · cases hf
      · cases hf
    · cases hf
  · cases hf
end
section
variable {X : Cx} {c : CC} {C : Cn} {cls : Nat → Option Addr} {W : WX} {k : Nat} {r : Rec}
theorem no_listD {h : DH} {x : D} {n : Nat} {fs : List (List Nat × D)} {h' : DH} : listD h x ≠ .exc n fs h' := by
  unfold listD
  split
  · exact fun z => by cases z
  · split <;> exact fun z => by cases z
  · exact fun z => by cases z
theorem no_sortDD {h : DH} {x : D} {n : Nat} {fs : List (List Nat × D)} {h' : DH} : sortDD h x ≠ .exc n fs h' := by
  unfold sortDD
  split
  · split
    · split
      · split <;> exact fun z => by cases z
      · exact fun z => by cases z
    · exact fun z => by cases z
  · exact fun z => by cases z
theorem no_dictPD {h : DH} {x : D} {n : Nat} {fs : List (List Nat × D)} {h' : DH} : dictPD h x ≠ .exc n fs h' := by
  unfold dictPD
  split
  · split
    · split
      · split <;> exact fun z => by cases z
      · exact fun z => by cases z
    · exact fun z => by cases z
  · exact fun z => by cases z
theorem nw_conv {a' : E} {f : DH → D → Out D} (no : ∀ h x n fs h', f h x ≠ .exc n fs h') (σ : L2.St) (H : Hp) (Q : VK)
    (q : rdE X.K cls W (fun σ h => ((ev C a').v σ h).bind fun x h => f h x) σ H Q) : tCB (rNw X.K f) (tCons (rdE X.K cls W (ev C a').v) tNil) σ H Q := by
  obtain ⟨α, δ, h, rp, rf, p⟩ := q
  refine rdE_mono (rd1 rp rf p) fun x H1 ⟨α1, h1, d, rp1, rf1, hx, e1, p1⟩ => ?_
  obtain ⟨r, h', hr, q⟩ := Post.ok_of p1 fun n fs h' => no h1 d n fs h'
  exact ⟨α1, h1, d, x, r, h', rfl, rp1, hx, hr, fun α' H' e' r' v hv => q α' H' e' r' v hv⟩
theorem snd_dictP (ok : Ok X c C cls W k) {p pos : Pos} {a : Expr} {a' : E} (hf : glFree c "dict" = true) (hs : noStar a = true) (ha : PE X a (rdE X.K cls W (ev C a').v)) :
    PE X (.Call (.Name "dict" p) [a] [] pos) (rdE X.K cls W (ev C (.dictP a')).v) := by
  unfold glFree at hf
  simp only [Bool.and_eq_true] at hf
  obtain ⟨⟨t1, t2⟩, t3⟩ := hf
  obtain ⟨n1, n2, n3⟩ := name_ok t1
  exact pe_imp (pe_callTy (dictP_ok ok.calm) (gl_of (by rw [ok.sc]; exact t2)) (ok.fa.fr _ t3) (by decide +kernel) (pa_one hs ha) n3 n1 (star_one hs) star_nil) fun σ H Q q => nw_conv (fun _ _ _ _ _ => no_dictPD) σ H Q q
theorem snd_listOf (ok : Ok X c C cls W k) {p pos : Pos} {a : Expr} {a' : E} (hf : glFree c "list" = true) (hs : noStar a = true) (ha : PE X a (rdE X.K cls W (ev C a').v)) :
    PE X (.Call (.Name "list" p) [a] [] pos) (rdE X.K cls W (ev C (.listOf a')).v) := by
  unfold glFree at hf
  simp only [Bool.and_eq_true] at hf
  obtain ⟨⟨t1, t2⟩, t3⟩ := hf
  obtain ⟨n1, n2, n3⟩ := name_ok t1
  exact pe_imp (pe_callTy list_ok (gl_of (by rw [ok.sc]; exact t2)) (ok.fa.fr _ t3) (by decide +kernel) (pa_one hs ha) n3 n1 (star_one hs) star_nil) fun σ H Q q => nw_conv (fun _ _ _ _ _ => no_listD) σ H Q q
theorem snd_sortD (ok : Ok X c C cls W k) {p pos : Pos} {a : Expr} {a' : E} (hf : glFree c "sorted" = true) (hs : noStar a = true) (ha : PE X a (rdE X.K cls W (ev C a').v)) :
    PE X (.Call (.Name "sorted" p) [a] [] pos) (rdE X.K cls W (ev C (.sortD a')).v) := by
  unfold glFree at hf
  simp only [Bool.and_eq_true] at hf
  obtain ⟨⟨t1, t2⟩, t3⟩ := hf
  obtain ⟨n1, n2, n3⟩ := name_ok t1
  exact pe_imp (pe_callB (sort_ok ok.calm) (gl_of (by rw [ok.sc]; exact t2)) (ok.fa.fr _ t3) (by decide +kernel) (pa_one hs ha) n3 n1 (star_one hs) star_nil) fun σ H Q q => nw_conv (fun _ _ _ _ _ => no_sortDD) σ H Q q
theorem snd_rpart {o a : Expr} {o' : E} {es' : Es} {apos pos : Pos} (hb : plainB o = true) (hl : (apos.endLine == pos.line) = true) (hs : ∀ e ∈ [a], noStar e = true) (ho : PE X o (rdE X.K cls W (ev C o').v)) (ha : PA X [a] (rdEs X.K cls W (evs C es'))) :
    PE X (.Call (.Attribute o "rpartition" apos) [a] [] pos) (rdE X.K cls W (ev C (.mt .rpart o' es')).v) :=
  pe_imp (pe_bm PySem.F.plainAttrs_str PySem.F.slot_str_rpartition PySem.F.type_str_rpartition rpart_ok ho ha (base_plain hb) (few_ok hs (by simp)) hl (star_cons (hs a List.mem_cons_self)) rfl)
    (mt_conv fun rp hv hk => by
      rename_i d v
      cases d <;> simp only [mtK] at hk <;> first | contradiction | exact ty_str hv)
theorem snd_btup (ok : Ok X c C cls W k) {p pos : Pos} {a : Expr} {l : L} (hf : glFree c "tuple" = true) (hs : noStar a = true) (ha : PE X a (rdL X.K cls W (evL C l))) :
    PE X (.Call (.Name "tuple" p) [a] [] pos) (rdE X.K cls W (ev C (.btup l)).v) := by
  unfold glFree at hf
  simp only [Bool.and_eq_true] at hf
  obtain ⟨⟨t1, t2⟩, t3⟩ := hf
  obtain ⟨n1, n2, n3⟩ := name_ok t1
  refine pe_imp (pe_callTy call_tuple_frz (gl_of (by rw [ok.sc]; exact t2)) (ok.fa.fr _ t3) (by decide +kernel) (pa_one hs ha) n3 n1 (star_one hs) star_nil) fun σ H Q ⟨α, δ, h, rp, rf, p⟩ => ?_
  show rdL X.K cls W (evL C l) σ H fun x H1 => ∃ p ys, [x] = [.ref p] ∧ SqL X.K H1 p ys ∧ ∀ l ob, H1 l = none → ob.dict = none → Q (.ref l) (upd H1 l (.frz ob (.tup ys)))
  refine rdL_mono (rl1 rp rf p) fun v H1 ⟨α1, h1, ds, a, vs, ev', g1, g2, g3, rp1, rf1, hv, e1, p1⟩ => ?_
  subst ev'
  refine ⟨a, vs, rfl, SqL.of g3, fun l ob hl hob => ?_⟩
  have e0 := Ext.laid (α := α1) (o := .frz ob (.tup vs)) hl
  obtain ⟨e, r1, v1⟩ := fresh (o := .btp ds) rp1 hl ⟨ob, vs, upd_same, hob, hv.ext e0⟩
  exact p1 _ _ e r1 _ v1
/-! ### values, items -/
theorem lck_vr {α : List Addr} {H : Hp} {h : DH} {x : D} {v : V} {kvs : List (DK × D)} {K : PySem.W.Frag} (rp : RepH K α H h) (hx : VR K α H x v) (hl : lckD h x = some kvs) : ∃ (a : Addr) (o : Obj) (ws : List (Key × V)), v = .ref a ∧ H a = some (.frz o (.dK ws)) ∧ ws.map (·.1) = kvs.map (fun p => toK p.1) ∧ VRs K α H (kvs.map (·.2)) (ws.map (·.2)) := by
  unfold lckD at hl
  split at hl
  · rename_i n
    split at hl
    · rename_i kvs' hn
      cases hl
      obtain ⟨a, ha, rfl⟩ := vr_ref hx
      obtain ⟨b, hb2, o, ws, w1, w2, w3⟩ := rp.ob n _ hn
      rw [ha] at hb2; cases hb2
      exact ⟨a, o, ws, rfl, w1, w2, w3⟩
    · cases hl
  · cases hl
theorem snd_vals {tg e : Expr} {e' : E} {apos cpos : Pos} (hb : plainB e = true) (hl : (apos.endLine == cpos.line) = true) (he : PE X e (rdE X.K cls W (ev C e').v)) : PI X tg (.Call (.Attribute e "values" apos) [] [] cpos) (rdI X.K cls W (evI C (.vals e'))) := by
  refine pi_imp (pi_values he (base_plain hb) hl) fun σ H R ⟨α, δ, h, rp, rf, p⟩ => ?_
  show rdE X.K cls W (ev C e').v σ H fun x H1 => ∃ d o kvs, x = .ref d ∧ H1 d = some (.frz o (.dK kvs)) ∧ R (Itd d o kvs) H1
  refine rdE_mono (rd1 rp rf p) fun x H1 ⟨α1, h1, d, rp1, rf1, hx, e1, p1⟩ => ?_
  obtain ⟨s, hs, q⟩ := Post.opt p1 rp1
  obtain ⟨kvs, hk, rfl⟩ := Option.map_eq_some_iff.mp hs
  obtain ⟨a, o, ws, rfl, w1, w2, w3⟩ := lck_vr rp1 hx hk
  exact ⟨a, o, ws, rfl, w1, q _ (wk_vals w1 w3)⟩
theorem snd_ditems {tg e : Expr} {e' : E} {apos cpos : Pos} (ht : tupT tg = true) (hb : plainB e = true) (hl : (apos.endLine == cpos.line) = true) (he : PE X e (rdE X.K cls W (ev C e').v)) : PI X tg (.Call (.Attribute e "items" apos) [] [] cpos) (rdI X.K cls W (evI C (.ditems e'))) := by
  unfold tupT at ht
  split at ht
  · refine pi_imp (pi_items he (base_plain hb) hl) fun σ H R ⟨α, δ, h, rp, rf, p⟩ => ?_
    show rdE X.K cls W (ev C e').v σ H fun x H1 => ∃ d o kvs, x = .ref d ∧ H1 d = some (.frz o (.dK kvs)) ∧ R (Iti d o kvs) H1
    refine rdE_mono (rd1 rp rf p) fun x H1 ⟨α1, h1, d, rp1, rf1, hx, e1, p1⟩ => ?_
    obtain ⟨s, hs, q⟩ := Post.opt p1 rp1
    obtain ⟨kvs, hk, rfl⟩ := Option.map_eq_some_iff.mp hs
    obtain ⟨a, o, ws, rfl, w1, w2, w3⟩ := lck_vr rp1 hx hk
    exact ⟨a, o, ws, rfl, w1, q _ (wk_ditems w1 w2 w3)⟩
  · cases ht
/-- {k: v for ..} of nothing -/
theorem snd_dcomp (ok : Ok X c C cls W k) {kx vx tg iter : Expr} {ifs : List Expr} {scope : Scope} {pos : Pos} {i' : It} (hb : blkC c.N c.sc scope (ownOf c.N scope.names) = true) (hn : noSet iter = true)
    (hi : PI X tg iter (rdI X.K cls W (evI C i'))) : PE X (.DictComp kx vx [⟨tg, iter, ifs, 0⟩] scope pos) (rdE X.K cls W (ev C (.dcomp i')).v) := by
  have bk : BlkOk X.N X.env.scope scope (ownOf c.N scope.names) := by rw [ok.hN, ok.sc]; exact blkOk_by hb
  refine pe_imp (pe_dc (own := ownOf c.N scope.names) (g := fun _ _ _ _ => False) (tt := fun _ _ _ => False) (tk := fun _ _ _ => False) (tv := fun _ _ _ => False) ok.calm ok.nd hi bk
    (fun s H D0 cl fp => ⟨fun _ _ _ _ _ _ _ _ _ z => z.elim⟩) (fun s H D0 cl fp => ⟨fun _ _ _ _ _ _ z => z.elim⟩) (fun s H D0 cl fp => ⟨fun _ _ _ _ _ _ z => z.elim⟩) (fun s H D0 cl fp => ⟨fun _ _ _ _ _ _ z => z.elim⟩) (fold_plain hn)) fun σ H Q ⟨α, δ, h, rp, rf, p⟩ => ?_
  have p' : Post X.K cls W σ α H ((evI C i' δ h).bind fun s h => if srcE h s then .ok (.ref h.length) (h ++ [.dic []]) else .bad) fun d α' H' _ => ∀ v, VR X.K α' H' d v → Q v H' := p
  refine ⟨α, δ, h, rp, rf, (Post.of_bind p').mono fun s α1 H1 h1 e1 rp1 p1 J wk D0 hD => ?_⟩
  cases hs : srcE h1 s with
  | false => rw [hs] at p1; exact p1.elim
  | true =>
    rw [hs, if_pos rfl] at p1
    have e0 := Ext.laid (α := α1) (o := .dK []) hD
    refine ⟨fun i m H => i = 0 ∧ H = upd H1 D0 (.dK []), ⟨0, rfl, rfl⟩, ?_⟩
    rintro i m H ⟨rfl, rfl⟩
    refine .inl ⟨?_, ?_⟩
    · cases s with
      | items xs =>
        have hx : xs = [] := List.isEmpty_iff.mp hs
        exact (wk 0 α1 _ e0).1 (by rw [hx]; exact Nat.le_refl _)
      | dyn n =>
        have hx : dyget h1 0 n = some none := by
          unfold srcE at hs
          dsimp only at hs
          split at hs
          · rename_i e; exact e
          · cases hs
        exact (wk 0 α1 _ h1 none e0 (rp1.laid hD) hx).1 rfl
    · obtain ⟨e, r1, v1⟩ := fresh (o := .dic []) rp1 hD ⟨[], upd_same, rfl, rfl⟩
      exact p1 _ _ e r1 _ v1
end
end FD

set_option Elab.async false
set_option linter.all false
set_option maxRecDepth 100000
set_option maxHeartbeats 1000000
/-! The D layer, 13: the step. -/
namespace FD
open PySem PySem.Spec PyProof.Rows L2
section
variable {C : Cn} {cls : Nat → Option Addr} {k : Nat} {r : Rec}
theorem step_bin (S : Snd r C cls k) {c : CC} {a b : Expr} {op : Operator} {pos : Pos} {t : E} (h : cBin r c a op b = some t) {X : Cx} {W : WX} (ok : Ok X c C cls W k) : PE X (.BinOp a op b pos) (rdE X.K cls W (ev C t).v) ∧ PT X (.BinOp a op b pos) (rdT X.K cls W (ev C t).t) := by
  unfold cBin at h
  split at h
  · rename_i q _ _ o ps hs
    obtain ⟨o', ho, rfl⟩ := Option.map_eq_some_iff.mp h
    exact both (snd_repl hs (S.e _ _ _ ho X W ok).1) fun _ => rfl
  · split at h
    · rename_i o a' b' h1 h2 h3
      cases h
      exact both (snd_bin h1 (S.e _ _ _ h2 X W ok).1 (S.e _ _ _ h3 X W ok).1) fun _ => rfl
    · cases h
theorem step_cmp (S : Snd r C cls k) {c : CC} {a b : Expr} {op : CmpOp} {pos : Pos} {t : E} (h : cCmp r c a op b = some t) {X : Cx} {W : WX} (ok : Ok X c C cls W k) : PE X (.Compare a [op] [b] pos) (rdE X.K cls W (ev C t).v) ∧ PT X (.Compare a [op] [b] pos) (rdT X.K cls W (ev C t).t) := by
  unfold cCmp at h
  split at h
  · split at h
    · rename_i a' s h1 h2
      cases h
      exact snd_is h2 (S.e _ _ _ h1 X W ok).1
    · cases h
  · split at h
    · rename_i a' s h1 h2
      cases h
      exact snd_isn h2 (S.e _ _ _ h1 X W ok).1
    · cases h
  · split at h
    · rename_i hn
      split at h
      · rename_i o a' b' h1 h2 h3
        cases h
        exact snd_cmp ok h1 hn (S.e _ _ _ h2 X W ok).1 (S.e _ _ _ h3 X W ok).1
      · cases h
    · cases h
theorem step_call (S : Snd r C cls k) {c : CC} {x : Str} {args : List Expr} {p pos : Pos} {t : E} (h : cCall r c x args = some t) {X : Cx} {W : WX} (ok : Ok X c C cls W k) : PE X (.Call (.Name x p) args [] pos) (rdE X.K cls W (ev C t).v) ∧ PT X (.Call (.Name x p) args [] pos) (rdT X.K cls W (ev C t).t) := by
  unfold cCall at h
  split at h
  · rename_i hh
    simp only [Bool.and_eq_true] at hh
    split at h
    · rename_i f hf
      obtain ⟨es', hes, rfl⟩ := Option.map_eq_some_iff.mp h
      obtain ⟨h1, h2, h3⟩ := S.es _ _ _ hes X W ok
      exact both (snd_call ok hh.1 hh.2 hf h1 h2 h3.1) fun _ => rfl
    · split at h
      · rename_i hfr
        split at h
        · rename_i a
          split at h
          · cases h
          · rename_i hs
            have hs' : noStar a = true := by simpa using hs
            split at h
            · rename_i b l h1 h2
              cases h
              exact both (snd_bl ok hh.1 hh.2 hfr h1 hs' (S.l _ _ _ h2 X W ok)) fun _ => rfl
            · split at h
              · rename_i b a' h1 h2
                cases h
                exact both (snd_bi ok hh.1 hh.2 hfr h1 hs' (S.e _ _ _ h2 X W ok).1) fun _ => rfl
              · cases h
        · rename_i a ty pt
          split at h
          · rename_i hc
            simp only [Bool.and_eq_true, beq_iff_eq] at hc
            obtain ⟨⟨rfl, h1⟩, h2⟩ := hc
            split at h
            · rename_i y a' h3 h4
              cases h
              exact both (snd_isi ok hh.2 hfr h1 h3 h2 (S.e _ _ _ h4 X W ok).1) fun _ => rfl
            · cases h
          · cases h
        · cases h
      · cases h
  · cases h
theorem step_meth (S : Snd r C cls k) {c : CC} {o : Expr} {m : Str} {args : List Expr} {apos pos : Pos} {t : E} (hb : plainB o = true) (hl : (apos.endLine == pos.line) = true) (h : cMeth r c o m args = some t) {X : Cx} {W : WX} (ok : Ok X c C cls W k) :
    PE X (.Call (.Attribute o m apos) args [] pos) (rdE X.K cls W (ev C t).v) ∧ PT X (.Call (.Attribute o m apos) args [] pos) (rdT X.K cls W (ev C t).t) := by
  unfold cMeth at h
  split at h
  · split at h
    · rename_i q o' h1 h2
      cases h
      exact both (snd_tm h1 hb hl (S.e _ _ _ h2 X W ok).1) fun _ => rfl
    · cases h
  · rename_i a
    split at h
    · rename_i hm
      cases beq_iff_eq.mp hm
      split at h
      · rename_i o' es h1 h2
        cases h
        obtain ⟨g1, g2, _⟩ := S.es _ _ _ h2 X W ok
        exact both (snd_append hb hl g2 (S.e _ _ _ h1 X W ok).1 g1) fun _ => rfl
      · cases h
    · split at h
      · rename_i hm
        simp only [Bool.and_eq_true, beq_iff_eq] at hm
        obtain ⟨rfl, hs⟩ := hm
        split at h
        · rename_i o' l h1 h2
          cases h
          exact both (snd_join hb hl hs (S.e _ _ _ h1 X W ok).1 (S.l _ _ _ h2 X W ok)) fun _ => rfl
        · split at h
          · rename_i o' es h1 h2
            cases h
            obtain ⟨g1, g2, _⟩ := S.es _ _ _ h2 X W ok
            exact both (snd_joinR hb hl g2 (S.e _ _ _ h1 X W ok).1 g1) fun _ => rfl
          · cases h
      · split at h
        · rename_i hm
          simp only [Bool.and_eq_true, beq_iff_eq] at hm
          obtain ⟨rfl, hs⟩ := hm
          split at h
          · rename_i o' a' h1 h2
            cases h
            exact both (snd_get1 (by have := ok.room.units; omega) hb hl hs (S.e _ _ _ h1 X W ok).1 (S.e _ _ _ h2 X W ok).1) fun _ => rfl
          · cases h
        · split at h
          · rename_i hm
            cases beq_iff_eq.mp hm
            split at h
            · rename_i o' es h1 h2
              cases h
              obtain ⟨g1, g2, _⟩ := S.es _ _ _ h2 X W ok
              exact both (snd_split1 hb hl g2 (S.e _ _ _ h1 X W ok).1 g1) fun _ => rfl
            · cases h
          · split at h
            · rename_i hm
              cases beq_iff_eq.mp hm
              split at h
              · rename_i o' es h1 h2
                cases h
                obtain ⟨g1, g2, _⟩ := S.es _ _ _ h2 X W ok
                exact both (snd_part hb hl g2 (S.e _ _ _ h1 X W ok).1 g1) fun _ => rfl
              · cases h
            · split at h
              · rename_i hm
                cases beq_iff_eq.mp hm
                split at h
                · rename_i o' es h1 h2
                  cases h
                  obtain ⟨g1, g2, _⟩ := S.es _ _ _ h2 X W ok
                  exact both (snd_rpart hb hl g2 (S.e _ _ _ h1 X W ok).1 g1) fun _ => rfl
                · cases h
              · cases h
  · rename_i a b
    split at h
    · rename_i hm
      cases beq_iff_eq.mp hm
      split at h
      · rename_i o' es h1 h2
        cases h
        obtain ⟨g1, g2, _⟩ := S.es _ _ _ h2 X W ok
        exact both (snd_find find2_ok (fun {h d} hk => by cases d <;> simp only [mtK] at hk <;> first | exact ⟨_, rfl⟩ | contradiction) hb hl g2 (by simp) (S.e _ _ _ h1 X W ok).1 g1) fun _ => rfl
      · cases h
    · split at h
      · rename_i hm
        simp only [Bool.and_eq_true, beq_iff_eq] at hm
        obtain ⟨⟨rfl, hs⟩, hs2⟩ := hm
        split at h
        · rename_i o' a' b' h1 h2 h3
          cases h
          exact both (snd_get2 (by have := ok.room.units; omega) hb hl hs hs2 (S.e _ _ _ h1 X W ok).1 (S.e _ _ _ h2 X W ok).1 (S.e _ _ _ h3 X W ok).1) fun _ => rfl
        · cases h
      · split at h
        · rename_i hm
          cases beq_iff_eq.mp hm
          split at h
          · rename_i o' es h1 h2
            cases h
            obtain ⟨g1, g2, _⟩ := S.es _ _ _ h2 X W ok
            exact both (snd_splitN hb hl g2 (S.e _ _ _ h1 X W ok).1 g1) fun _ => rfl
          · cases h
        · cases h
  · rename_i a b d
    split at h
    · rename_i hm
      cases beq_iff_eq.mp hm
      split at h
      · rename_i o' es h1 h2
        cases h
        obtain ⟨g1, g2, _⟩ := S.es _ _ _ h2 X W ok
        exact both (snd_find find3_ok (fun {h d} hk => by cases d <;> simp only [mtK] at hk <;> first | exact ⟨_, rfl⟩ | contradiction) hb hl g2 (by simp) (S.e _ _ _ h1 X W ok).1 g1) fun _ => rfl
      · cases h
    · cases h
  · cases h
theorem step_spec (S : Snd r C cls k) {c : CC} {x : Str} {args : List Expr} {p pos : Pos} {t : E} (h : cSpec r c x args = some t) {X : Cx} {W : WX} (ok : Ok X c C cls W k) : PE X (.Call (.Name x p) args [] pos) (rdE X.K cls W (ev C t).v) ∧ PT X (.Call (.Name x p) args [] pos) (rdT X.K cls W (ev C t).t) := by
  unfold cSpec at h
  split at h
  · split at h
    · rename_i hh
      simp only [Bool.and_eq_true, beq_iff_eq] at hh
      obtain ⟨⟨⟨⟨⟨⟨rfl, h1⟩, rfl⟩, h2⟩, rfl⟩, h3⟩, h4⟩ := hh
      obtain ⟨e', he, rfl⟩ := Option.map_eq_some_iff.mp h
      exact both (snd_ordL ok h1 h2 h3 h4 (S.e _ _ _ he X W ok).1) fun _ => rfl
    · cases h
  · split at h
    · rename_i hh
      simp only [Bool.and_eq_true, beq_iff_eq] at hh
      obtain ⟨⟨⟨⟨⟨rfl, h1⟩, h2⟩, h3⟩, h4⟩, h5⟩ := hh
      obtain ⟨e', he, rfl⟩ := Option.map_eq_some_iff.mp h
      exact both (snd_accS ok h1 h2 h3 h4 h5 (S.e _ _ _ he X W ok).1) fun _ => rfl
    · cases h
  · cases h
theorem step_new (S : Snd r C cls k) {c : CC} {x : Str} {args : List Expr} {p pos : Pos} {t : E} (h : cNew r c x args = some t) {X : Cx} {W : WX} (ok : Ok X c C cls W k) : PE X (.Call (.Name x p) args [] pos) (rdE X.K cls W (ev C t).v) ∧ PT X (.Call (.Name x p) args [] pos) (rdT X.K cls W (ev C t).t) := by
  unfold cNew at h
  split at h
  · rename_i e
    split at h
    · rename_i hh
      simp only [Bool.and_eq_true] at hh
      split at h
      · rename_i hx
        cases beq_iff_eq.mp hx
        obtain ⟨a', ha, rfl⟩ := Option.map_eq_some_iff.mp h
        exact both (snd_dictP ok hh.1 hh.2 (S.e _ _ _ ha X W ok).1) fun _ => rfl
      · split at h
        · rename_i hx
          cases beq_iff_eq.mp hx
          obtain ⟨a', ha, rfl⟩ := Option.map_eq_some_iff.mp h
          exact both (snd_listOf ok hh.1 hh.2 (S.e _ _ _ ha X W ok).1) fun _ => rfl
        · split at h
          · rename_i hx
            cases beq_iff_eq.mp hx
            obtain ⟨a', ha, rfl⟩ := Option.map_eq_some_iff.mp h
            exact both (snd_sortD ok hh.1 hh.2 (S.e _ _ _ ha X W ok).1) fun _ => rfl
          · cases h
    · cases h
  · cases h
theorem step_e (S : Snd r C cls k) (c : CC) (e : Expr) (t : E) (h : sE r c e = some t) (X : Cx) (W : WX) (ok : Ok X c C cls W k) : PE X e (rdE X.K cls W (ev C t).v) ∧ PT X e (rdT X.K cls W (ev C t).t) := by
  unfold sE at h
  split at h
  · exact snd_K h
  · exact snd_N ok h
  · exact step_bin S h ok
  · obtain ⟨a', ha, rfl⟩ := Option.map_eq_some_iff.mp h
    exact both (snd_neg (S.e _ _ _ ha X W ok).1) fun _ => rfl
  · obtain ⟨a', ha, rfl⟩ := Option.map_eq_some_iff.mp h
    have := S.e _ _ _ ha X W ok
    exact ⟨snd_notV this.1, snd_notT this.2⟩
  · have := S.b _ _ _ _ h X W
    exact ⟨(this _ ok).1, (this _ ok).2.pt⟩
  · have := S.b _ _ _ _ h X W
    exact ⟨(this _ ok).1, (this _ ok).2.pt⟩
  · split at h
    · rename_i t' a' b' h1 h2 h3
      cases h
      have g1 := S.e _ _ _ h1 X W ok
      have g2 := S.e _ _ _ h2 X W ok
      have g3 := S.e _ _ _ h3 X W ok
      exact ⟨snd_iteV g1.2 g2.1 g3.1, snd_iteT g1.2 g2.2 g3.2⟩
    · cases h
  · exact step_cmp S h ok
  · unfold cChain at h
    split at h
    · rename_i hn
      simp only [Bool.and_eq_true] at hn
      split at h
      · rename_i o o2 a' b' d' h1 h2 h3 h4 h5
        cases h
        exact snd_chain ok h1 h2 hn.2 (S.e _ _ _ h3 X W ok).1 (S.e _ _ _ h4 X W ok).1 (S.e _ _ _ h5 X W ok).1
      · cases h
    · cases h
  · obtain ⟨es', hes, rfl⟩ := Option.map_eq_some_iff.mp h
    exact both (snd_fstr S ok hes) fun _ => rfl
  · obtain ⟨es', hes, rfl⟩ := Option.map_eq_some_iff.mp h
    exact both (snd_tup (S.es _ _ _ hes X W ok).1) fun _ => rfl
  · obtain ⟨a', ha, rfl⟩ := Option.map_eq_some_iff.mp h
    exact both (snd_revS (S.e _ _ _ ha X W ok).1) fun _ => rfl
  · split at h
    · rename_i a' lo' hi' h1 h2 h3
      cases h
      exact both (snd_sli (S.e _ _ _ h1 X W ok).1 (S.o _ _ _ h2 X W ok).1 (S.o _ _ _ h3 X W ok).1) fun _ => rfl
    · cases h
  · split at h
    · rename_i hn
      split at h
      · rename_i l h1
        obtain ⟨b', h3, rfl⟩ := Option.map_eq_some_iff.mp h
        exact both (snd_ixL hn (S.l _ _ _ h1 X W ok) (S.e _ _ _ h3 X W ok).1) fun _ => rfl
      · split at h
        · rename_i a' b' h2 h3
          cases h
          exact both (snd_ix (by have := ok.room.units; omega) hn (S.e _ _ _ h2 X W ok).1 (S.e _ _ _ h3 X W ok).1) fun _ => rfl
        · cases h
    · cases h
  · split at h
    · rename_i hh
      split at h
      · rename_i ks es' h1 h2
        cases h
        obtain ⟨_, _, g3, g4⟩ := S.es _ _ _ h2 X W ok
        exact both (snd_dict h1 hh.1 hh.2 g4 g3) fun _ => rfl
      · cases h
    · cases h
  · split at h
    · rename_i t' h1
      cases h
      exact step_spec S h1 ok
    · split at h
      · rename_i t' h1
        cases h
        exact step_new S h1 ok
      · split at h
        · rename_i t' h1
          cases h
          unfold cMake at h1
          split at h1
          · rename_i f hf
            split at h1
            · rename_i hh
              simp only [Bool.and_eq_true] at hh
              obtain ⟨es', hes, rfl⟩ := Option.map_eq_some_iff.mp h1
              obtain ⟨g1, g2, g3, _⟩ := S.es _ _ _ hes X W ok
              exact both (snd_mk ok hh.1 hh.2 hf g1 g2 g3) fun _ => rfl
            · cases h1
          · cases h1
        · exact step_call S h ok
  · split at h
    · rename_i hh
      simp only [Bool.and_eq_true] at hh
      split at h
      · rename_i t' h1
        cases h
        unfold cMth at h1
        split at h1
        · rename_i ds hds
          split at h1
          · rename_i hfew
            split at h1
            · rename_i o' es' q1 q2
              cases h1
              obtain ⟨g1, g2, g3, _⟩ := S.es _ _ _ q2 X W ok
              exact both (snd_meth ok hh.1 hh.2 hds hfew (S.e _ _ _ q1 X W ok).1 g1 g2 g3) fun _ => rfl
            · cases h1
          · cases h1
        · cases h1
      · exact step_meth S hh.1 hh.2 h ok
    · cases h
  · split at h
    · rename_i hh
      simp only [Bool.and_eq_true] at hh
      obtain ⟨o', ho, rfl⟩ := Option.map_eq_some_iff.mp h
      exact both (snd_fld ok hh.1 hh.2 (S.e _ _ _ ho X W ok).1) fun _ => rfl
    · cases h
  · obtain ⟨l, hl, rfl⟩ := Option.map_eq_some_iff.mp h
    exact both (snd_ofL (S.l _ _ _ hl X W ok)) fun _ => rfl
  · obtain ⟨l, hl, rfl⟩ := Option.map_eq_some_iff.mp h
    exact both (snd_ofL (S.l _ _ _ hl X W ok)) fun _ => rfl
  · unfold cDc at h
    split at h
    · split at h
      · rename_i hb
        simp only [Bool.and_eq_true] at hb
        split at h
        · rename_i i' hi
          split at h
          · rename_i hit
            cases h
            exact both (snd_dcomp ok hb.1 hb.2 (S.it _ _ _ hi X W _ hit ok)) fun _ => rfl
          · cases h
        · cases h
      · cases h
    · cases h
  · cases h
theorem PA_nil {X : Cx} {W : WX} : PA X [] (rdEs X.K cls W (evs C .nil)) := pa_imp pa_nil fun σ H Q ⟨α, δ, h, rp, rf, p⟩ => p _ _ Ext.refl rp _ rfl
theorem PA_cons {X : Cx} {W : WX} {e : Expr} {es : List Expr} {e' : E} {es' : Es} (hs : noStar e = true) (h1 : PE X e (rdE X.K cls W (ev C e').v)) (h2 : PA X es (rdEs X.K cls W (evs C es'))) : PA X (e :: es) (rdEs X.K cls W (evs C (.cons e' es'))) := by
  refine pa_imp (pa_cons h1 h2 (star_cons hs)) fun σ H Q ⟨α, δ, h, rp, rf, p⟩ => ?_
  refine rdE_mono (rd1 rp rf p) fun x H1 ⟨α1, h1, d, rp1, rf1, hx, e1, p1⟩ => ?_
  exact rdEs_mono (rs1 rp1 rf1 p1) fun xs H2 ⟨α2, h2, ds, rp2, rf2, hxs, e2, p2⟩ => p2 _ _ Ext.refl rp2 _ ⟨x, xs, rfl, hx.ext e2, hxs⟩
theorem PpE_nil {X : Cx} {W : WX} : PpE X cls W [] (evs C .nil) := fun pos keys ks h hl => by
  have : keys = [] := List.length_eq_zero_iff.mp hl
  subst this
  cases h
  exact ⟨[], pps_nil, fun σ H Q ⟨α, δ, h, rp, rf, p⟩ => p _ _ Ext.refl rp _ rfl⟩
theorem cKeys_cons {k : Option Expr} {keys : List (Option Expr)} {ks : List DK} (h : cKeys (k :: keys) = some ks) : ∃ e q r, k = some e ∧ ks = q :: r ∧ cKeys keys = some r ∧ ∀ X : Cx, PE X e (tC (kV (toK q))) := by
  unfold cKeys at h
  split at h
  · rename_i hz; cases hz
  · rename_i hz
    cases hz
    obtain ⟨r, h1, rfl⟩ := Option.map_eq_some_iff.mp h
    exact ⟨_, _, _, rfl, rfl, h1, fun X => pe_int⟩
  · rename_i hz
    cases hz
    obtain ⟨r, h1, rfl⟩ := Option.map_eq_some_iff.mp h
    refine ⟨_, _, _, rfl, rfl, h1, fun X => ?_⟩
    show PE X _ (tC (.str (toS _)))
    rw [toS_cps]
    exact pe_str
  · cases h
theorem PpE_cons {X : Cx} {W : WX} {e : Expr} {es : List Expr} {e' : E} {es' : Es} (h1 : PE X e (rdE X.K cls W (ev C e').v)) (h2 : PpE X cls W es (evs C es')) : PpE X cls W (e :: es) (evs C (.cons e' es')) := fun pos keys ks h hl => by
  cases keys with
  | nil => simp at hl
  | cons k keys =>
    obtain ⟨ke, q, r, rfl, rfl, h3, pk⟩ := cKeys_cons h
    obtain ⟨trs, g1, g2⟩ := h2 pos keys r h3 (by simpa using hl)
    refine ⟨_, pps_cons (pk X) h1 g1, fun σ H Q ⟨α, δ, h, rp, rf, p⟩ => ?_⟩
    refine rdE_mono (rd1 rp rf p) fun x H1 ⟨α1, h1, d, rp1, rf1, hx, e1, p1⟩ => g2 _ _ _ ?_
    exact rdEs_mono (rs1 rp1 rf1 p1) fun xs H2 ⟨α2, h2, ds, rp2, rf2, hxs, e2, p2⟩ => p2 _ _ Ext.refl rp2 _ ⟨x, xs, rfl, hx.ext e2, hxs⟩
theorem step_ok (S : Snd r C cls k) : Snd (step r) C cls k where
  e := step_e S
  es := fun c es t h X W ok => by
    replace h : sEs r c es = some t := h
    unfold sEs at h
    split at h
    · cases h
      exact ⟨PA_nil, fun e he => (by cases he), fun _ => rfl, PpE_nil⟩
    · split at h
      · rename_i e es hs
        split at h
        · rename_i e' es' h1 h2
          cases h
          obtain ⟨g1, g2, _, g3⟩ := S.es _ _ _ h2 X W ok
          refine ⟨PA_cons hs (S.e _ _ _ h1 X W ok).1 g1, fun x hx => ?_, (fun z => by cases z), PpE_cons (S.e _ _ _ h1 X W ok).1 g3⟩
          rcases List.mem_cons.mp hx with rfl | hx
          · exact hs
          · exact g2 x hx
        · cases h
      · cases h
  b := fun c kk vs t h X W pos ok => by
    replace h : sB r c kk vs = some t := h
    unfold sB at h
    split at h
    · have g := S.e _ _ _ h X W ok
      cases kk with
      | true => exact ⟨pe_one g.1, pw_and1 g.2⟩
      | false => exact ⟨pe_one g.1, pw_or1 g.2⟩
    · split at h
      · rename_i a' b' h1 h2
        cases h
        have g1 := S.e _ _ _ h1 X W ok
        have g2 := S.b _ _ _ _ h2 X W pos ok
        cases kk with
        | true => exact ⟨snd_andV g1.1 g2.1, snd_andT g1.2 g2.2⟩
        | false => exact ⟨snd_orV g1.1 g2.1, snd_orT g1.2 g2.2⟩
      · cases h
    · cases h
  l := fun c e t h X W ok => by
    replace h : sL r c e = some t := h
    unfold sL at h
    split at h
    · obtain ⟨es', hes, rfl⟩ := Option.map_eq_some_iff.mp h
      exact snd_disp (S.es _ _ _ hes X W ok).1
    · split at h
      · rename_i hb
        simp only [Bool.and_eq_true] at hb
        split at h
        · rename_i e' t' i' o' h1 h2 h3 h4
          split at h
          · rename_i hs0
            cases h
            simp only [Bool.and_eq_true] at hs0
            obtain ⟨hit, hs⟩ := hs0
            exact snd_comp ok S hb.1 hb.2 h1 h2 h3 hit h4 fun i hi => by
              have := List.all_eq_true.mp hs i hi
              simpa using this
          · cases h
        · cases h
      · cases h
    · cases h
  it := fun c e t h X W tg hit ok => by
    replace h : sIt r c e = some t := h
    unfold sIt at h
    split at h
    · split at h
      · rename_i hh
        simp only [Bool.and_eq_true, beq_iff_eq] at hh
        obtain ⟨⟨rfl, h1⟩, h2⟩ := hh
        obtain ⟨a', ha, rfl⟩ := Option.map_eq_some_iff.mp h
        exact snd_r1 ok h1 h2 (S.e _ _ _ ha X W ok).1
      · split at h
        · rename_i hh
          simp only [Bool.and_eq_true, beq_iff_eq] at hh
          obtain ⟨⟨rfl, h1⟩, h2⟩ := hh
          obtain ⟨a', ha, rfl⟩ := Option.map_eq_some_iff.mp h
          exact snd_enum ok hit h1 h2 (S.e _ _ _ ha X W ok).1
        · obtain ⟨a', ha, rfl⟩ := Option.map_eq_some_iff.mp h
          exact snd_itE (S.e _ _ _ ha X W ok).1
    · split at h
      · rename_i hh
        simp only [Bool.and_eq_true, beq_iff_eq] at hh
        obtain ⟨⟨⟨rfl, h1⟩, h2⟩, h3⟩ := hh
        split at h
        · rename_i a' b' g1 g2
          cases h
          exact snd_r2 ok h1 h2 h3 (S.e _ _ _ g1 X W ok).1 (S.e _ _ _ g2 X W ok).1
        · cases h
      · split at h
        · rename_i hh
          simp only [Bool.and_eq_true, beq_iff_eq] at hh
          obtain ⟨⟨⟨rfl, h1⟩, h2⟩, h3⟩ := hh
          split at h
          · rename_i a' b' g1 g2
            cases h
            exact snd_zip ok hit h1 h2 h3 (S.e _ _ _ g1 X W ok).1 (S.e _ _ _ g2 X W ok).1
          · cases h
        · obtain ⟨a', ha, rfl⟩ := Option.map_eq_some_iff.mp h
          exact snd_itE (S.e _ _ _ ha X W ok).1
    · split at h
      · rename_i hh
        simp only [Bool.and_eq_true, beq_iff_eq] at hh
        obtain ⟨⟨h1, h2⟩, rfl⟩ := hh
        obtain ⟨a', ha, rfl⟩ := Option.map_eq_some_iff.mp h
        exact snd_vals h1 (beq_iff_eq.mpr h2) (S.e _ _ _ ha X W ok).1
      · split at h
        · rename_i hh
          simp only [Bool.and_eq_true, beq_iff_eq] at hh
          obtain ⟨⟨h1, h2⟩, rfl⟩ := hh
          obtain ⟨a', ha, rfl⟩ := Option.map_eq_some_iff.mp h
          exact snd_ditems hit h1 (beq_iff_eq.mpr h2) (S.e _ _ _ ha X W ok).1
        · obtain ⟨a', ha, rfl⟩ := Option.map_eq_some_iff.mp h
          exact snd_itE (S.e _ _ _ ha X W ok).1
    · split at h
      · rename_i l hl
        cases h
        exact snd_itL (S.l _ _ _ hl X W ok)
      · obtain ⟨a', ha, rfl⟩ := Option.map_eq_some_iff.mp h
        exact snd_itE (S.e _ _ _ ha X W ok).1
  t := fun c e t h X W ok => by
    replace h : sT r c e = some t := h
    unfold sT at h
    split at h
    · split at h
      · rename_i ha
        obtain ⟨i, hi, rfl⟩ := Option.map_eq_some_iff.mp h
        exact snd_tN ok ha hi
      · cases h
    · obtain ⟨ts, hts, rfl⟩ := Option.map_eq_some_iff.mp h
      obtain ⟨g1, g2, g3⟩ := S.ts _ _ _ hts X W ok
      exact snd_tT ok g2 g3 g1
    · split at h
      · rename_i hn
        split at h
        · rename_i a' b' h1 h2
          cases h
          exact snd_tS (by have := ok.room.units; omega) hn (S.e _ _ _ h1 X W ok).1 (S.e _ _ _ h2 X W ok).1
        · cases h
      · cases h
    · cases h
  ts := fun c es t h X W ok => by
    replace h : sTs r c es = some t := h
    unfold sTs at h
    split at h
    · cases h
      exact ⟨PGs_nil, fun e he => (by cases he), rfl⟩
    · split at h
      · rename_i e es hs
        split at h
        · rename_i e' es' h1 h2
          cases h
          obtain ⟨g1, g2, g3⟩ := S.ts _ _ _ h2 X W ok
          refine ⟨PGs_cons hs (S.t _ _ _ h1 X W ok) g1, fun x hx => ?_, by simp [Ts.len, g3]⟩
          rcases List.mem_cons.mp hx with rfl | hx
          · exact hs
          · exact g2 x hx
        · cases h
      · cases h
  o := fun c o t h X W ok => by
    replace h : sO r c o = some t := h
    unfold sO at h
    split at h
    · cases h
      exact ⟨snd_oN, trivial⟩
    · obtain ⟨e', he, rfl⟩ := Option.map_eq_some_iff.mp h
      have g := S.e _ _ _ he X W ok
      exact ⟨snd_oS g.1, g.2⟩
end
end FD

set_option Elab.async false
set_option linter.all false
set_option maxRecDepth 100000
set_option maxHeartbeats 1000000
/-! The D layer: except suites. -/
namespace FD
open PySem PySem.Spec PyProof.Rows L2
section
variable {X : Cx} {c : CC} {cls : Nat → Option Addr} {a : Addr} {oe : Obj} {cv : Value} {dd : Option Addr} {pn : List (Addr × Obj)} {i : Nat} {en : Str}
/-- in a suite: the exception that it holds -/
def Held (K : PySem.W.Frag) (cls : Nat → Option Addr) (cv : Value) (dd : Option Addr) (a : Addr) (en : Str) (i : Nat) (n : Nat) (fs : List (List Nat × D)) (α : List Addr) (σ : L2.St) (H : Hp) (h : DH) : Prop := RepH K α H h ∧ XR K cls n fs α H cv dd ∧ (en ≠ ("" : Str) → σ[i]? = some (some (.ref a)))
def rdV (K : PySem.W.Frag) (cls : Nat → Option Addr) (cv : Value) (dd : Option Addr) (a : Addr) (en : Str) (i : Nat) (f : Nat → List (List Nat × D) → Option D) : TE := fun σ H Q => ∃ n fs α h, Held K cls cv dd a en i n fs α σ H h ∧ ∃ d, f n fs = some d ∧ ∀ α' H' v, Ext α H α' H' → RepH K α' H' h → VR K α' H' d v → Q v H'
def rdW (K : PySem.W.Frag) (cls : Nat → Option Addr) (cv : Value) (dd : Option Addr) (a : Addr) (en : Str) (i : Nat) (f : Nat → Bool) : TT := fun σ H Q => ∃ n fs α h, Held K cls cv dd a en i n fs α σ H h ∧ Q (f n) H
/-- the context of the suite's names -/
structure SuOk (X : Cx) (c : CC) (cls : Nat → Option Addr) (en : Str) (i : Nat) : Prop where
  sc : X.env.scope = c.sc
  nm : en ≠ ("" : Str) → X.N[i]? = some en
  nd : X.N.Nodup
  lo : en ≠ ("" : Str) → X.env.kindOf en = some .local
  ok : en ≠ ("" : Str) → nameOk en = true
  fr : ∀ x, c.free.contains x = true → X.mg x = none
  F : SuF X.K X.mg cls c
theorem XR.ext {K : PySem.W.Frag} {n : Nat} {fs : List (List Nat × D)} {α α' : List Addr} {H H' : Hp} (x : XR K cls n fs α H cv dd) (e : Ext α H α' H') (nt : ∀ d, dd = some d → d ∉ α) : XR K cls n fs α' H' cv dd := by
  obtain ⟨C, d, gs, h1, h2, h3, h4, h5, h6⟩ := x
  exact ⟨C, d, gs, h1, h2, h3, e.keep d _ h4 (nt d h3), h5, h6.ext e⟩
theorem su_name (S : SuOk X c cls en i) (ne : en ≠ ("" : Str)) {p : Pos} : PE (X.suite a ((a, oe) :: pn)) (.Name en p) (tVar i) := by
  obtain ⟨n1, n2, n3⟩ := name_ok (S.ok ne)
  exact pe_var (i := i) (S.nm ne) (.inl (S.lo ne)) n1 n2
theorem su_and {Y : Cx} {f g : Nat → Bool} {e1 e2 : Expr} {rest : List Expr} {pos : Pos} (ha : PT Y e1 (rdW Y.K cls cv dd a en i f)) (hb : PW Y (.BoolOp .And (e2 :: rest) pos) (rdW Y.K cls cv dd a en i g)) : PW Y (.BoolOp .And (e1 :: e2 :: rest) pos) (rdW Y.K cls cv dd a en i fun n => f n && g n) := by
  refine pw_imp (pw_and ha hb) fun σ H Q ⟨n, fs, α, h, hh, q⟩ => ⟨n, fs, α, h, hh, ?_⟩
  have q : Q (f n && g n) H := q
  cases e : f n with
  | false => rw [e] at q; exact q
  | true => rw [e] at q; exact ⟨n, fs, α, h, hh, q⟩
theorem su_or {Y : Cx} {f g : Nat → Bool} {e1 e2 : Expr} {rest : List Expr} {pos : Pos} (ha : PT Y e1 (rdW Y.K cls cv dd a en i f)) (hb : PW Y (.BoolOp .Or (e2 :: rest) pos) (rdW Y.K cls cv dd a en i g)) : PW Y (.BoolOp .Or (e1 :: e2 :: rest) pos) (rdW Y.K cls cv dd a en i fun n => f n || g n) := by
  refine pw_imp (pw_or ha hb) fun σ H Q ⟨n, fs, α, h, hh, q⟩ => ⟨n, fs, α, h, hh, ?_⟩
  have q : Q (f n || g n) H := q
  cases e : f n with
  | true => rw [e] at q; exact q
  | false => rw [e] at q; exact ⟨n, fs, α, h, hh, q⟩
theorem su_isi (S : SuOk X c cls en i) (hz : Zc cv dd oe) (hf : ∃ vs, oe.data = .fields vs) {k : Nat} : ∀ {e : Expr} {t : ST}, cST c en k e = some t → PT (X.suite a ((a, oe) :: pn)) e (rdW X.K cls cv dd a en i t.v) := by
  induction k with
  | zero => intro e t h; cases h
  | succ k ih =>
    intro e t h
    unfold cST at h
    split at h
    · rename_i hk; cases hk
    · rename_i kk x pos hk
      cases hk
      obtain ⟨t', ht, rfl⟩ := Option.map_eq_some_iff.mp h
      exact pt_imp (pt_not (ih ht)) fun σ H Q ⟨n, fs, α, h, hh, q⟩ => ⟨n, fs, α, h, hh, q⟩
    · rename_i kk x y pos hk
      cases hk
      split at h
      · rename_i a' b' h1 h2
        cases h
        exact (su_and (ih h1) (pw_and1 (ih h2))).pt
      · cases h
    · rename_i kk x y z pos hk
      cases hk
      split at h
      · rename_i a' b' d' h1 h2 h3
        cases h
        exact (su_and (ih h1) (su_and (ih h2) (pw_and1 (ih h3)))).pt
      · cases h
    · rename_i kk x y pos hk
      cases hk
      split at h
      · rename_i a' b' h1 h2
        cases h
        exact (su_or (ih h1) (pw_or1 (ih h2))).pt
      · cases h
    · rename_i kk x y z pos hk
      cases hk
      split at h
      · rename_i a' b' d' h1 h2 h3
        cases h
        exact (su_or (ih h1) (su_or (ih h2) (pw_or1 (ih h3)))).pt
      · cases h
    · rename_i kk x p1 e' p2 y p3 pos hk
      cases hk
      split at h
      · rename_i hc
        simp only [Bool.and_eq_true, beq_iff_eq] at hc
        obtain ⟨⟨⟨⟨⟨rfl, h1⟩, rfl⟩, h2⟩, h3⟩, ne⟩ := hc
        have ne : e' ≠ ("" : Str) := by simpa using ne
        unfold glFree at h1
        simp only [Bool.and_eq_true] at h1
        obtain ⟨m1, m2, m3⟩ := name_ok h2
        have hg : Gl (X.suite a ((a, oe) :: pn)) "isinstance" := gl_of (X := X.suite a ((a, oe) :: pn)) (by show glB X.env.scope _ = true; rw [S.sc]; exact h1.1.2)
        have hgy : Gl (X.suite a ((a, oe) :: pn)) y := gl_of (X := X.suite a ((a, oe) :: pn)) (by show glB X.env.scope _ = true; rw [S.sc]; exact h3)
        have hm : X.mg "isinstance" = none := S.fr _ h1.2
        -- by what the second name means
        have go : ∀ {cV : V} {cval : Value} {hit : List Nat}, PE (X.suite a ((a, oe) :: pn)) (.Name y p3) (tC cV) → (∀ u, RelV cV u → u = cval) → (∀ (n : Nat) (Cc : Addr), cls n = some Cc → PySem.W.kitOne X.K (.ref Cc) cval = some (hit.contains n)) →
            PT (X.suite a ((a, oe) :: pn)) (.Call (.Name "isinstance" p1) [.Name e' p2, .Name y p3] [] pos) (rdW X.K cls cv dd a e' i (ST.isi hit).v) := by
          intro cV cval hit hy hr hk
          refine ⟨fun pins s σ H Q I ⟨n, fs, α, h, ⟨rp, xr, hs⟩, q⟩ => ?_⟩
          obtain ⟨Cc, d, gs, x1, x2, x3, x4, x5, x6⟩ := xr
          have hz' : Zc (.ref Cc) dd oe := by rw [← x2]; exact hz
          refine (pt_truth (pe_callB (call_own (X := X) (pn := pn) (S.F.c n Cc x1).1 hz' hf) hg hm (by kernel_rfl) (pa_cons (su_name S ne) (pa_cons hy pa_nil (star_cons rfl)) (star_cons rfl))) (fun _ => rfl)).run pins s σ H Q I ?_
          refine ⟨_, hs ne, fun b hb => ?_, cV, cval, hit.contains n, rfl, hr, hk n Cc x1, hit.contains n, rfl, q⟩
          rw [x3] at hb
          cases hb
          exact ⟨gs, x4⟩
        split at h
        · rename_i hit hl
          cases h
          obtain ⟨Y, y1, y2⟩ := S.F.n y hit hl
          exact go (cV := .ref Y) (pe_glob hgy y1 rfl m1) (fun u r => r) fun n Cc hn => (y2 n Cc hn).2
        · obtain ⟨hit, hl, rfl⟩ := Option.map_eq_some_iff.mp h
          obtain ⟨T, y1, y2, y3⟩ := S.F.b y hit hl
          exact go (cV := .ty T) (pe_bltn hgy y1 y2 rfl m3 m1) (fun u r => r) y3
      · cases h
    · cases h
theorem xr_look {K : PySem.W.Frag} {α : List Addr} {H : Hp} {f : List Nat} {d : D} : ∀ {fs : List (List Nat × D)} {gs : List (Str × V)}, gs.map (·.1) = fs.map (fun p => toS p.1) → VRs K α H (fs.map (·.2)) (gs.map (·.2)) → fs.lookup f = some d → ∃ v, gs.lookup (toS f) = some v ∧ VR K α H d v
  | [], _, _, _, h => by cases h
  | (x, y) :: fs, gs, h1, h2, h => by
    cases gs with
    | nil => cases h1
    | cons g gs =>
      obtain ⟨gx, gy⟩ := g
      simp only [List.map_cons, List.cons.injEq] at h1
      obtain ⟨e1, h1⟩ := h1
      subst e1
      have h2 : VRs K α H (y :: fs.map (·.2)) (gy :: gs.map (·.2)) := h2
      unfold VRs at h2
      obtain ⟨v, r, e2, v1, v2⟩ := h2
      cases e2
      rw [List.lookup_cons] at h ⊢
      by_cases hx : f = x
      · subst hx
        simp at h ⊢
        subst h
        exact v1
      · have n1 : (f == x) = false := by simpa using hx
        have n2 : (toS f == toS x) = false := by
          simp only [beq_eq_false_iff_ne, ne_eq]
          exact fun z => hx (toS_inj z)
        rw [n1] at h
        rw [n2]
        exact xr_look h1 v2 h
theorem held_nt {K : PySem.W.Frag} {n : Nat} {fs : List (List Nat × D)} {α : List Addr} {H : Hp} {h : DH} (rp : RepH K α H h) (x : XR K cls n fs α H cv dd) : ∀ d, dd = some d → d ∉ α := fun d hd hm => by
  obtain ⟨C, d', gs, _, _, x3, x4, _, _⟩ := x
  rw [x3] at hd
  cases hd
  obtain ⟨m, o, _, _, r⟩ := rp.mem hm
  cases o with
  | lst xs => obtain ⟨vs, r1, _⟩ := r; rw [x4] at r1; cases r1
  | dic _ => obtain ⟨vs, r1, _⟩ := r; rw [x4] at r1; cases r1
  | dit _ => obtain ⟨vs, r1, _⟩ := r; rw [x4] at r1; cases r1
  | obj _ _ => obtain ⟨dx, vs, r1, _⟩ := r; rw [x4] at r1; cases r1
  | lck _ => obtain ⟨_, vs, r1, _⟩ := r; rw [x4] at r1; cases r1
  | btp _ => obtain ⟨_, vs, r1, _⟩ := r; rw [x4] at r1; cases r1
theorem su_fld (S : SuOk X c cls en i) (hz : Zc cv dd oe) (hf : ∃ vs, oe.data = .fields vs) (ne : en ≠ ("" : Str)) {f : Str} {p1 pos : Pos} (hfn : f = ("place" : Str) ∨ f = ("reason" : Str)) :
    PE (X.suite a ((a, oe) :: pn)) (.Attribute (.Name en p1) f pos) (rdV X.K cls cv dd a en i fun n fs => fs.lookup f.cps.toList) := by
  refine ⟨fun pins s σ H Q I ⟨n, fs, α, h, hh, d', hd, q⟩ => ?_⟩
  obtain ⟨rp, xr, hs⟩ := hh
  obtain ⟨Cc, d, gs, x1, x2, x3, x4, x5, x6⟩ := xr
  have hz' : Zc (.ref Cc) dd oe := by rw [← x2]; exact hz
  obtain ⟨_, T, f1, f2⟩ := S.F.c n Cc x1
  have hno : PySem.W.findIn X.K (.ref Cc) f = some none := by
    rcases hfn with rfl | rfl
    · exact f1
    · exact f2
  have hd' : fs.lookup f.cps.toList = some d' := hd
  obtain ⟨v, v1, v2⟩ := xr_look x5 x6 hd'
  rw [toS_cps] at v1
  exact (pe_xf (X := X) (pn := pn) (n := f) T hno hz' hf (su_name S ne)).run pins s σ H Q I ⟨_, hs ne, rfl, rfl, d, gs, v, x3, x4, v1, q α H v Ext.refl rp v2⟩
theorem su_val (S : SuOk X c cls en i) (hz : Zc cv dd oe) (hf : ∃ vs, oe.data = .fields vs) {k : Nat} : ∀ {e : Expr} {t : SE}, cSE c en k e = some t → PE (X.suite a ((a, oe) :: pn)) e (rdV X.K cls cv dd a en i fun n fs => t.v n fs) := by
  have con : ∀ {e : Expr} {d : D} {v : V}, PE (X.suite a ((a, oe) :: pn)) e (tC v) → (∀ α H, VR X.K α H d v) → PE (X.suite a ((a, oe) :: pn)) e (rdV X.K cls cv dd a en i fun n fs => (SE.c d).v n fs) := fun hp hv =>
    pe_imp hp fun σ H Q ⟨n, fs, α, h, hh, d', hd, q⟩ => by cases hd; exact q α H _ Ext.refl hh.1 (hv _ _)
  induction k with
  | zero => intro e t h; cases h
  | succ k ih =>
    intro e t h
    unfold cSE at h
    split at h
    · rename_i hk; cases hk
    · cases h; exact con pe_non fun _ _ => rfl
    · cases h; exact con pe_int fun _ _ => rfl
    · cases h
      refine con pe_str fun _ _ => ?_
      show V.str _ = V.str _
      rw [toS_cps]
    · cases h
      refine pe_imp (pe_un un_neg pe_int) fun σ H Q ⟨n, fs, α, h, hh, d', hd, q⟩ => ?_
      cases hd
      exact ⟨_, rfl, q α H _ Ext.refl hh.1 rfl⟩
    · rename_i kk e' p1 f pos hk
      cases hk
      split at h
      · rename_i hc
        cases h
        simp only [Bool.and_eq_true, beq_iff_eq] at hc
        obtain ⟨⟨rfl, hfn⟩, ne⟩ := hc
        have ne : e' ≠ ("" : Str) := by simpa using ne
        exact su_fld S hz hf ne (by simpa using hfn)
      · cases h
    · rename_i kk e' p1 f p2 z p3 p4 pos hk
      cases hk
      split at h
      · rename_i hc
        cases h
        simp only [Bool.and_eq_true, beq_iff_eq] at hc
        obtain ⟨⟨rfl, hfn⟩, ne⟩ := hc
        have ne : e' ≠ ("" : Str) := by simpa using ne
        refine pe_imp (pe_cmpR op_eq (su_fld S hz hf ne (by simpa using hfn)) pe_str rfl) fun σ H Q ⟨n, fs, α, h, hh, d', hd, q⟩ => ?_
        have hd2 : (match fs.lookup f.cps.toList with
          | some (.str y) => some (D.bl (y == z.cps.toList))
          | _ => none) = some d' := hd
        split at hd2
        · rename_i y hy
          cases hd2
          refine ⟨n, fs, α, h, hh, .str y, hy, fun α' H' v e' r' hv => ?_⟩
          rw [vr_str hv]
          refine ⟨rfl, q α' H' _ e' r' ?_⟩
          show V.bl _ = V.bl _
          rw [dec_str]
          congr 1
          rw [Bool.eq_iff_iff, beq_iff_eq, beq_iff_eq]
          exact ⟨fun e => by rw [← e, toS_list], fun e => by rw [e, toS_cps]⟩
        · cases hd2
      · cases h
    · rename_i kk t1 a1 b1 pos hk
      cases hk
      split at h
      · rename_i t' a' b' h1 h2 h3
        cases h
        refine pe_imp (pe_ifExp (su_isi S hz hf h1) (ih h2) (ih h3)) fun σ H Q ⟨n, fs, α, h, hh, d', hd, q⟩ => ⟨n, fs, α, h, hh, ?_⟩
        have hd : (if t'.v n then a'.v n fs else b'.v n fs) = some d' := hd
        cases e : t'.v n with
        | true => rw [e] at hd; show ite (t'.v n = true) _ _; rw [if_pos e]; exact ⟨n, fs, α, h, hh, d', hd, q⟩
        | false => rw [e] at hd; show ite (t'.v n = true) _ _; rw [if_neg (by rw [e]; decide)]; exact ⟨n, fs, α, h, hh, d', hd, q⟩
      · cases h
    · rename_i kk a1 k1 pos hk
      cases hk
      split at h
      · rename_i hs1
        obtain ⟨a', ha, rfl⟩ := Option.map_eq_some_iff.mp h
        refine pe_imp (pe_tup (pa_cons (ih ha) pa_nil (star_cons hs1))) fun σ H Q ⟨n, fs, α, h, hh, d', hd, q⟩ => ?_
        obtain ⟨x, hx, rfl⟩ := Option.map_eq_some_iff.mp hd
        refine ⟨n, fs, α, h, hh, x, hx, fun α1 H1 v e1 rp1 hv => ⟨by simp [sizeLine_eq], fun p hp => ?_⟩⟩
        have e2 : Ext α1 H1 α1 (upd H1 p (.tup [v])) := Ext.laid hp
        exact q α1 _ _ (e1.trans e2) (rp1.laid hp) ⟨p, [v], rfl, .inl (.inl upd_same), ⟨v, [], rfl, hv.ext e2, rfl⟩⟩
      · cases h
    · rename_i kk a1 b1 k1 pos hk
      cases hk
      split at h
      · rename_i hs1
        simp only [Bool.and_eq_true] at hs1
        split at h
        · rename_i a' b' h1 h2
          cases h
          refine pe_imp (pe_tup (pa_cons (ih h1) (pa_cons (ih h2) pa_nil (star_cons hs1.2)) (star_cons hs1.1))) fun σ H Q ⟨n, fs, α, h, hh, d', hd, q⟩ => ?_
          have hd : (match a'.v n fs, b'.v n fs with
            | some x, some y => some (D.tup [x, y])
            | _, _ => none) = some d' := hd
          cases ea : a'.v n fs with
          | none => rw [ea] at hd; cases hd
          | some x =>
            cases eb : b'.v n fs with
            | none => rw [ea, eb] at hd; cases hd
            | some y =>
              rw [ea, eb] at hd
              cases hd
              obtain ⟨rp, xr, hs⟩ := hh
              refine ⟨n, fs, α, h, ⟨rp, xr, hs⟩, x, ea, fun α1 H1 v e1 rp1 hv => ?_⟩
              refine ⟨n, fs, α1, h, ⟨rp1, xr.ext e1 (held_nt rp xr), hs⟩, y, eb, fun α2 H2 u e2 rp2 hu => ⟨by simp [sizeLine_eq], fun p hp => ?_⟩⟩
              have e3 : Ext α2 H2 α2 (upd H2 p (.tup [v, u])) := Ext.laid hp
              exact q α2 _ _ (e1.trans (e2.trans e3)) (rp2.laid hp) ⟨p, [v, u], rfl, .inl (.inl upd_same), ⟨v, [u], rfl, (hv.ext e2).ext e3, ⟨u, [], rfl, hu.ext e3, rfl⟩⟩⟩
        · cases h
      · cases h
    · cases h
/-- what a suite gives back -/
def rdU (K : PySem.W.Frag) (cls : Nat → Option Addr) (cv : Value) (dd : Option Addr) (a : Addr) (en : Str) (i : Nat) (f : Nat → List (List Nat × D) → Option D) : TS := fun En σ H => ∃ n fs α h, Held K cls cv dd a en i n fs α σ H h ∧ ∃ d, f n fs = some d ∧ ∀ α' H' v, Ext α H α' H' → RepH K α' H' h → VR K α' H' d v → En.rt v H'
theorem su_stm (S : SuOk X c cls en i) (hz : Zc cv dd oe) (hf : ∃ vs, oe.data = .fields vs) {k : Nat} : ∀ {sts : List Stmt} {t : SU}, cSU c en k sts = some t → PSs (X.suite a ((a, oe) :: pn)) sts (rdU X.K cls cv dd a en i fun n fs => t.v n fs) := by
  induction k with
  | zero => intro e t h; cases h
  | succ k ih =>
    intro e t h
    unfold cSU at h
    split at h
    · rename_i hk; cases hk
    · cases h
      refine pss_imp (pss_one ps_retN) fun En σ H ⟨n, fs, α, h, hh, d, hd, q⟩ => ?_
      cases hd
      exact q α H _ Ext.refl hh.1 rfl
    · rename_i kk e pos hk
      cases hk
      obtain ⟨e', he, rfl⟩ := Option.map_eq_some_iff.mp h
      exact pss_imp (pss_one (ps_ret (su_val S hz hf he))) fun En σ H ⟨n, fs, α, h, hh, d, hd, q⟩ => ⟨n, fs, α, h, hh, d, hd, q⟩
    · rename_i kk t1 b1 pos rest hk
      cases hk
      split at h
      · rename_i t' b' r' h1 h2 h3
        cases h
        refine pss_imp (pss_cons (ps_if (su_isi S hz hf h1) (ih h2) pss_nil) (ih h3)) fun En σ H ⟨n, fs, α, h, hh, d, hd, q⟩ => ⟨n, fs, α, h, hh, ?_⟩
        have hd : (if t'.v n then b'.v n fs else r'.v n fs) = some d := hd
        cases e : t'.v n with
        | true => rw [e] at hd; show ite (t'.v n = true) _ _; rw [if_pos e]; exact ⟨n, fs, α, h, hh, d, hd, q⟩
        | false => rw [e] at hd; show ite (t'.v n = true) _ _; rw [if_neg (by rw [e]; decide)]; exact ⟨n, fs, α, h, hh, d, hd, q⟩
      · cases h
    · cases h
/-- told.append(e.f) in a suite -/
def rdA (K : PySem.W.Frag) (cls : Nat → Option Addr) (cv : Value) (dd : Option Addr) (a : Addr) (en : Str) (i j : Nat) (f : List Nat) : TS := fun En σ H => ∃ n fs α h x u d h2 r, Held K cls cv dd a en i n fs α σ H h ∧ σ[j]? = some (some u) ∧ VR K α H x u ∧ fs.lookup f = some d ∧ appD h x [d] = .ok r h2 ∧ ∀ α' H', Ext α H α' H' → RepH K α' H' h2 → En.nx σ H'
theorem su_app (S : SuOk X c cls en i) (hz : Zc cv dd oe) (hf : ∃ vs, oe.data = .fields vs) (ne : en ≠ ("" : Str)) {f t : Str} {j : Nat} {p0 p1 p2 apos cpos pos : Pos} (hfn : f = ("place" : Str) ∨ f = ("reason" : Str)) (ht : X.N[j]? = some t) (hl : X.env.kindOf t = some .local) (hn : nameOk t = true) (hline : (apos.endLine == cpos.line) = true) :
    PSs (X.suite a ((a, oe) :: pn)) [.Expr (.Call (.Attribute (.Name t p0) "append" apos) [.Attribute (.Name en p1) f p2] [] cpos) pos] (rdA X.K cls cv dd a en i j f.cps.toList) := by
  obtain ⟨n1, n2, n3⟩ := name_ok hn
  have pv : PE (X.suite a ((a, oe) :: pn)) (.Name t p0) (tVar j) := pe_var (i := j) ht (.inl hl) n1 n2
  have hs : ∀ e ∈ [Expr.Attribute (.Name en p1) f p2], noStar e = true := fun e he => by rw [List.mem_singleton.mp he]; rfl
  have pc := pe_bm (X := X.suite a ((a, oe) :: pn)) (name := "append") (apos := apos) (cpos := cpos) PySem.F.plainAttrs_list PySem.F.slot_list_append PySem.F.type_list_append append_ok pv (pa_one (X := X.suite a ((a, oe) :: pn)) (hs _ List.mem_cons_self) (su_fld S hz hf ne hfn)) (base_plain rfl) (few_ok hs (by simp)) hline (star_cons (hs _ List.mem_cons_self)) rfl
  refine pss_imp (pss_one (ps_expr pc rfl)) fun En σ H ⟨n, fs, α, h, x, u, d, h2, r, hh, hj, hx, hd, ha, q⟩ => ?_
  refine ⟨u, hj, ?_, n, fs, α, h, hh, d, hd, fun α' H' v e' r' hv => ?_⟩
  · refine ty_list hh.1 hx ?_
    unfold appD at ha
    split at ha
    · split at ha
      · rename_i hx2; unfold mtK; dsimp only; unfold lget; rw [hx2]; rfl
      · cases ha
    · cases ha
  · exact ⟨α', h, x, [d], r, h2, r', hx.ext e', VRs.one hv, ha, fun α2 H2 e2 r2 w hw => q α2 H2 (e'.trans e2) r2⟩
end
end FD

set_option Elab.async false
set_option linter.all false
set_option maxRecDepth 100000
set_option maxHeartbeats 1000000
/-! The D layer: statements that walk a dict: it is locked. -/
namespace FD
open PySem PySem.Spec PyProof.Rows L2
section
variable {K : PySem.W.Frag} {α : List Addr} {H : Hp} {h : DH} {a : Addr} {od : Obj} {ws : List (Key × V)} {σ : L2.St} {δ : Fr}
theorem unl_ne (e : H a = some (.frz od (.dK ws))) {b : Addr} {u : HO} (h : H b = some u) (d : u ≠ .frz od (.dK ws)) : b ≠ a := fun z => by
  subst z
  rw [e] at h
  exact d (Option.some.inj h).symm
theorem unl_sqT (e : H a = some (.frz od (.dK ws))) {b : Addr} {vs : List V} (h : SqT K H b vs) : SqT K (upd H a (.dK ws)) b vs := by
  rcases h with (h | ⟨o, h⟩) | h
  · exact .inl (.inl (by rw [upd_ne (unl_ne e h (fun z => by cases z))]; exact h))
  · exact .inl (.inr ⟨o, by rw [upd_ne (unl_ne e h (fun z => by cases z))]; exact h⟩)
  · exact .inr h
theorem unl_fzL (e : H a = some (.frz od (.dK ws))) {b : Addr} {vs : List V} (h : FzL K H b vs) : FzL K (upd H a (.dK ws)) b vs := by
  rcases h with ⟨o, h⟩ | h
  · exact .inl ⟨o, by rw [upd_ne (unl_ne e h (fun z => by cases z))]; exact h⟩
  · exact .inr h
mutual
theorem VR.unl (e : H a = some (.frz od (.dK ws))) : ∀ {d : D} {v : V}, VR K α H d v → VR K α (upd H a (.dK ws)) d v
  | .non, _, h => h
  | .bl _, _, h => h
  | .int _, _, h => h
  | .str _, _, h => h
  | .tup xs, v, h => by
    unfold VR at h ⊢
    obtain ⟨b, vs, e1, h1, h2⟩ := h
    exact ⟨b, vs, e1, unl_sqT e h1, VRs.unl e h2⟩
  | .ref n, v, h => by
    unfold VR at h ⊢
    exact h
  | .fl xs, v, h => by
    unfold VR at h ⊢
    obtain ⟨b, vs, e1, h1, h2⟩ := h
    exact ⟨b, vs, e1, unl_fzL e h1, VRs.unl e h2⟩
theorem VRs.unl (e : H a = some (.frz od (.dK ws))) : ∀ {ds : List D} {vs : List V}, VRs K α H ds vs → VRs K α (upd H a (.dK ws)) ds vs
  | [], _, h => h
  | x :: xs, vs, h => by
    unfold VRs at h ⊢
    obtain ⟨v, r, e1, h1, h2⟩ := h
    exact ⟨v, r, e1, VR.unl e h1, VRs.unl e h2⟩
end
theorem or_unl (e : H a = some (.frz od (.dK ws))) {b : Addr} (hb : b ≠ a) {o : O} (h : OR K α H b o) : OR K α (upd H a (.dK ws)) b o := by
  cases o with
  | lst xs => obtain ⟨vs, h1, h2⟩ := h; exact ⟨vs, by rw [upd_ne hb]; exact h1, h2.unl e⟩
  | dic _ => obtain ⟨vs, h1, e1, h2⟩ := h; exact ⟨vs, by rw [upd_ne hb]; exact h1, e1, h2.unl e⟩
  | dit _ => obtain ⟨vs, h1, e1, h2⟩ := h; exact ⟨vs, by rw [upd_ne hb]; exact h1, e1, h2.unl e⟩
  | obj _ _ => obtain ⟨dx, gs, h1, e1, h2⟩ := h; exact ⟨dx, gs, by rw [upd_ne hb]; exact h1, e1, h2.unl e⟩
  | lck _ => obtain ⟨o, vs, h1, e1, h2⟩ := h; exact ⟨o, vs, by rw [upd_ne hb]; exact h1, e1, h2.unl e⟩
  | btp _ => obtain ⟨o, vs, h1, e1, h2⟩ := h; exact ⟨o, vs, by rw [upd_ne hb]; exact h1, e1, h2.unl e⟩
theorem RepF.unl (e : H a = some (.frz od (.dK ws))) (r : RepF K α H σ δ) : RepF K α (upd H a (.dK ws)) σ δ := ⟨r.len, fun i d hd => by
  obtain ⟨v, h1, h2⟩ := r.sl i d hd
  exact ⟨v, h1, h2.unl e⟩⟩
theorem lockAt_dic {i : Nat} {f : Option (List Nat)} {n : Nat} {kvs : List (DK × D)} (hl : lockAt δ h i f = some (n, kvs)) : h[n]? = some (.dic kvs) := by
  unfold lockAt at hl
  split at hl
  · split at hl
    · split at hl
      · rename_i e
        cases hl
        exact e
      · cases hl
    · cases hl
  · cases hl
/-- what is left behind the lock -/
theorem unl_all {α' : List Addr} {H' : Hp} {h' : DH} {n : Nat} {kvs : List (DK × D)} (ha : α[n]? = some a) (hH : H a = some (.dK ws)) (k : ws.map (·.1) = kvs.map (fun p => toK p.1)) (hv : VRs K α H (kvs.map (·.2)) (ws.map (·.2)))
    (e : Ext α (upd H a (.frz od (.dK ws))) α' H') (r : RepH K α' H' h') : H' a = some (.frz od (.dK ws)) ∧ Ext α H α' (upd H' a (.dK ws)) ∧ RepH K α' (upd H' a (.dK ws)) (h'.set n (.dic kvs)) := by
  have ea := e.fz a od (.dK ws) upd_same
  have hm : a ∈ α := List.mem_of_getElem? ha
  have hm' : α'[n]? = some a := e.e0.get ha
  have e2 : Ext α H α' (upd H' a (.dK ws)) := by
    refine ⟨e.pre, fun b hb hn => ?_, fun b u q hn => ?_, fun b vs q => ?_, fun b ob u q => ?_⟩
    · have := e.new b hb hn
      rwa [upd_ne (fun z : b = a => hn (by rw [z]; exact hm))] at this
    · have nb : b ≠ a := fun z => hn (by rw [z]; exact hm)
      rw [upd_ne nb]
      exact e.keep b u (by rw [upd_ne nb]; exact q) hn
    · have nb : b ≠ a := fun z => by rw [z, hH] at q; cases q
      rw [upd_ne nb]
      exact e.tp b vs (by rw [upd_ne nb]; exact q)
    · have nb : b ≠ a := fun z => by rw [z, hH] at q; cases q
      rw [upd_ne nb]
      exact e.fz b ob u (by rw [upd_ne nb]; exact q)
  refine ⟨ea, e2, by simp [r.len], r.nd, fun m o q => ?_⟩
  by_cases z : n = m
  · subst z
    have hl : n < h'.length := by rw [← r.len]; exact (List.getElem?_eq_some_iff.mp hm').1
    rw [List.getElem?_set_self hl] at q
    cases q
    exact ⟨a, hm', ws, upd_same, k, hv.ext e2⟩
  · rw [List.getElem?_set_ne z] at q
    obtain ⟨b, h1, h2⟩ := r.ob m o q
    refine ⟨b, h1, or_unl ea (fun eb => ?_) h2⟩
    subst eb
    have hn : n < α'.length := (List.getElem?_eq_some_iff.mp hm').1
    exact z ((List.getElem?_inj hn r.nd).mp (hm'.trans h1.symm))
theorem lock_rd {cls : Nat → Option Addr} {W : WX} {C : Cn} {s : FD.S} {i : Nat} {f : Option (List Nat)} {En : Ends} (hh : rdS K cls W (evS C (.lock i f s)) En σ H) : tLock (rdS K cls (fun _ _ _ _ => False) (evS C s)) En σ H := by
  obtain ⟨α, δ, h, rp, rf, p⟩ := hh
  unfold evS at p
  cases hl : lockAt δ h i f with
  | none => rw [hl] at p; exact p.elim
  | some q =>
    obtain ⟨n, kvs⟩ := q
    rw [hl] at p
    obtain ⟨a, ha, ws, w1, w2, w3⟩ := rp.ob n _ (lockAt_dic hl)
    refine ⟨a, .dK ws, w1, trivial, fun od => ?_⟩
    have e := Ext.write (u := .frz od (.dK ws)) rp ha (.dK w1)
    refine ⟨α, δ, h.set n (.lck kvs), rp.write ha (.dK w1) ⟨od, ws, upd_same, w2, w3.ext e⟩, rf.ext e, ?_⟩
    dsimp only at p
    cases hb : evS C s δ (h.set n (.lck kvs)) with
    | nx δ' h' =>
      rw [hb] at p
      intro α' σ' H' e' r' f'
      obtain ⟨q1, q2, q3⟩ := unl_all ha w1 w2 w3 e' r'
      exact ⟨q1, p α' σ' _ q2 q3 (f'.unl q1)⟩
    | rt d h' =>
      rw [hb] at p
      intro α' H' v e' r' hv
      obtain ⟨q1, q2, q3⟩ := unl_all ha w1 w2 w3 e' r'
      exact ⟨q1, p α' _ v q2 q3 (hv.unl q1)⟩
    | brk _ _ => rw [hb] at p; exact p.elim
    | cnt _ _ => rw [hb] at p; exact p.elim
    | exc _ _ _ _ => rw [hb] at p; exact p.elim
    | bad => rw [hb] at p; exact p.elim
end
end FD

set_option Elab.async false
set_option linter.all false
set_option maxRecDepth 100000
set_option maxHeartbeats 1000000
/-! The D layer, 14: statements. -/
namespace FD
open PySem PySem.Spec PyProof.Rows L2
section
variable {C : Cn} {cls : Nat → Option Addr} {k : Nat}
theorem snd0 : Snd rec0 C cls k where
  e := fun _ _ _ h => by cases h
  es := fun _ _ _ h => by cases h
  b := fun _ _ _ _ h => by cases h
  l := fun _ _ _ h => by cases h
  it := fun _ _ _ h => by cases h
  t := fun _ _ _ h => by cases h
  ts := fun _ _ _ h => by cases h
  o := fun _ _ _ h => by cases h
theorem sndN : ∀ n, Snd (recN n) C cls k
  | 0 => snd0
  | n + 1 => step_ok (sndN n)
/-- .. of a def's own body -/
structure OkS (X : Cx) (c : CC) (C : Cn) (cls : Nat → Option Addr) (W : WX) (k : Nat) : Prop extends Ok X c C cls W k where
  hs : X.stack = X.env :: X.outer
  hf : X.env.frame = some X.env.locals
structure SndS (q : RecS) (C : Cn) (cls : Nat → Option Addr) (k : Nat) : Prop where
  s : ∀ c st t, q.s c st = some t → ∀ X W, OkS X c C cls W k → PS X st (rdS X.K cls W (evS C t))
  ss : ∀ c st t, q.ss c st = some t → ∀ X W, OkS X c C cls W k → PSs X st (rdS X.K cls W (evSs C t))
variable {X : Cx} {c : CC} {W : WX} {r : Rec} {q : RecS}
theorem asg_rd {t : T} {e : E} {D : Ends} {σ : L2.St} {H : Hp} (h : rdS X.K cls W (evS C (.asg t e)) D σ H) : tAsg (rdE X.K cls W (ev C e).v) (rdG X.K cls W t.slots (asT C t)) D σ H := by
  obtain ⟨α, δ, h, rp, rf, p⟩ := h
  refine ⟨α, δ, h, rp, rf, (PostS.of_sbind p rf).mono fun d α1 H1 h1 e1 rp1 p1 v hv => ?_⟩
  exact ⟨α1, δ, h1, d, rp1, rf.ext e1, hv, (PostS.of_sbind p1 (rf.ext e1)).mono fun δ2 α2 H2 h2 e2 rp2 p2 σ' rf2 _ => p2 α2 σ' H2 Ext.refl rp2 rf2⟩
theorem sole_false {t v : Expr} {line : Nat} (hk : X.env.scope = c.sc) (ho : okAsg c t v = true) (hs : swB c t v = false) : swapsWithSole [t] v line X.env = pure false := by
  unfold okAsg at ho
  simp only [Bool.and_eq_true] at ho
  obtain ⟨⟨⟨h1, h2⟩, h3⟩, h4⟩ := ho
  show swapsWith v (some t) line X.env = pure false
  cases v <;> first | rfl | (cases h4; done) | skip
  rename_i elt gs scope pos
  cases t <;> first | rfl | skip
  rename_i x p
  have hb : X.env.blockKind = .function := by
    unfold Env.blockKind; rw [hk, beq_iff_eq.mp h1]; rfl
  have hkx : X.env.kindOf x = c.sc.names.lookup x := by
    show X.env.scope.names.lookup x = _
    rw [hk]
  unfold swB at hs
  dsimp only at hs
  unfold swapsWith
  simp only [hb, hkx, Expr.pos]
  rw [h1] at hs
  simp only [Bool.true_and] at hs
  show pure _ = pure _
  congr 1
theorem stores_none {t v : Expr} (ho : okAsg c t v = true) : swappedStores [t] v X.env = pure none := by
  unfold okAsg at ho
  simp only [Bool.and_eq_true] at ho
  obtain ⟨⟨⟨h1, h2⟩, h3⟩, h4⟩ := ho
  rcases (Bool.or_eq_true _ _).mp h3 with h3 | h3
  · unfold swappedStores
    cases t <;> try rfl
    all_goals cases v <;> first | rfl | (cases h3; done)
  · unfold cstT at h3
    split at h3
    · unfold swappedStores
      cases t <;> try rfl
      all_goals
        dsimp only
        split
        · rfl
        · split
          · rfl
          · split
            · rfl
            · first | rfl | rw [if_pos (by assumption)]
    · cases h3
theorem each_one {t : Expr} {env : Env} (h : noStar t = true) : (assignEach [t] env).map (·.2) = [assign t env] := by
  rw [asEach_cons h]; rfl
theorem ofL_imp {l : L} {σ : L2.St} {H : Hp} {Q : VK} (p0 : rdE X.K cls W (ev C (.ofL l)).v σ H Q) : rdL X.K cls W (evL C l) σ H Q := by
  obtain ⟨α, δ, h, rp, rf, p⟩ := p0
  refine ⟨α, δ, h, rp, rf, ?_⟩
  have p' : Post X.K cls W σ α H ((evL C l δ h).bind fun xs h => .ok (.ref h.length) (h ++ [.lst xs])) fun d α' H' _ => ∀ v, VR X.K α' H' d v → Q v H' := p
  cases hl : evL C l δ h with
  | bad => rw [hl] at p'; exact p'.elim
  | exc n fs h' => rw [hl] at p'; exact p'
  | ok ds h1 =>
    rw [hl] at p'
    intro α1 H1 e1 rp1 a vs g1 g2 g3 g4
    exact p' (α1 ++ [a]) H1 (e1.take g1 g2) (rp1.add g2 ⟨vs, g3, g4⟩) _ ⟨a, by rw [← rp1.len]; simp, rfl⟩
theorem pts_ifs (S : Snd r C cls k) {c : CC} {X : Cx} {W : WX} {ifs : List Expr} {o' : Oe} (ho : cIfs r c ifs = some o') (ok : Ok X c C cls W k) : PTs X ifs (rdT X.K cls W (tsO C o')) := by
  cases ifs with
  | nil =>
    cases ho
    exact pts_imp pts_nil fun σ H Q ⟨α, δ, h, rp, rf, p⟩ => p _ _ Ext.refl rp
  | cons e es =>
    cases es with
    | nil =>
      have hoo := S.o _ _ _ ho _ _ ok
      cases o' with
      | none => exact hoo.2.elim
      | some e2 => exact pts_one hoo.2
    | cons _ _ => cases ho
theorem ps_set_sw (ok : Ok X c C cls W k) (S : Snd r C cls k) {t v : Expr} {st : FD.S} {pos : Pos} (hs : swB c t v = true) (h : cSet r c t v = some st) : PS X (.Assign [t] v pos) (rdS X.K cls W (evS C st)) := by
  unfold swB at hs
  split at hs
  · rename_i elt gs scope lpos
    split at hs
    · rename_i x px
      simp only [Bool.and_eq_true, beq_iff_eq] at hs
      obtain ⟨⟨⟨g1, g2⟩, g3⟩, g4⟩ := hs
      unfold cSet at h
      dsimp only at h
      split at h
      · rename_i ha
        split at h
        · rename_i i l hi hl
          cases h
          unfold sL at hl
          split at hl
          · rename_i e1; cases e1
          · rename_i elt' tg iter ifs scope' pos' heq
            cases heq
            split at hl
            · rename_i hb
              simp only [Bool.and_eq_true] at hb
              split at hl
              · rename_i e' t' i' o' h1 h2 h3 h4
                split at hl
                · rename_i hsl0
                  cases hl
                  simp only [Bool.and_eq_true] at hsl0
                  obtain ⟨hit, hsl⟩ := hsl0
                  have hsl' : ∀ i ∈ t'.slots, i ∈ (ownOf c.N scope.names).map (·.2) := fun i hi => by
                    have := List.all_eq_true.mp hsl i hi
                    simpa using this
                  have bk : BlkOk X.N X.env.scope scope (ownOf c.N scope.names) := by rw [ok.hN, ok.sc]; exact blkOk_by hb.1
                  refine ps_imp (ps_setLc (own := ownOf c.N scope.names) (i := i) ok.calm ok.nd (by rw [ok.hN]; exact slot_get0 hi) (by rw [ok.sc]; exact g2)
                    (sw_true (by rw [ok.sc]; exact g1) (by rw [ok.sc]; exact g2) (by simpa using g3) (by simpa using g4)) (S.it _ _ _ h3 X W tg hit ok) bk
                    (fun s H D0 cl fp => S.t _ _ _ h2 _ _ (ok.blk scope hb.1 s H D0 cl fp))
                    (g := rdG X.K cls (fun _ _ _ _ => False) t'.slots (asT C t')) (te := rdE X.K cls (fun _ _ _ _ => False) (ev C e').v) (tt := rdT X.K cls (fun _ _ _ _ => False) (tsO C o')) (fun s H D0 cl fp => pts_ifs S h4 (ok.blk scope hb.1 s H D0 cl fp)) (fun s H D0 cl fp => (S.e _ _ _ h1 _ _ (ok.blk scope hb.1 s H D0 cl fp)).1) (fold_plain hb.2)) fun D σ H hh => ?_
                  exact comp_rd hsl' (ofL_imp (rdE_mono (asg_rd hh) fun v H' ⟨α, δ, h, d, rp, rf, hv, p⟩ => p _ _ Ext.refl rp _ (rf.set i hv) Agree.set))
                · cases hl
              · cases hl
            · cases hl
          · cases hl
        · cases h
      · cases h
    · cases hs
  · cases hs
/-- name op= value -/
def rAug (o : BOp) : V → V → Hp → VK → Prop := fun x y H Q => (∃ i j, o = .add ∧ x = .int i ∧ y = .int j ∧ Q (.int (i + j)) H) ∨ (∃ i j, o = .sub ∧ x = .int i ∧ y = .int j ∧ Q (.int (i - j)) H) ∨
  ∃ i j : Str, o = .add ∧ x = .str i ∧ y = .str j ∧ i.length + j.length ≤ sizeLine ∧ Q (.str (i ++ j)) H
theorem pip_aug {o : BOp} : PIp X (toOp o) (rAug o) := fun pins s σ H x y v u Q I r1 r2 q => by
  rcases q with ⟨i, j, rfl, h1, h2, q⟩ | ⟨i, j, rfl, h1, h2, q⟩ | ⟨i, j, rfl, q⟩
  · exact ip_add pins s σ H x y v u Q I r1 r2 ⟨i, j, h1, h2, q⟩
  · exact ip_sub pins s σ H x y v u Q I r1 r2 ⟨i, j, h1, h2, q⟩
  · exact iop_add_str pins s σ H x y v u Q I r1 r2 ⟨i, j, q⟩
theorem aug_rd {i : Nat} {o : BOp} {e : E} {En : Ends} {σ : L2.St} {H : Hp} (hh : rdS X.K cls W (evS C (.aug i o e)) En σ H) : tAug i (rdE X.K cls W (ev C e).v) (rAug o) En σ H := by
  obtain ⟨α, δ, h, rp, rf, p⟩ := hh
  unfold evS at p
  cases hd : δ[i]? with
  | none => rw [hd] at p; exact p.elim
  | some oo =>
    cases oo with
    | none => rw [hd] at p; exact p.elim
    | some x =>
      rw [hd] at p
      obtain ⟨v, h1, h2⟩ := rf.sl i x hd
      refine ⟨v, h1, α, δ, h, rp, rf, (PostS.of_sbind p rf).mono fun y α1 H1 h1 e1 rp1 p1 u hu => ?_⟩
      have rf1 := rf.ext e1
      have hx := h2.ext e1
      have fin : ∀ (z : D) (w : V), augD h1 o x y = .ok z h1 → VR X.K α1 H1 z w → En.nx (σ.set i (some w)) H1 := fun z w e hw => by
        have p1 := p1
        rw [e] at p1
        exact p1 α1 _ H1 Ext.refl rp1 (rf1.set i hw)
      cases o with
      | add =>
        cases x with
        | int a => cases y with
          | int b => exact .inl ⟨a, b, rfl, vr_int hx, vr_int hu, fin _ _ rfl rfl⟩
          | _ => exact p1.elim
        | str a => cases y with
          | str b =>
            have hx' : v = .str (toS a) := hx
            have hu' : u = .str (toS b) := hu
            by_cases hz : a.length + b.length ≤ SL
            · exact .inr (.inr ⟨toS a, toS b, rfl, hx', hu', by rw [toS_length, toS_length, SL_eq]; exact hz, fin (.str (a ++ b)) _ (if_pos hz) (by show V.str _ = V.str _; rw [app_toS])⟩)
            · have e : augD h1 .add (.str a) (.str b) = .bad := if_neg hz
              rw [e] at p1; exact p1.elim
          | _ => exact p1.elim
        | _ => exact p1.elim
      | sub =>
        cases x with
        | int a => cases y with
          | int b => exact .inr (.inl ⟨a, b, rfl, vr_int hx, vr_int hu, fin _ _ rfl rfl⟩)
          | _ => exact p1.elim
        | _ => exact p1.elim
      | _ => exact p1.elim
/-! ### raise -/
theorem place_s : (toS nPlace : Str) = "place" := by decide +kernel
theorem reason_s : (toS nReason : Str) = "reason" := by decide +kernel
theorem mkX_ok {K : PySem.W.Frag} {α : List Addr} {H : Hp} {k : Xk} {ds : List D} {ws : List V} {fs : List (List Nat × D)} (h : mkX k ds = some fs) (hv : VRs K α H ds ws) :
    ∃ gs : List (Str × V), okW k ws gs ∧ gs.map (·.1) = fs.map (fun p => toS p.1) ∧ VRs K α H (fs.map (·.2)) (gs.map (·.2)) := by
  unfold mkX at h
  split at h
  · split at h
    · rename_i i hz
      cases h
      obtain ⟨v, rfl, h1⟩ := vrs1 hv
      exact ⟨[(("place" : Str), .int i)], ⟨i, by rw [vr_int h1], hz, rfl⟩, by simp [place_s], ⟨_, _, rfl, rfl, rfl⟩⟩
    · cases h
  · cases h
    obtain ⟨v, rfl, h1⟩ := vrs1 hv
    exact ⟨[(("reason" : Str), v)], ⟨v, rfl, rfl⟩, by simp [reason_s], ⟨_, _, rfl, h1, rfl⟩⟩
  · split at h
    · rename_i i s hz
      cases h
      obtain ⟨v, u, rfl, h1, h2⟩ := vrs2 hv
      refine ⟨[(("reason" : Str), .str (toS s)), (("place" : Str), .int i)], ⟨i, toS s, by rw [vr_int h1, vr_str h2], hz.1, ?_, rfl⟩, by simp [place_s, reason_s], ⟨_, _, rfl, rfl, ⟨_, _, rfl, rfl, rfl⟩⟩⟩
      rw [strOf_eq, toS_length, toS_length, SL_eq]
      exact hz.2
    · cases h
  · cases h
theorem ps_rais (ok : Ok X c C cls W k) {x : Str} {n : Nat} {kk : Xk} {e : Expr} {es : List Expr} {es' : Es} {p pos pos' : Pos} (hn : nameOk x = true) (hg : glB c.sc x = true) (hs : noStar e = true) (hx : c.exs.lookup x = some (n, kk)) (h : PA X (e :: es) (rdEs X.K cls W (evs C es'))) (hst : ∀ y ∈ e :: es, noStar y = true) :
    PS X (.Raise (some (.Call (.Name x p) (e :: es) [] pos)) none pos') (rdS X.K cls W (evS C (.rais n kk es'))) := by
  obtain ⟨n1, n2, n3⟩ := name_ok hn
  obtain ⟨Cc, hc, F⟩ := ok.fa.ex x n kk hx
  obtain ⟨fI, fd, ps, f1, f2, f3, f4⟩ := F.f
  by_cases hl : C.lvl < 2
  · exact ps_imp ps_never fun D σ H ⟨α, δ, h, rp, rf, p⟩ => by
      have e : evS C (.rais n kk es') δ h = .bad := if_pos hl
      rw [e] at p
      exact p
  · have hr : Room 2 X.A := ok.room.mono (by have := ok.lv; omega)
    refine ps_imp (ps_raise ok.calm ok.tk (pmk_oex F.T f1 f2 f3 hr f4 .nil (fun _ _ _ _ _ _ _ z => z.elim) (gl_of (by rw [ok.sc]; exact hg)) F.g h n1 (star_cons hs) (star_plain fun y hy => hst y (List.mem_cons_of_mem _ hy)))) fun D σ H ⟨α, δ, h, rp, rf, p⟩ => ?_
    have e : evS C (.rais n kk es') δ h = (evs C es' δ h).sbind δ fun ds h => match mkX kk ds with
      | some fs => .exc n fs δ h
      | none => .bad := if_neg hl
    rw [e] at p
    refine ⟨α, δ, h, rp, rf, (PostS.of_sbind p rf).mono fun ds α1 H1 h1 e1 rp1 p1 ws hv => ?_⟩
    cases hm : mkX kk ds with
    | none => rw [hm] at p1; exact p1.elim
    | some fs =>
      rw [hm] at p1
      obtain ⟨gs, ok1, g1, g2⟩ := mkX_ok hm hv
      have hlen : ws.length ≤ 1000 := by
        cases kk with
        | place => obtain ⟨i, rfl, _⟩ := ok1; simp
        | reason => obtain ⟨v, rfl, _⟩ := ok1; simp
        | text => obtain ⟨i, s, rfl, _⟩ := ok1; simp
      refine ⟨hlen, fun a ha => ?_⟩
      rw [List.append_nil]
      refine ⟨a, ws, gs, rfl, ok1, upd_same, fun dx H' hd hne ea ed hoth => ⟨rfl, dx, gs, ea, ed, ?_, ?_⟩⟩
      · rw [upd_ne hne] at hd; exact hd
      · have hd1 : H1 dx = none := by rw [upd_ne hne] at hd; exact hd
        have eH : ∀ b, b ≠ dx → upd (del H' a) dx (.xd gs) b = H1 b := fun b hb => by
          rw [upd_ne hb]
          by_cases hba : b = a
          · rw [hba, del_same, ha]
          · rw [del_ne hba, hoth b hba hb, upd_ne hba]
        have e2 : Ext α1 H1 α1 (upd (del H' a) dx (.xd gs)) := ⟨List.prefix_rfl, fun _ h n => absurd h n, fun b u q _ => by rw [eH b (ne_of_none q hd1)]; exact q, fun b vs q => by rw [eH b (ne_of_none q hd1)]; exact q, fun b o u q => by rw [eH b (ne_of_none q hd1)]; exact q⟩
        have rp2 : RepH X.K α1 (upd (del H' a) dx (.xd gs)) h1 := rp1.same e2.e0 fun b hb u q => by rw [eH b (ne_of_none q hd1)]; exact q
        exact p1 α1 σ _ _ _ e2 rp2 ((rf.ext e1).ext e2) ⟨Cc, dx, gs, hc, rfl, rfl, upd_same, g1, g2.ext e2⟩
/-! ### try -/
theorem exc_in {K : PySem.W.Frag} {hit : List Nat} {su : SU} {y : Value} {i n : Nat} {fs : List (List Nat × D)} {α α' : List Addr} {σ' : L2.St} {H H' : Hp} {δ' : Fr} {h' : DH} {cv : Value} {dd : Option Addr} {En : Ends} (hy : ∀ (n : Nat) (Cc : Addr), cls n = some Cc → PySem.W.exmOne K (.ref Cc) y = some (hit.contains n))
    (p : PostS K cls W α H (if hit.contains n = true then (if i < δ'.length then (match su.v n fs with | some d => SO.rt d h' | none => .bad) else .bad) else .exc n fs δ' h') En) (e : Ext α H α' H') (r : RepH K α' H' h') (f : RepF K α' H' σ' δ') (x : XR K cls n fs α' H' cv dd) :
    ∃ b, PySem.W.exmOne K cv y = some b ∧ (b = true → i < σ'.length ∧ ∃ d, su.v n fs = some d ∧ ∀ α2 H2 v, Ext α' H' α2 H2 → RepH K α2 H2 h' → VR K α2 H2 d v → En.rt v H2) ∧ (b = false → W cv dd σ' H') := by
  obtain ⟨Cc, d, gs, x1, x2, x3, x4, x5, x6⟩ := id x
  refine ⟨hit.contains n, by rw [x2]; exact hy n Cc x1, fun hb => ?_, fun hb => ?_⟩
  · rw [if_pos hb] at p
    by_cases hi : i < δ'.length
    · rw [if_pos hi] at p
      refine ⟨by rw [f.len]; exact hi, ?_⟩
      cases hs : su.v n fs with
      | none => rw [hs] at p; exact p.elim
      | some d => rw [hs] at p; exact ⟨d, rfl, fun α2 H2 v e2 r2 hv => p α2 H2 v (e.trans e2) r2 hv⟩
    · rw [if_neg hi] at p; exact p.elim
  · rw [if_neg (by rw [hb]; decide)] at p
    exact p α' σ' H' cv dd e r f x
theorem try_rd {K : PySem.W.Frag} {b : Ss} {hit : List Nat} {su : SU} {y : Value} {i : Nat} {En : Ends} {σ : L2.St} {H : Hp} {Wx : WX} (hy : ∀ (n : Nat) (Cc : Addr), cls n = some Cc → PySem.W.exmOne K (.ref Cc) y = some (hit.contains n))
    (hW : ∀ (n : Nat) (fs : List (List Nat × D)) (α' : List Addr) (σ' : L2.St) (H' : Hp) (h' : DH) (cv : Value) (dd : Option Addr) (b : Bool), PySem.W.exmOne K cv y = some b → RepH K α' H' h' → XR K cls n fs α' H' cv dd → (b = true → i < σ'.length ∧ ∃ d, su.v n fs = some d ∧ ∀ α2 H2 v, Ext α' H' α2 H2 → RepH K α2 H2 h' → VR K α2 H2 d v → En.rt v H2) → (b = false → W cv dd σ' H') → Wx cv dd σ' H')
    (hh : rdS K cls W (evS C (.tryX b hit i su)) En σ H) : rdS K cls Wx (evSs C b) En σ H := by
  obtain ⟨α, δ, h, rp, rf, p⟩ := hh
  refine ⟨α, δ, h, rp, rf, ?_⟩
  unfold evS at p
  cases hb : evSs C b δ h with
  | nx _ _ => rw [hb] at p; exact p
  | rt _ _ => rw [hb] at p; exact p
  | brk _ _ => rw [hb] at p; exact p
  | cnt _ _ => rw [hb] at p; exact p
  | bad => rw [hb] at p; exact p.elim
  | exc n fs δ' h' =>
    rw [hb] at p
    intro α' σ' H' cv dd e r f x
    obtain ⟨b, h1, h2, h3⟩ := exc_in hy p e r f x
    exact hW n fs α' σ' H' h' cv dd b h1 r x h2 h3
theorem ps_try (ok : OkS X c C cls W k) (Q : SndS q C cls k) {y : Str} {nm : Option Str} {b0 : List Stmt} {s0 : Stmt} {su : List Stmt} {np pos' pos : Pos} {b : Ss} {hit : List Nat} {su' : SU} {en : Str} {i m : Nat} (hn : nameOk y = true) (hg : glB c.sc y = true) (hb : q.ss c b0 = some b) (hx : c.exn.lookup y = some hit)
    (hs : cSU c en m (s0 :: su) = some su') (hm : (nm = none ∧ en = "") ∨ (nm = some en ∧ nameOk en = true ∧ locB c.sc en = true ∧ slotOf c.N en 0 = some i)) :
    PS X (.Try b0 [.ExceptHandler (some (.Name y np)) nm (s0 :: su) pos'] [] [] pos) (rdS X.K cls W (evS C (.tryX b hit i su'))) := by
  obtain ⟨n1, n2, n3⟩ := name_ok hn
  obtain ⟨Y, y1, y2⟩ := ok.fa.su.n y hit hx
  have nms : Names X y (.ref Y) := ⟨gl_of (by rw [ok.sc]; exact hg), n1, .inl y1⟩
  have body : ∀ (W' : WX) (pn : List (Addr × Obj)) (xe : Value → Shared → Prop), Takes (X.tr pn xe) W' → PassesOwn (model X.prog X.w) X.A X.env xe → PSs (X.tr pn xe) b0 (rdS X.K cls W' (evSs C b)) := fun W' pn xe tk po =>
    Q.ss _ _ _ hb (X.tr pn xe) W' { hN := ok.hN, nd := ok.nd, sc := ok.sc, calm := ok.calm, po := po, tk := tk, room := ok.room, lv := ok.lv, asn := ok.asn, fa := ok.fa, hs := ok.hs, hf := ok.hf }
  have loc : ∀ x, locB c.sc x = true → X.env.kindOf x = some .local := fun x h => by
    show X.env.scope.names.lookup x = _
    rw [ok.sc]
    unfold locB at h
    split at h
    · rename_i e; exact e
    · cases h
  have sok : SuOk X c cls en i := {
    sc := ok.sc
    nm := fun ne => by
      rcases hm with ⟨_, e⟩ | ⟨_, _, _, e⟩
      · exact absurd e ne
      · rw [ok.hN]; exact slot_get0 e
    nd := ok.nd
    lo := fun ne => by
      rcases hm with ⟨_, e⟩ | ⟨_, _, e, _⟩
      · exact absurd e ne
      · exact loc _ e
    ok := fun ne => by
      rcases hm with ⟨_, e⟩ | ⟨_, e, _, _⟩
      · exact absurd e ne
      · exact e
    fr := ok.fa.fr
    F := ok.fa.su }
  rcases hm with ⟨rfl, he⟩ | ⟨rfl, e1, e2, e3⟩
  · refine ps_imp (ps_try_only ok.hs ok.hf nms ok.tk body (fun a oe cv dd pn hz hf => su_stm sok hz hf hs)) fun En σ H hh => try_rd (fun n Cc hc => (y2 n Cc hc).1) (fun n fs α' σ' H' h' cv dd b h1 r x h2 h3 => ?_) hh
    refine ⟨b, h1, fun hb a ha => ?_, h3⟩
    obtain ⟨_, d, hd, q⟩ := h2 hb
    exact ⟨n, fs, α', h', ⟨r, x, fun ne => absurd he ne⟩, d, hd, q⟩
  · refine ps_imp (ps_try_as (i := i) ok.hs ok.hf ok.nd (by rw [ok.hN]; exact slot_get0 e3) (loc _ e2) nms ok.tk body (fun a oe cv dd pn hz hf => su_stm sok hz hf hs)) fun En σ H hh => try_rd (fun n Cc hc => (y2 n Cc hc).1) (fun n fs α' σ' H' h' cv dd b h1 r x h2 h3 => ?_) hh
    refine ⟨b, h1, fun hb a ha => ?_, h3⟩
    obtain ⟨hi, d, hd, q⟩ := h2 hb
    exact ⟨n, fs, α', h', ⟨r, x, fun _ => by rw [List.getElem?_set_self hi]⟩, d, hd, q⟩
theorem ps_tryA (ok : OkS X c C cls W k) (Q : SndS q C cls k) {y en t f : Str} {b0 : List Stmt} {p0 p1 p2 p3 apos cpos np pos' pos : Pos} {b : Ss} {hit : List Nat} {i j : Nat} (hn : nameOk y = true) (hg : glB c.sc y = true) (e1 : nameOk en = true) (e2 : locB c.sc en = true) (ne : en ≠ ("" : Str)) (hfn : f = ("place" : Str) ∨ f = ("reason" : Str))
    (t1 : nameOk t = true) (t2 : locB c.sc t = true) (hline : (apos.endLine == cpos.line) = true) (hb : q.ss c b0 = some b) (hx : c.exn.lookup y = some hit) (hi : slotOf c.N en 0 = some i) (hj : slotOf c.N t 0 = some j) :
    PS X (.Try b0 [.ExceptHandler (some (.Name y np)) (some en) [.Expr (.Call (.Attribute (.Name t p0) "append" apos) [.Attribute (.Name en p1) f p2] [] cpos) p3] pos'] [] [] pos) (rdS X.K cls W (evS C (.tryA b hit i j f.cps.toList))) := by
  obtain ⟨n1, n2, n3⟩ := name_ok hn
  obtain ⟨Y, y1, y2⟩ := ok.fa.su.n y hit hx
  have nms : Names X y (.ref Y) := ⟨gl_of (by rw [ok.sc]; exact hg), n1, .inl y1⟩
  have body : ∀ (W' : WX) (pn : List (Addr × Obj)) (xe : Value → Shared → Prop), Takes (X.tr pn xe) W' → PassesOwn (model X.prog X.w) X.A X.env xe → PSs (X.tr pn xe) b0 (rdS X.K cls W' (evSs C b)) := fun W' pn xe tk po =>
    Q.ss _ _ _ hb (X.tr pn xe) W' { hN := ok.hN, nd := ok.nd, sc := ok.sc, calm := ok.calm, po := po, tk := tk, room := ok.room, lv := ok.lv, asn := ok.asn, fa := ok.fa, hs := ok.hs, hf := ok.hf }
  have loc : ∀ x, locB c.sc x = true → X.env.kindOf x = some .local := fun x h => by
    show X.env.scope.names.lookup x = _
    rw [ok.sc]
    unfold locB at h
    split at h
    · rename_i e; exact e
    · cases h
  have sok : SuOk X c cls en i := { sc := ok.sc, nm := fun _ => by rw [ok.hN]; exact slot_get0 hi, nd := ok.nd, lo := fun _ => loc _ e2, ok := fun _ => e1, fr := ok.fa.fr, F := ok.fa.su }
  refine ps_imp (ps_try_as (i := i) ok.hs ok.hf ok.nd (by rw [ok.hN]; exact slot_get0 hi) (loc _ e2) nms ok.tk body (fun a oe cv dd pn hz hf => su_app sok hz hf ne hfn (by rw [ok.hN]; exact slot_get0 hj) (loc _ t2) t1 hline)) fun En σ H hh => ?_
  obtain ⟨α, δ, h, rp, rf, p⟩ := hh
  refine ⟨α, δ, h, rp, rf, ?_⟩
  unfold evS at p
  cases hb : evSs C b δ h with
  | nx _ _ => rw [hb] at p; exact p
  | rt _ _ => rw [hb] at p; exact p
  | brk _ _ => rw [hb] at p; exact p
  | cnt _ _ => rw [hb] at p; exact p
  | bad => rw [hb] at p; exact p.elim
  | exc n fs δ' h' =>
    rw [hb] at p
    intro α' σ' H' cv dd e r f' x
    obtain ⟨Cc, d, gs, x1, x2, x3, x4, x5, x6⟩ := id x
    have p : PostS X.K cls W α H (if hit.contains n = true then (if i < δ'.length ∧ i ≠ j then (match δ'[j]?, fs.lookup f.cps.toList with
      | some (some x), some d => (appD h' x [d]).sbind (δ'.set i none) fun _ h2 => .nx (δ'.set i none) h2
      | _, _ => SO.bad) else .bad) else .exc n fs δ' h') En := p
    refine ⟨hit.contains n, by rw [x2]; exact (y2 n Cc x1).1, fun hb a ha => ?_, fun hb => ?_⟩
    · rw [if_pos hb] at p
      by_cases hz : i < δ'.length ∧ i ≠ j
      · rw [if_pos hz] at p
        have hi' : i < σ'.length := by rw [f'.len]; exact hz.1
        split at p
        · rename_i xx dv q1 q2
          obtain ⟨u, u1, u2⟩ := f'.sl j xx q1
          cases hap : appD h' xx [dv] with
          | bad => rw [hap] at p; exact p.elim
          | exc _ _ _ =>
            exfalso
            unfold appD at hap
            split at hap
            · split at hap
              · split at hap <;> cases hap
              · cases hap
            · cases hap
          | ok rr h2 =>
            rw [hap] at p
            refine ⟨n, fs, α', h', xx, u, dv, h2, rr, ⟨r, x, fun _ => by rw [List.getElem?_set_self hi']⟩, by rw [List.getElem?_set_ne hz.2]; exact u1, u2, q2, hap, fun α2 H2 e2 r2 => ?_⟩
            show En.nx ((σ'.set i (some (.ref a))).set i none) H2
            rw [List.set_set]
            exact p α2 (σ'.set i none) H2 (e.trans e2) r2 ((f'.ext e2).none i)
        · exact p.elim
      · rw [if_neg hz] at p; exact p.elim
    · rw [if_neg (by rw [hb]; decide)] at p
      exact p α' σ' H' cv dd e r f' x
/-! ### x, y = a, b -/
theorem loc_of {x : Str} {sc : Scope} (h : locB sc x = true) : sc.names.lookup x = some .local := by
  unfold locB at h
  split at h
  · rename_i e; exact e
  · cases h
theorem nostar_any {vs : List Expr} (h : ∀ e ∈ vs, noStar e = true) : (vs.any fun | .Starred .. => true | _ => false) = false := by
  rw [List.any_eq_false]
  intro e he
  have := h e he
  cases e <;> first | (intro z; cases z; done) | (cases this; done)
theorem dup2 {x y : Str} (h : (x == y) = false) : [x, y].eraseDups = [x, y] := by
  have h' : (y == x) = false := by
    rw [beq_eq_false_iff_ne] at h ⊢
    exact fun z => h z.symm
  rw [List.eraseDups_cons, List.filter_cons, List.filter_nil, h']
  rfl
theorem dup3 {x y z : Str} (h1 : (x == y) = false) (h2 : (x == z) = false) (h3 : (y == z) = false) : [x, y, z].eraseDups = [x, y, z] := by
  have h1' : (y == x) = false := by
    rw [beq_eq_false_iff_ne] at h1 ⊢
    exact fun z => h1 z.symm
  have h2' : (z == x) = false := by
    rw [beq_eq_false_iff_ne] at h2 ⊢
    exact fun z => h2 z.symm
  rw [List.eraseDups_cons, List.filter_cons, List.filter_cons, List.filter_nil, h1', h2']
  show x :: [y, z].eraseDups = _
  rw [dup2 h3]
theorem sw2 {env : Env} {x y : Str} {px py pt pt2 : Pos} {kt k2 : Nat} {a b : Expr} (hb : env.blockKind = .function) (lx : env.kindOf x = some .local) (ly : env.kindOf y = some .local) (hl : px.line = py.line) (hxy : (x == y) = false)
    (g6 : [a, b].all (foldedForSure 8) = false) (g7 : [a, b].all (constantsAlone 8) = false) (f2 : ∀ e ∈ [a, b], noStar e = true) : swappedStores [.Tuple [.Name x px, .Name y py] kt pt] (.Tuple [a, b] k2 pt2) env = pure (some [x, y]) := by
  have nm : ([Expr.Name x px, .Name y py].filterMap fun
    | .Name id pos => if env.kindOf id == some .local && pos.line == (([Expr.Name x px, .Name y py].head?.map (·.pos.line)).getD 0) then some id else none
    | _ => none) = [x, y] := by
    simp only [List.filterMap_cons, List.filterMap_nil, lx, ly, List.head?, Option.map, Option.getD, Expr.pos, hl]
    simp
  have st := nostar_any f2
  unfold swappedStores
  dsimp only
  refine (if_neg (by rw [hb]; intro z; cases z)).trans ?_
  refine (if_neg (by rw [Bool.not_eq_true]; exact st)).trans ?_
  refine (if_neg (by
    rw [Bool.not_eq_true]
    have e1 : ∀ l : List Str, l = [x, y] → (l.length != 2 || l.eraseDups.length != l.length) = false := by
      intro l hl
      rw [hl, dup2 hxy]
      rfl
    exact e1 _ nm)).trans ?_
  refine (if_neg (by rw [g6]; decide)).trans ?_
  refine (if_neg (by rw [g7]; decide)).trans ?_
  exact congrArg (fun l => pure (some l)) nm
theorem sw3 {env : Env} {x y z : Str} {px py pz pt pt2 : Pos} {kt k2 : Nat} {a b d : Expr} (hb : env.blockKind = .function) (lx : env.kindOf x = some .local) (ly : env.kindOf y = some .local) (lz : env.kindOf z = some .local) (hl : px.line = py.line) (hl2 : px.line = pz.line) (hxy : (x == y) = false) (hxz : (x == z) = false) (hyz : (y == z) = false)
    (g6 : [a, b, d].all (foldedForSure 8) = false) (g7 : [a, b, d].all (constantsAlone 8) = false) (f2 : ∀ e ∈ [a, b, d], noStar e = true) : swappedStores [.Tuple [.Name x px, .Name y py, .Name z pz] kt pt] (.Tuple [a, b, d] k2 pt2) env = pure (some [x, y, z]) := by
  have nm : ([Expr.Name x px, .Name y py, .Name z pz].filterMap fun
    | .Name id pos => if env.kindOf id == some .local && pos.line == (([Expr.Name x px, .Name y py, .Name z pz].head?.map (·.pos.line)).getD 0) then some id else none
    | _ => none) = [x, y, z] := by
    simp only [List.filterMap_cons, List.filterMap_nil, lx, ly, lz, List.head?, Option.map, Option.getD, Expr.pos, ← hl, ← hl2]
    simp
  have st := nostar_any f2
  unfold swappedStores
  dsimp only
  refine (if_neg (by rw [hb]; intro z; cases z)).trans ?_
  refine (if_neg (by rw [Bool.not_eq_true]; exact st)).trans ?_
  refine (if_neg (by
    rw [Bool.not_eq_true]
    have e1 : ∀ l : List Str, l = [x, y, z] → (l.length != 3 || l.eraseDups.length != l.length) = false := by
      intro l hl
      rw [hl, dup3 hxy hxz hyz]
      rfl
    exact e1 _ nm)).trans ?_
  refine (if_neg (by rw [g6]; decide)).trans ?_
  refine (if_neg (by rw [g7]; decide)).trans ?_
  exact congrArg (fun l => pure (some l)) nm
theorem ps_parS (ok : Ok X c C cls W k) (S : Snd r C cls k) {t v : Expr} {st : FD.S} {pos : Pos} (hs : parB c t v = true) (h : cPar r c t v = some st) : PS X (.Assign [t] v pos) (rdS X.K cls W (evS C st)) := by
  have kof : ∀ x, X.env.kindOf x = X.env.scope.names.lookup x := fun _ => rfl
  unfold parB at hs
  split at hs
  · rename_i x px y py kt pt a b k2 pt2
    simp only [Bool.and_eq_true, beq_iff_eq, Bool.not_eq_true'] at hs
    obtain ⟨⟨⟨⟨⟨⟨⟨⟨g1, g2⟩, g3⟩, g4⟩, g5⟩, g6⟩, g7⟩, g8⟩, g9⟩ := hs
    unfold cPar at h
    dsimp only at h
    split at h
    · rename_i i j es hi hj hes
      cases h
      obtain ⟨f1, f2, _⟩ := S.es _ _ _ hes X W ok
      have lx : X.env.scope.names.lookup x = some .local := by rw [ok.sc]; exact loc_of g2
      have ly : X.env.scope.names.lookup y = some .local := by rw [ok.sc]; exact loc_of g3
      have hb : X.env.blockKind = .function := by unfold Env.blockKind; rw [ok.sc, g1]; rfl
      have nxy : (x == y) = false := g5
      have hij : i ≠ j := fun z => by
        subst z
        have e1 := slot_get0 hi
        have e2 := slot_get0 hj
        rw [e1] at e2
        cases e2
        simp at nxy
      have sw : swappedStores [.Tuple [.Name x px, .Name y py] kt pt] (.Tuple [a, b] k2 pt2) X.env = pure (some [x, y]) := by
        exact sw2 hb lx ly g4 nxy g6 g7 f2
      refine ps_imp (ps_par (i := i) (j := j) ok.calm ok.nd (by rw [ok.hN]; exact slot_get0 hi) (by rw [ok.hN]; exact slot_get0 hj) hij lx ly f1 sw rfl) fun D σ H ⟨α, δ, h, rp, rf, p⟩ => ?_
      refine ⟨α, δ, h, rp, rf, (PostS.of_sbind p rf).mono fun ds α1 H1 h1 e1 rp1 p1 vs hv => ?_⟩
      have two : ∃ d e, ds = [d, e] := by
        match ds, p1 with
        | [], p1 => exact p1.elim
        | [_], p1 => exact p1.elim
        | [d, e], _ => exact ⟨d, e, rfl⟩
        | _ :: _ :: _ :: _, p1 => exact p1.elim
      obtain ⟨d, e, rfl⟩ := two
      obtain ⟨u, w, rfl, q1, q2⟩ := vrs2 hv
      exact ⟨u, w, rfl, p1 α1 _ H1 Ext.refl rp1 (((rf.ext e1).set i q1).set j q2)⟩
    · cases h
  · rename_i x px y py z pz kt pt a b d k2 pt2
    simp only [Bool.and_eq_true, beq_iff_eq, Bool.not_eq_true'] at hs
    obtain ⟨⟨⟨⟨⟨⟨⟨⟨⟨⟨⟨⟨⟨g1, g2⟩, g3⟩, g3'⟩, g4⟩, g4'⟩, g5⟩, g5'⟩, g5''⟩, g6⟩, g7⟩, g8⟩, g9⟩, g10⟩ := hs
    unfold cPar at h
    dsimp only at h
    split at h
    · rename_i i j l es hi hj hll hes
      cases h
      obtain ⟨f1, f2, _⟩ := S.es _ _ _ hes X W ok
      have lx : X.env.scope.names.lookup x = some .local := by rw [ok.sc]; exact loc_of g2
      have ly : X.env.scope.names.lookup y = some .local := by rw [ok.sc]; exact loc_of g3
      have lz : X.env.scope.names.lookup z = some .local := by rw [ok.sc]; exact loc_of g3'
      have hb : X.env.blockKind = .function := by unfold Env.blockKind; rw [ok.sc, g1]; rfl
      have ne : ∀ {x y : Str} {i j : Nat}, (x == y) = false → slotOf c.N x 0 = some i → slotOf c.N y 0 = some j → i ≠ j := fun nxy hi hj z => by
        subst z
        have e1 := slot_get0 hi
        have e2 := slot_get0 hj
        rw [e1] at e2
        cases e2
        simp at nxy
      refine ps_imp (ps_par3 (i := i) (j := j) (l := l) ok.calm ok.nd (by rw [ok.hN]; exact slot_get0 hi) (by rw [ok.hN]; exact slot_get0 hj) (by rw [ok.hN]; exact slot_get0 hll) (ne g5 hi hj) (ne g5' hi hll) (ne g5'' hj hll) lx ly lz f1 (sw3 hb lx ly lz g4 g4' g5 g5' g5'' g6 g7 f2) rfl) fun D σ H ⟨α, δ, h, rp, rf, p⟩ => ?_
      refine ⟨α, δ, h, rp, rf, (PostS.of_sbind p rf).mono fun ds α1 H1 h1 e1 rp1 p1 vs hv => ?_⟩
      have three : ∃ d e f, ds = [d, e, f] := by
        match ds, p1 with
        | [], p1 => exact p1.elim
        | [_], p1 => exact p1.elim
        | [_, _], p1 => exact p1.elim
        | [d, e, f], _ => exact ⟨d, e, f, rfl⟩
        | _ :: _ :: _ :: _ :: _, p1 => exact p1.elim
      obtain ⟨d, e, f, rfl⟩ := three
      obtain ⟨u, w, v, rfl, q1, q2, q3⟩ := vrs3 hv
      exact ⟨u, w, v, rfl, p1 α1 _ H1 Ext.refl rp1 ((((rf.ext e1).set i q1).set j q2).set l q3)⟩
    · cases h
  · cases hs
theorem bt_ok (S : Snd r C cls k) (ok : Ok X c C cls W k) {v : Expr} {v' : E} (h : cBt r c v = some v') : PE X v (rdE X.K cls W (ev C v').v) := by
  unfold cBt at h
  split at h
  · split at h
    · rename_i hh
      simp only [Bool.and_eq_true, beq_iff_eq] at hh
      obtain ⟨h1, rfl⟩ := hh
      obtain ⟨l, hl, rfl⟩ := Option.map_eq_some_iff.mp h
      exact snd_btup ok h1 rfl (S.l _ _ _ hl X W ok)
    · exact (S.e _ _ _ h X W ok).1
  · exact (S.e _ _ _ h X W ok).1
theorem sS_ok (S : Snd r C cls k) (Q : SndS q C cls k) (c : CC) (st : Stmt) (t : FD.S) (h : sS r q c st = some t) (X : Cx) (W : WX) (ok : OkS X c C cls W k) : PS X st (rdS X.K cls W (evS C t)) := by
    unfold sS at h
    split at h
    · split at h
      · rename_i hh
        split at h
        · rename_i o' v' h1 h2
          cases h
          exact snd_sfld ok.toOk hh (S.e _ _ _ h1 X W ok.toOk).1 (bt_ok S ok.toOk h2)
        · cases h
      · cases h
    · rename_i tg v pos _
      split at h
      · rename_i hp
        exact ps_parS ok.toOk S hp h
      split at h
      · rename_i ho
        split at h
        · rename_i hs
          exact ps_set_sw ok.toOk S hs h
        · rename_i hs
          have hs' : swB c tg v = false := by simpa using hs
          split at h
          · rename_i t' v' h1 h2
            cases h
            have hn : noStar tg = true := by
              unfold okAsg at ho
              simp only [Bool.and_eq_true] at ho
              exact ho.1.1.2
            exact ps_imp (ps_asg (S.e _ _ _ h2 X W ok.toOk).1 (S.t _ _ _ h1 X W ok.toOk) (sole_false ok.sc ho hs') (stores_none ho) (each_one hn)) fun D σ H hh => asg_rd hh
          · cases h
      · cases h
    · rename_i x p1 op v p2
      split at h
      · rename_i ha
        split at h
        · rename_i i o v' h1 h2 h3
          obtain ⟨g1, g2⟩ := ok.asn x ha
          have key : PS X (.AugAssign (.Name x p1) op v p2) (rdS X.K cls W (evS C (.aug i o v'))) := by
            rw [toOp_of h2]
            exact ps_imp (ps_aug (i := i) ok.nd (by rw [ok.hN]; exact slot_get0 h1) g1 (S.e _ _ _ h3 X W ok.toOk).1 pip_aug g2) fun D σ H hh => aug_rd hh
          cases o <;> first | (cases h; exact key) | cases h
        · cases h
      · cases h
    · rename_i e pos
      split at h
      · rename_i hn
        obtain ⟨e', he, rfl⟩ := Option.map_eq_some_iff.mp h
        refine ps_imp (ps_expr (S.e _ _ _ he X W ok.toOk).1 (by cases e <;> first | rfl | cases hn)) fun D σ H ⟨α, δ, h, rp, rf, p⟩ => ?_
        exact ⟨α, δ, h, rp, rf, (PostS.of_sbind p rf).mono fun d α1 H1 h1 e1 rp1 p1 v hv => p1 α1 σ H1 Ext.refl rp1 (rf.ext e1)⟩
      · cases h
    · cases h
      exact ps_imp ps_retN fun D σ H ⟨α, δ, h, rp, rf, p⟩ => p α H _ Ext.refl rp rfl
    · rename_i e pos
      obtain ⟨e', he, rfl⟩ := Option.map_eq_some_iff.mp h
      refine ps_imp (ps_ret (S.e _ _ _ he X W ok.toOk).1) fun D σ H ⟨α, δ, h, rp, rf, p⟩ => ?_
      exact ⟨α, δ, h, rp, rf, (PostS.of_sbind p rf).mono fun d α1 H1 h1 e1 rp1 p1 v hv => p1 α1 H1 v Ext.refl rp1 hv⟩
    · split at h
      · rename_i t' a' b' h1 h2 h3
        cases h
        refine ps_imp (ps_if (S.e _ _ _ h1 X W ok.toOk).2 (Q.ss _ _ _ h2 X W ok) (Q.ss _ _ _ h3 X W ok)) fun D σ H ⟨α, δ, h, rp, rf, p⟩ => ?_
        refine ⟨α, δ, h, rp, rf, (PostS.of_sbind p rf).mono fun b α1 H1 h1 e1 rp1 p1 => ?_⟩
        cases b with
        | true => exact ⟨α1, δ, h1, rp1, rf.ext e1, p1⟩
        | false => exact ⟨α1, δ, h1, rp1, rf.ext e1, p1⟩
      · cases h
    · split at h
      · rename_i t' a' h1 h2
        cases h
        exact ps_imp (ps_while ok.po (S.e _ _ _ h1 X W ok.toOk).2 (Q.ss _ _ _ h2 X W ok)) fun D σ H hh => whl_rd hh
      · cases h
    · split at h
      · rename_i hn
        split at h
        · rename_i t' i' a' h1 h2 h3
          split at h
          case isFalse => cases h
          rename_i hit
          cases h
          exact ps_imp (ps_for ok.po ok.calm (S.it _ _ _ h2 X W _ hit ok.toOk) (S.t _ _ _ h1 X W ok.toOk) (Q.ss _ _ _ h3 X W ok) (fold_plain hn)) fun D σ H hh => for_rd hh
        · cases h
      · cases h
    · cases h
      exact ps_imp ps_break fun D σ H ⟨α, δ, h, rp, rf, p⟩ => p α σ H Ext.refl rp rf
    · cases h
      exact ps_imp ps_continue fun D σ H ⟨α, δ, h, rp, rf, p⟩ => p α σ H Ext.refl rp rf
    · cases h
      exact ps_imp ps_pass fun D σ H ⟨α, δ, h, rp, rf, p⟩ => p α σ H Ext.refl rp rf
    · rename_i x p e es pos pos'
      split at h
      · rename_i n kk hb hx
        simp only [Bool.and_eq_true] at hb
        obtain ⟨es', hes, rfl⟩ := Option.map_eq_some_iff.mp h
        obtain ⟨g1, g2, _⟩ := S.es _ _ _ hes X W ok.toOk
        exact ps_rais ok.toOk hb.1.1 hb.1.2 hb.2 hx g1 g2
      · cases h
        exact ps_imp ps_never fun D σ H ⟨α, δ, h, rp, rf, p⟩ => p
    · split at h
      · rename_i hc
        simp only [Bool.and_eq_true, beq_iff_eq, Bool.or_eq_true] at hc
        obtain ⟨⟨⟨⟨⟨⟨⟨⟨⟨⟨c1, c2⟩, c3⟩, c4⟩, c5⟩, rfl⟩, rfl⟩, c8⟩, c9⟩, c10⟩, c11⟩ := hc
        split at h
        · rename_i b hit i j h1 h2 h3 h4
          cases h
          exact ps_tryA ok Q c1 c2 c3 c4 (by simpa using c5) c8 c9 c10 (beq_iff_eq.mpr c11) h1 h2 h3 h4
        · cases h
      · cases h
    · split at h
      · rename_i hc
        simp only [Bool.and_eq_true] at hc
        split at h
        · rename_i b hit su' i h1 h2 h3 h4
          cases h
          exact ps_try ok Q hc.1.1.1.1 hc.1.1.1.2 h1 h2 h3 (.inr ⟨rfl, hc.1.1.2, hc.1.2, h4⟩)
        · cases h
      · cases h
    · split at h
      · rename_i hc
        simp only [Bool.and_eq_true] at hc
        split at h
        · rename_i b hit su' h1 h2 h3
          cases h
          exact ps_try ok Q hc.1 hc.2 h1 h2 h3 (.inl ⟨rfl, rfl⟩)
        · cases h
      · cases h
    · cases h
      exact ps_imp ps_never fun D σ H ⟨α, δ, h, rp, rf, p⟩ => p
    · cases h
theorem stepS_ok (S : Snd r C cls k) (Q : SndS q C cls k) : SndS ⟨fun c st => some (sS2 r q c st), sSs q⟩ C cls k where
  s := fun c st t h X W ok => by
    have h' : sS2 r q c st = t := Option.some.inj h
    subst h'
    have nev : PS X st (rdS X.K cls W (evS C .never)) := ps_imp ps_never fun D σ H ⟨α, δ, h, rp, rf, p⟩ => p
    unfold sS2
    split
    · split
      · rename_i x f hlk i s hi hs
        exact ps_imp (ps_lock (sS_ok S Q c st s hs X (fun _ _ _ _ => False) { hN := ok.hN, nd := ok.nd, sc := ok.sc, calm := ok.calm, po := ok.po, tk := takes0, room := ok.room, lv := ok.lv, asn := ok.asn, fa := ok.fa, hs := ok.hs, hf := ok.hf })) fun D σ H hh => lock_rd hh
      · exact nev
    · cases hs : sS r q c st with
      | none => exact nev
      | some s => exact sS_ok S Q c st s hs X W ok
  ss := fun c st t h X W ok => by
    replace h : sSs q c st = some t := h
    unfold sSs at h
    split at h
    · cases h
      exact pss_imp pss_nil fun D σ H ⟨α, δ, h, rp, rf, p⟩ => p α σ H Ext.refl rp rf
    · split at h
      · rename_i s' ss' h1 h2
        cases h
        exact pss_imp (pss_cons (Q.s _ _ _ h1 X W ok) (Q.ss _ _ _ h2 X W ok)) fun D σ H ⟨α, δ, h, rp, rf, p⟩ => ⟨α, δ, h, rp, rf, PostS.of_seq p⟩
      · cases h
theorem sndS (S : Snd r C cls k) : ∀ n, SndS (recS r n) C cls k
  | 0 => ⟨fun _ _ _ h => (by cases h), fun _ _ _ h => (by cases h)⟩
  | n + 1 => stepS_ok S (sndS S n)
end
end FD

set_option Elab.async false
set_option linter.all false
set_option maxRecDepth 100000
set_option maxHeartbeats 1000000
/-! The D layer, 15: defs, programs. -/
namespace FD
open PySem PySem.Spec PyProof.Rows L2
/-- the names of the module that the defs lean on -/
structure Tbl where
  fns : List (Str × Nat)
  gls : List (Str × D)
  free : List Str
  exs : List (Str × Nat × Xk) := []
  exn : List (Str × List Nat) := []
  exb : List (Str × List Nat) := []
  acs : List Str := []
  mks : List (Str × Nat) := []
  mths : List (Str × List (Str × Nat)) := []
  cns : List Str := []
  fds : List Str := []
def cellB (sc : Scope) (x : Str) : Bool := match sc.names.lookup x with
  | some .cell => true
  | _ => false
def asnF (N : List Str) (sc : Scope) : List Str := N.filter fun x => locB sc x || cellB sc x
def ccOf (T : Tbl) (d : Df) : CC := ⟨d.N, defScope d.st, asnF d.N (defScope d.st), T.fns, T.gls, T.free, T.exs, T.acs, T.exn, T.exb, T.mks, T.mths, T.cns, T.fds⟩
def compD (T : Tbl) (d : Df) : Option Ss := (recS (recN 40) 80).ss (ccOf T d) (defBody d.st)
structure DfOk (T : Tbl) (d : Df) (b : Fn) : Prop where
  sc : FnScope d.N d.ps (defScope d.st)
  n : b.n = d.N.length
  np : b.np = d.ps.length
  cp : compD T d = some b.b
structure Stand (K : PySem.W.Frag) (mg : Str → Option Value) (d : Df) (a : Addr) (fd : FuncData) : Prop where
  F : FunD K d.name d.qn (defArgs d.st) (defBody d.st) (defScope d.st) [] [] a fd
  g : d.cl = none → mg d.gn = some (.ref a)
  m : ∀ x, d.cl = some x → a = He.ma K (He.ga K x) d.name
  b : Binds K fd d.ps []
section
variable {P : Program} {w : World} {K : PySem.W.Frag} {mg : Str → Option Value} {base : Heap} {cls : Nat → Option Addr}
theorem VRs_len {α : List Addr} {H : Hp} : ∀ {ds : List D} {vs : List V}, VRs K α H ds vs → vs.length = ds.length := fun h => h.length
theorem start_rd {α : List Addr} {H : Hp} {N : List Str} {ds : List D} {vs : List V} (h : VRs K α H ds vs) : RepF K α H (L2.start N vs) (frame N.length ds) := by
  have hl := h.length
  refine ⟨by unfold L2.start frame; simp [hl], fun i d hd => ?_⟩
  unfold frame at hd
  unfold L2.start
  by_cases hi : i < ds.length
  · rw [List.getElem?_append_left (by simpa using hi), List.getElem?_map] at hd
    obtain ⟨e, he, hd⟩ := Option.map_eq_some_iff.mp hd
    cases hd
    obtain ⟨v, h1, h2⟩ := h.get he
    exact ⟨v, by rw [List.getElem?_append_left (by simp; omega), List.getElem?_map, h1]; rfl, h2⟩
  · rw [List.getElem?_append_right (by simp; omega)] at hd
    have := List.mem_of_getElem? hd
    simp at this
theorem run_ok {fs : List Fn} {fuel : Nat} {ds : List Df} {T : Tbl} (hd : ∀ (f : Nat) (d : Df), ds[f]? = some d → ∃ b, fs[f]? = some b ∧ DfOk T d b) (hs : ∀ (f : Nat) (d : Df), ds[f]? = some d → ∃ a fd, Stand K mg d a fd)
    (hn : ∀ (x : Str) (f : Nat), T.fns.lookup x = some f → ∃ d, ds[f]? = some d ∧ d.gn = x ∧ d.cl = none) (hg : ∀ (x : Str) (d : D), T.gls.lookup x = some d → ∃ u v, mg x = some u ∧ RelV v u ∧ ∀ α H, VR K α H d v) (hf : ∀ (x : Str), T.free.contains x = true → mg x = none) (hxx : ∀ (x : Str) (n : Nat) (kk : Xk), T.exs.lookup x = some (n, kk) → ∃ Cc, cls n = some Cc ∧ ExF P w K mg base x Cc kk) (hu : ∀ d, SuF K mg cls (ccOf T d)) (hac : ∀ x, T.acs.contains x = true → mg x = some (.type "itertools.accumulate"))
    (hmk : ∀ (x : Str) (f : Nat), T.mks.lookup x = some f → mg x = some (.ref (He.ga K x)) ∧ ∃ d, ds[f]? = some d ∧ d.cl = some x ∧ d.name = ("__init__" : Str) ∧ Mk K (He.ga K x) (He.ma K (He.ga K x) "__init__"))
    (hmt : ∀ (m : Str) (l : List (Str × Nat)) (cn : Str) (f : Nat), T.mths.lookup m = some l → l.lookup cn = some f → ∃ d, ds[f]? = some d ∧ d.cl = some cn ∧ d.name = m ∧ Cls K (He.ga K cn) ∧ Meth K (He.ga K cn) m (He.ma K (He.ga K cn) m))
    (hcl : ∀ cn, T.cns.contains cn = true → Cls K (He.ga K cn) ∧ ∀ f, T.fds.contains f = true → NoAttr K (He.ga K cn) f) :
    ∀ (k f : Nat) (d : Df) (a : Addr) (fd : FuncData), ds[f]? = some d → Stand K mg d a fd → FnOk P w K mg base (L2.CX P w) k a fd d.ps (spD K cls ((runN fs fuel k).fn f))
  | 0, f, d, a, fd, _, _ => by
    have no : ∀ vs H Q E, ¬ spD K cls ((runN fs fuel 0).fn f) vs H Q E := fun vs H Q E ⟨_, _, _, _, _, p⟩ => p
    exact ⟨fun vs H Q E h => absurd h (no vs H Q E), fun A outer s H args us vs Q E _ _ _ _ h => absurd h (no vs H Q E)⟩
  | k + 1, f, d, a, fd, he, st => by
    obtain ⟨b, hb, D⟩ := hd f d he
    have hrun : (runN fs fuel (k + 1)).fn f = runD (runN fs fuel k) b.n b.np b.b := by
      funext xs h
      show (match fs[f]? with | some d => runD (runN fs fuel k) d.n d.np d.b xs h | none => .bad) = _
      rw [hb]
    rw [hrun]
    refine st.F.ok D.sc (fun vs H Q E ⟨α, xs, h, rp, rv, p⟩ => ?_) fun cdv A outer s H vs Q E hr ⟨α, xs, h, rp, rv, p⟩ => ?_
    · rw [rv.length, ← D.np]
      by_cases hl : xs.length = b.np
      · exact hl
      · have e : runD (runN fs fuel k) b.n b.np b.b xs h = .bad := if_neg hl
        rw [e] at p; exact p.elim
    · have hl : xs.length = b.np := by
        by_cases hl : xs.length = b.np
        · exact hl
        · have e : runD (runN fs fuel k) b.n b.np b.b xs h = .bad := if_neg hl
          rw [e] at p; exact p.elim
      have ok : OkS (cxOf (L2.CX P w) P w K mg base d.N d.qn (defScope d.st) a cdv A outer s H E) (ccOf T d) (runN fs fuel k) cls (fun cls d _ H => E cls d H) k :=
        { hN := rfl, nd := D.sc.nd, sc := rfl, calm := rfl, po := passes_of rfl, tk := takes_of rfl rfl rfl rfl, room := hr, lv := (by cases k <;> exact Nat.le_refl _)
          asn := fun x hx => by
            have hx0 : x ∈ (ccOf T d).asn := by simpa using hx
            have hx' : x ∈ asnF d.N (defScope d.st) := hx0
            unfold asnF at hx'
            have h2 := (List.mem_filter.mp hx').2
            refine ⟨?_, .inl rfl⟩
            simp only [Bool.or_eq_true] at h2
            rcases h2 with h2 | h2
            · unfold locB at h2
              split at h2
              · rename_i q; exact .inl q
              · cases h2
            · unfold cellB at h2
              split at h2
              · rename_i q; exact .inr q
              · cases h2
          fa := ⟨fun x g hx => by
            obtain ⟨d2, h1, rfl, h2⟩ := hn x g hx
            obtain ⟨a2, fd2, s2⟩ := hs g d2 h1
            exact ⟨a2, fd2, d2.ps, s2.g h2, s2.F.kp, s2.b, run_ok hd hs hn hg hf hxx hu hac hmk hmt hcl k g d2 a2 fd2 h1 s2⟩, hg, hf, hxx, hu d, hac, fun x g hx => by
            obtain ⟨h1, d2, h2, h3, h4, h5⟩ := hmk x g hx
            obtain ⟨a2, fd2, s2⟩ := hs g d2 h2
            refine ⟨h1, ?_⟩
            match k with
            | 0 => exact .inl rfl
            | j + 1 =>
              have ea := s2.m x h3
              rw [h4] at ea
              exact .inr ⟨j, a2, fd2, d2.ps, rfl, by rw [ea]; exact h5, s2.b, run_ok hd hs hn hg hf hxx hu hac hmk hmt hcl j g d2 a2 fd2 h2 s2⟩, fun m l cn g hl hx => by
            obtain ⟨d2, h2, h3, h4, h5, h6⟩ := hmt m l cn g hl hx
            obtain ⟨a2, fd2, s2⟩ := hs g d2 h2
            have ea := s2.m cn h3
            rw [h4] at ea
            exact ⟨a2, fd2, d2.ps, h5, by rw [ea]; exact h6, s2.b, run_ok hd hs hn hg hf hxx hu hac hmk hmt hcl k g d2 a2 fd2 h2 s2⟩, hcl⟩, hs := rfl, hf := rfl }
      refine ⟨_, (sndS (sndN 40) 80).ss _ _ _ D.cp _ _ ok, ?_⟩
      refine ⟨α, frame b.n xs, h, rp, by rw [D.n]; exact start_rd rv, ?_⟩
      have e : runD (runN fs fuel k) b.n b.np b.b xs h = (match evSs (runN fs fuel k) b.b (frame b.n xs) h with
        | .nx _ h => .ok .non h
        | .rt d h => .ok d h
        | .exc c fs _ h => .exc c fs h
        | _ => .bad) := if_pos hl
      rw [e] at p
      cases hv : evSs (runN fs fuel k) b.b (frame b.n xs) h with
      | nx δ h' => rw [hv] at p; exact fun α' σ' H' e1 r1 f1 => p α' H' e1 r1 _ rfl
      | rt d h' => rw [hv] at p; exact fun α' H' v e1 r1 hv => p α' H' e1 r1 v hv
      | exc c fs δ h' => rw [hv] at p; exact fun α' σ' H' cv dd e1 r1 f1 x1 => p α' H' cv dd e1 r1 x1
      | brk _ _ => rw [hv] at p; exact p.elim
      | cnt _ _ => rw [hv] at p; exact p.elim
      | bad => rw [hv] at p; exact p.elim
end
end FD

set_option Elab.async false
set_option linter.all false
set_option maxRecDepth 100000
set_option maxHeartbeats 2000000
/-! The D layer: an own exception whose __init__ says super().__init__(x). -/
namespace FD
open PySem PySem.Spec PyProof.Rows L2
/-- the names of such an __init__: all its own are local; it closes over its class -/
structure IniS (N P : List Str) (sc : Scope) : Prop where
  kind : sc.kind = .function
  co : sc.isCoroutine = false
  gen : sc.isGenerator = false
  nd : N.Nodup
  pre : N.take P.length = P
  par : ∀ x ∈ P, sc.names.lookup x = some .local
  nocell : ∀ y ∈ sc.names, y.2 ≠ .cell
  free : ∀ y ∈ sc.names, y.2 = .free → y.1 = "__class__"
  sup : sc.names.lookup ("super" : Str) = some .globalImplicit
  cls : sc.names.lookup ("__class__" : Str) = some .free
/-- its context -/
def iniCx (CX : CXT) (P : Program) (w : World) (K : PySem.W.Frag) (mg : Str → Option Value) (base : Heap) (N : List Str) (qual : Str) (scope : Scope) (f : Addr) (cd : Value) (cc : Addr) (A : Around) (outer : List Env) (s : Shared) (H : Hp) (E : XK) : Cx where
  prog := P
  w := w
  K := K
  mg := mg
  base := base
  A := A.deeper (PySem.W.ksEnv qual scope s.heap.objs.size f cd cc)
  N := N
  s_0 := s
  H_0 := H
  env := PySem.W.ksEnv qual scope s.heap.objs.size f cd cc
  outer := outer
  stack := PySem.W.ksEnv qual scope s.heap.objs.size f cd cc :: outer
  ex := []
  calm := true
  fn := fun _ => false
  pn := []
  xe := fun e s' => wpAny (model P w) (A.deeper (PySem.W.ksEnv qual scope s.heap.objs.size f cd cc)) (leaving (PySem.W.ksEnv qual scope s.heap.objs.size f cd cc) e) (fun _ s'' => CX outer H s E e s'') (fun e' s'' => CX outer H s E e' s'') s'
section
variable {CX : CXT} {P : Program} {w : World} {K : PySem.W.Frag} {mg : Str → Option Value} {base : Heap} {N ps : List Str} {qual : Str} {scope : Scope} {f cc : Addr} {cd : Value} {A : Around} {outer : List Env} {s : Shared} {H : Hp} {E : XK} {us : List Value} {vs : List V}
theorem bind_get : ∀ {ps : List Str} {us : List Value} {i : Nat} {y : Str} {u : Value}, ps.Nodup → ps[i]? = some y → us[i]? = some u → (ps.zip us).reverse.lookup y = some u := by
  have key : ∀ (ps : List Str) (us : List Value) (i : Nat) (y : Str) (u : Value), ps.Nodup → ps[i]? = some y → us[i]? = some u → ∀ l : List (Str × Value), (∀ q ∈ l, q.1 ≠ y) → ((ps.zip us).reverse ++ l).lookup y = some u := by
    intro ps
    induction ps with
    | nil => intro us i y u _ h; simp at h
    | cons p ps ih =>
      intro us i y u nd h1 h2 l hl
      cases us with
      | nil => simp at h2
      | cons v us =>
        rw [List.zip_cons_cons, List.reverse_cons, List.append_assoc]
        obtain ⟨n1, n2⟩ := List.nodup_cons.mp nd
        cases i with
        | zero =>
          simp at h1 h2
          subst h1 h2
          have none_ : ((ps.zip us).reverse).lookup p = none := by
            rw [List.lookup_eq_none_iff]
            intro q hq
            have : q.1 ∈ ps := (List.of_mem_zip (List.mem_reverse.mp hq)).1
            simp only [bne_iff_ne, ne_eq]
            exact fun z => n1 (z ▸ this)
          rw [List.lookup_append, none_]
          simp
        | succ i =>
          simp at h1 h2
          refine ih us i y u n2 h1 h2 ([(p, v)] ++ l) fun q hq => ?_
          rcases List.mem_append.mp hq with hq | hq
          · rw [List.mem_singleton.mp hq]
            intro z
            have z : p = y := z
            exact n1 (z ▸ List.mem_of_getElem? h1)
          · exact hl q hq
  intro ps us i y u nd h1 h2
  have := key ps us i y u nd h1 h2 [] (fun q hq => by cases hq)
  simpa using this
theorem ini_start {h₁ : Heap} {tk : Nat} {o : Obj} {D : Addr} (S : IniS N ps scope) (hd : A.handled = none) (e0 : Env0 P w K mg base A outer s H) (hl : vs.length = ps.length) (r : Vals vs us) (hcc : K.lookup cc = some o) (hco : o.data = .cell (some (.ref D)))
    (hns : h₁.Ns s.heap.objs.size fun y => (ps.zip us).reverse.lookup y) (kp : ∀ b o, s.heap.get? b = some o → h₁.get? b = some o) :
    Inv (iniCx CX P w K mg base N qual scope f cd cc A outer s H E) [] (L2.start N vs) H { s with heap := h₁, toks := tk } := by
  have hpl : ps.length ≤ N.length := by have := congrArg List.length S.pre; rw [List.length_take] at this; omega
  have bcc : base.get? cc = some o := e0.mod.kin _ _ hcc
  obtain ⟨scc, Hcc⟩ := e0.bs _ _ bcc
  have noA : ∀ b : Addr, b ∉ (iniCx CX P w K mg base N qual scope f cd cc A outer s H E).ex := fun b z => absurd (show b ∈ ([] : List Addr) from z) (by simp)
  have one : ∀ {y : Str} {c : Addr}, (iniCx CX P w K mg base N qual scope f cd cc A outer s H E).env.cells.lookup y = some c → y = "__class__" ∧ c = cc := fun {y c} h => by
    have h : ([(("__class__" : Str), cc)]).lookup y = some c := h
    rw [List.lookup_cons] at h
    split at h
    · rename_i e; cases h; exact ⟨beq_iff_eq.mp e, rfl⟩
    · cases h
  refine ⟨⟨e0.mod, S.kind, rfl, rfl, Nat.le_refl _, fun y z c h1 h2 => (one h1).1.trans (one h2).1.symm, fun y hy => ?_, (fun y c z _ => by cases z), fun _ => hd, Around.frames_deeper e0.frames, .inr ⟨rfl, rfl⟩, fun b z => absurd z (noA b), e0.bs, e0.bsz, fun b _ _ => noA b, fun b z => absurd z (noA b), e0.funs, e0.frf⟩,
    rfl, e0.bare, Un.kept kp, ⟨_, hns, fun i y v h1 h2 h3 => ?_⟩, fun y c h => ?_, e0.hok.fresh (Nat.le_refl _), fun y c h => ?_, fun p hp => absurd (show p ∈ ([] : List (Addr × Obj)) from hp) (by simp), e0.hok.kept kp, ?_⟩
  · have hy : scope.names.lookup y = some .cell ∨ scope.names.lookup y = some .free := hy
    rcases hy with hy | hy
    · exact absurd rfl (S.nocell _ (PySem.mem_of_lookup hy))
    · have e : y = "__class__" := S.free _ (PySem.mem_of_lookup hy) rfl
      subst e
      exact ⟨cc, rfl⟩
  · have hi : i < vs.length := by
      unfold L2.start at h2
      by_cases hi : i < vs.length
      · exact hi
      · rw [List.getElem?_append_right (by simpa using hi)] at h2
        rw [List.getElem?_replicate] at h2
        split at h2 <;> cases h2
    have ha : vs[i]? = some v := by
      unfold L2.start at h2
      rw [List.getElem?_append_left (by simpa using hi), List.getElem?_map] at h2
      cases e : vs[i]? with
      | none => rw [e] at h2; cases h2
      | some a => rw [e] at h2; cases h2; rfl
    obtain ⟨u, hu, rv⟩ := r.get ha
    have hp : ps[i]? = some y := by
      rw [← S.pre, List.getElem?_take_of_lt (by omega)]; exact h1
    have ndP : ps.Nodup := by rw [← S.pre]; exact S.nd.sublist (List.take_sublist _ _)
    exact ⟨u, rv, .inl ⟨S.par y (List.mem_of_getElem? hp), bind_get ndP hp hu⟩⟩
  · obtain ⟨_, rfl⟩ := one h
    exact ⟨_, o, kp _ _ scc, hco⟩
  · obtain ⟨_, rfl⟩ := one h
    exact Hcc
  · unfold L2.start
    show _ = N.length
    rw [List.length_append, List.length_map, List.length_replicate]
    omega
/-- what the written part says of the class for super().__init__ -/
structure IniK (P : Program) (K : PySem.W.Frag) (mg : Str → Option Value) (C : Addr) : Prop where
  T : OexC K C
  hD : ∃ cd, PySem.W.clsIn K C = some cd
  hsub : PySem.W.mroIn K C (.ref C) = some true
  ho : PySem.W.nsIn K cStatics "thirdparty.any" = some none
  hm : PySem.W.ks_superIn K C C "__init__" = some (some (.builtin "ValueError.__init__"))
  hB : PySem.W.subIn K (.ref C) (.type "ValueError") = some true
  hsuper : mg "super" = none
  htop : (P.main.scope.names.lookup ("super" : Str)).isSome = false
/-- super().__init__ bound to the exception, called -/
theorem call_mw {X : Cx} {pins : List (Addr × Obj)} {σ : L2.St} {H : Hp} {s : Shared} {u a C : Addr} {rest : List Value} {Q : Value → Shared → Prop} {E : Value → Shared → Prop} {A : Around} (T : OexC X.K C) (I : Inv X pins σ H s) (e : H a = some (exo a C none))
    (hu : s.heap.get? u = some (PySem.W.kxs_mw "ValueError.__init__" a)) (hl : rest.length ≤ sizeLine) (h : ∀ s', Inv X pins σ H s' → Q .none s') : wpAny (model X.prog X.w) A (call (.ref u) rest) Q E s := by
  obtain ⟨nm, q, N, bs, bm, sn, sub, ab, col, dd, k0, k1, k2, k3, k5, hC, hbm⟩ := T.cls
  obtain ⟨t1, ho⟩ := exo_at I.hok e
  have kI := I.kIn
  obtain ⟨hp, g, d, t, os⟩ := s
  refine wpAny_call (codeAny_of_tree ?_)
  show wpAny _ A.in1 (callAny (.ref u) ⟨rest, []⟩) _ _ _
  simp only [callAny]
  refine wpAny_bind (wpAny_load hu ?_)
  simp only [PySem.W.kxs_mw, show (Value.type "method-wrapper" == Value.type "method" || Value.type "method-wrapper" == Value.type "builtin_function_or_method" || Value.type "method-wrapper" == Value.type "method-wrapper") = true by decide, if_true]
  refine PySem.W.KFB.if_so (by decide) ?_
  refine wpAny_bind (PySem.W.check_bound_init F.excBase_ValueError.toExcCallFacts (kI _ _ hC) ho rfl ?_)
  refine wpAny_bind (wpAny_pure (wpAny_pure ?_))
  refine ⟨plainId_quiet F.excBase_ValueError.init.plain _, codeAny_builtin F.excBase_ValueError.initEntry ?_⟩
  refine PySem.W.exc_init_tree (cls := .ref C) (t0 := t1) (dv := none) (c2 := .none) (c3 := .none) (b4 := .bool false) ho hl fun h' k hx ht => ?_
  have J := I.write (t' := t) (x := a) (e := a) (o := exo a C none) (by rw [e]; exact True.intro) (.inl rfl) k ⟨_, hx⟩ (exo_ok hx)
  have eu : upd H a (exo a C none) = H := by
    funext b
    by_cases hb : b = a
    · rw [hb, upd_same, e]
    · rw [upd_ne hb]
  rw [eu] at J
  exact h _ J
end
end FD

set_option Elab.async false
set_option linter.all false
set_option maxRecDepth 100000
set_option maxHeartbeats 2000000
/-! The D layer: the rule for such an __init__. -/
namespace FD
open PySem PySem.Spec PyProof.Rows L2
/-- THE RULE for such an __init__: its own super().__init__(x), then the rest -/
theorem ini_ok {CX : CXT} {P : Program} {w : World} {K : PySem.W.Frag} {mg : Str → Option Value} {base : Heap} {N ps : List Str} {name qual : Str} {scope : Scope} {f cc cda C : Addr} {k : Nat} {params : Arguments} {e0 : Expr} {rest : List Stmt} {p0 p1 p2 p3 p4 : Pos} {dV kV doc pm ct oc ccl cl : Value}
    {an od cdd cld : Option Addr} {osl ccs csl : Array (Option Value)} {fvals : Array Value} {file : Str} {tf : Tok} {ar : Arg} {sp : Sp} (G : IniK P K mg C)
    (lk : K.lookup f = some ⟨oc, od, .func (PySem.W.ksFn name qual params (.Expr (.Call (.Attribute (.Call (.Name "super" p0) [] [] p1) "__init__" p2) [e0] [] p3) p4 :: rest) scope dV kV doc pm an (.ref cda) ct cc), osl⟩) (hcd : PySem.W.codeIn K (.ref cda) qual = true)
    (hcode : K.lookup cda = some ⟨ccl, cdd, .fields fvals, ccs⟩) (hvs : fvals[2]? = some (.str file tf)) (hfile : ((P.main.file : Str) == file) = true) (hcc : K.lookup cc = some ⟨cl, cld, .cell (some (.ref C)), csl⟩) (S : IniS N ps scope)
    (hp : (params.posonlyargs ++ params.args).head? = some ar) (hself : N[0]? = some ar.arg) (len : ∀ vs H Q E, sp vs H Q E → vs.length = ps.length) (hps : ps[0]? = some ar.arg) (hstar : noStar e0 = true)
    (hev : ∃ pl : Env → Sem Bool, ∀ env : Env, eval (.Call (.Attribute (.Call (.Name "super" p0) [] [] p1) "__init__" p2) [e0] [] p3) env = (do
      let ov ← attributeBase (.Call (.Name "super" p0) [] [] p1) "__init__" env (eval (.Call (.Name "super" p0) [] [] p1) env)
      standAt p2.atName
      let (f, first) ← holding [ov] (getMethod ov "__init__" (pl env))
      callWith p3 f first (backTo p3 (starEach [e0] env)) []))
    (hbody : ∀ (A : Around) (outer : List Env) (s : Shared) (H : Hp) (vs : List V) (Q : VK) (E : XK), sp vs H Q E → ∃ (a : Addr) (ws : List V), vs = .ref a :: ws ∧ H a = some (exo a C none) ∧ ∃ (t0 : TE) (tr : TS),
      PE (iniCx CX P w K mg base N qual scope f (.ref cda) cc A outer s H E) e0 t0 ∧ PSs (iniCx CX P w K mg base N qual scope f (.ref cda) cc A outer s H E) rest tr ∧
      t0 (L2.start N vs) H fun _ H1 => H1 a = some (exo a C none) ∧ tr { nx := fun _ H' => Q .non H', rt := Q } (L2.start N vs) H1) :
    FnOk P w K mg base CX (k + 1) f (PySem.W.ksFn name qual params (.Expr (.Call (.Attribute (.Call (.Name "super" p0) [] [] p1) "__init__" p2) [e0] [] p3) p4 :: rest) scope dV kV doc pm an (.ref cda) ct cc) ps sp := by
  refine ⟨len, fun A outer s H args us vs Q E hr e0' hb r hsp => ?_⟩
  have hl := len _ _ _ _ hsp
  have KX : K.In s.heap := e0'.mod.kin.keeps fun b o e => (e0'.bs b o e).1
  have lim : s.heap.NoLimit := e0'.mod.nolimit.keeps fun b o e => (e0'.bs b o e).1
  obtain ⟨cdC, hD⟩ := G.hD
  refine ks_codeAny_call_defAt (fd := PySem.W.ksFn name qual params (.Expr (.Call (.Attribute (.Call (.Name "super" p0) [] [] p1) "__init__" p2) [e0] [] p3) p4 :: rest) scope dV kV doc pm an (.ref cda) ct cc)
    (body := .Expr (.Call (.Attribute (.Call (.Name "super" p0) [] [] p1) "__init__" p2) [e0] [] p3) p4 :: rest) (binds := ps.zip us) hr.depth (KX _ _ lk) rfl lim (PySem.W.codeRec_of KX hcd) rfl hb S.nocell (fun y hy => S.par y.1 (List.of_mem_zip hy).1) (fun h₁ hns hk₁ => ?_) S.co S.gen S.kind
  obtain ⟨a, ws, rfl, ha, t0, tr, h0, hrest, hq⟩ := hbody A outer s H vs Q E hsp
  have I : Inv (iniCx CX P w K mg base N qual scope f (.ref cda) cc A outer s H E) [] (L2.start N (.ref a :: ws)) H { s with heap := h₁, toks := s.toks + (ps.zip us).length } := ini_start S hr.hd e0' hl r hcc rfl hns hk₁
  have ua : us[0]? = some (.ref a) := by
    obtain ⟨u, hu, ru⟩ := r.get (i := 0) (x := .ref a) rfl
    have : u = .ref a := ru
    rw [hu, this]
  have ndP : ps.Nodup := by rw [← S.pre]; exact S.nd.sublist (List.take_sublist _ _)
  have hm0 : (ps.zip us).reverse.lookup ar.arg = some (.ref a) := bind_get ndP hps ua
  have K1 : K.In h₁ := KX.keeps hk₁
  obtain ⟨t1, hoe⟩ := exo_at I.hok ha
  have hoe : h₁.get? a = some ({ cls := .ref C, dict := none, data := .fields #[.ref t1, .none, .none, .none, .bool false, .none] } : Obj) := hoe
  obtain ⟨oD, hD1, hD2⟩ : ∃ oD, h₁.get? C = some oD ∧ oD.data = .cls cdC := by
    have hD := hD
    unfold PySem.W.clsIn at hD
    split at hD
    · rename_i c d cd' sl ho
      cases hD
      exact ⟨_, K1 _ _ ho, rfl⟩
    · cases hD
  obtain ⟨mb, hbn, hbb⟩ := e0'.mod.blt
  have kb : ∀ b o, base.get? b = some o → h₁.get? b = some o := fun b o e => hk₁ b o (e0'.bs b o e).1
  have hint : interactive (PySem.W.ksEnv qual scope s.heap.objs.size f (.ref cda) cc) = false := I.quiet
  refine ks_wpAt_execs_cons (ks_wpAt_Expr_any (ks_wpAt_MethodCall ?_ (hev.choose_spec _)) hint rfl)
  refine ks_wpAt_super_base (env := PySem.W.ksEnv qual scope s.heap.objs.size f (.ref cda) cc) S.sup S.cls rfl rfl (K1 _ _ lk) rfl hp rfl (K1 _ _ hcode) rfl hvs hfile G.htop ?_
  refine PySem.W.ks_loadName_global S.kind S.sup (PySem.Calls.loadGlobal_builtin (env := PySem.W.ksEnv qual scope s.heap.objs.size f (.ref cda) cc) (e0'.mod.glob.keeps kb) G.hsuper (hbn.keeps kb) ((hbb _ (by decide +kernel)).trans (by kernel_rfl)) ⟨rfl, ?_⟩)
  refine wpAny_loadName_free S.kind S.cls rfl ⟨_, K1 _ _ hcc, rfl⟩ ?_
  refine wpAny_loadName_local S.kind (S.par _ (List.mem_of_getElem? hps)) hns hm0 ?_
  refine ks_wpAny_isType_cls hD1 hD2 ⟨rfl, ?_⟩
  refine ks_wpAny_call_super hD1 hD2 hoe rfl (fun c e => by cases e) (PySem.W.looks_mroIn K1 G.hsub) (fun h2 e2 k2 => ?_)
  have I2 : Inv (iniCx CX P w K mg base N qual scope f (.ref cda) cc A outer s H E) [] (L2.start N (.ref a :: ws)) H { s with heap := h2, toks := s.toks + (ps.zip us).length } := I.kept (t' := s.toks + (ps.zip us).length) k2
  have K2 : K.In h2 := K1.keeps k2
  have oe2 := k2 _ _ hoe
  have ne : a ≠ C := PySem.W.ks_ne K2 (⟨oe2, rfl, rfl, trivial⟩ : PySem.W.InstAt h2 a _ C none) hD
  have hm' : PySem.W.alongIn K "__init__" ((cdC.mro.dropWhile (· != .ref C)).drop 1) = some (some (.builtin "ValueError.__init__")) := by
    have := G.hm
    unfold PySem.W.ks_superIn at this
    rw [hD] at this
    exact this
  have hI : PySem.W.Looks (model P w) h2 (isInstance (.ref a) (.type "ValueError")) true := (⟨oe2, rfl, rfl, trivial⟩ : PySem.W.InstAt h2 a _ C none).type.andThen (PySem.W.looks_subIn K2 G.hB)
  refine PySem.W.kxs_getMethod PySem.W.kxs_ValueError e2 (PySem.W.looks_opaque K2 G.ho) (l₀ := cdC.mro) (fun A Q E s k q => wpAny_bind ((PySem.W.looks_clsIn K2 hD) A _ E s k (wpAny_pure q))) rfl K2 hm' hI ne rfl ?_
  have k3 : ∀ b o, h2.get? b = some o → (h2.push (PySem.W.kxs_mw "ValueError.__init__" a)).get? b = some o := fun b o e => Heap.get?_push_of_some _ e
  have I3 : Inv (iniCx CX P w K mg base N qual scope f (.ref cda) cc A outer s H E) [] (L2.start N (.ref a :: ws)) H { s with heap := h2.push (PySem.W.kxs_mw "ValueError.__init__" a), toks := s.toks + (ps.zip us).length + 1 } := I2.kept (t' := s.toks + (ps.zip us).length + 1) k3
  have hu3 : (h2.push (PySem.W.kxs_mw "ValueError.__init__" a)).get? h2.objs.size = some (PySem.W.kxs_mw "ValueError.__init__" a) := Heap.get?_push_at rfl rfl
  have hnu : H h2.objs.size = none := I2.hok.fresh (Nat.le_refl _)
  obtain ⟨ml, hml, _⟩ := I2.loc
  have lt1 : (iniCx CX P w K mg base N qual scope f (.ref cda) cc A outer s H E).env.locals < h2.objs.size := by
    obtain ⟨oL, _, _, hL, _⟩ := hml
    exact Heap.lt_size hL
  have I4 : Inv (iniCx CX P w K mg base N qual scope f (.ref cda) cc A outer s H E) [(h2.objs.size, PySem.W.kxs_mw "ValueError.__init__" a)] (L2.start N (.ref a :: ws)) H { s with heap := h2.push (PySem.W.kxs_mw "ValueError.__init__" a), toks := s.toks + (ps.zip us).length + 1 } :=
    I3.pins_of fun p hp => by
      rw [List.mem_singleton.mp hp]
      refine ⟨hu3, hnu, fun z => ?_, fun z => ?_, fun v z => by cases z⟩
      · rw [← z] at lt1; exact absurd lt1 (Nat.lt_irrefl _)
      · have z' : h2.objs.size ∈ frs outer := z
        obtain ⟨_, o, ho, _⟩ := e0'.funs.mem z'
        exact absurd (Heap.lt_size (k2 _ _ (hk₁ _ _ ho))) (Nat.lt_irrefl _)
  have hA := (pa_one hstar h0).run p3 _ _ _ H (fun vs H1 => match vs with | [_] => H1 a = some (exo a C none) ∧ tr { nx := fun _ H' => Q .non H', rt := Q } (L2.start N (.ref a :: ws)) H1 | _ => False) I4 hq
  rw [star_cons hstar] at hA ⊢
  refine PySem.W.kxs_callWith (i := "ValueError.__init__") (x := a) rfl (PySem.Calls.evalArgs_plain (thn hA fun us4 s4 h4 => ?_))
  obtain ⟨vs4, H4, I5, r4, q4⟩ := h4
  cases vs4 with
  | nil => exact q4.elim
  | cons v4 vs4 =>
    cases vs4 with
    | cons _ _ => exact q4.elim
    | nil =>
      obtain ⟨q5, q6⟩ := q4
      have hu5 := (I5.pin (h2.objs.size, PySem.W.kxs_mw "ValueError.__init__" a) (List.mem_append_right _ List.mem_cons_self)).1
      refine ⟨hu5, ?_⟩
      have hlen : ([] ++ us4).length ≤ sizeLine := by
        rw [List.nil_append, ← Paired.length r4, sizeLine_eq]
        simp
      refine call_mw (X := iniCx CX P w K mg base N qual scope f (.ref cda) cc A outer s H E) G.T I5 q5 hu5 hlen fun s6 I6 => ?_
      have I7 : Inv (iniCx CX P w K mg base N qual scope f (.ref cda) cc A outer s H E) [] (L2.start N (.ref a :: ws)) H4 s6 := I6.pins_of fun p hp => by cases hp
      refine wpAt_of_wpAny (wpAny_mono (hrest.run [] s6 _ H4 _ I7 q6) (fun fl s' hs => ?_) fun e s' hs => hs)
      have fin : ∀ {σ' : L2.St} {H' : Hp} {v : V} {u : Value}, Inv (iniCx CX P w K mg base N qual scope f (.ref cda) cc A outer s H E) [] σ' H' s' → RelV v u → Q v H' → CE outer P w H s Q u s' :=
        fun {σ' H' v u} J rv q => ⟨v, H', J.os, J.bare, J.base, J.hok, rv, q⟩
      cases fl with
      | ret u =>
        obtain ⟨v, σ', H', J, rv, q⟩ := hs
        exact fin J rv q
      | next =>
        obtain ⟨σ', H', J, q⟩ := hs
        exact fin (v := V.non) (u := Value.none) J rfl q
      | brk =>
        obtain ⟨_, _, _, q⟩ := hs
        exact False.elim q
      | cont =>
        obtain ⟨_, _, _, q⟩ := hs
        exact False.elim q
end FD

set_option Elab.async false
set_option linter.all false
set_option maxRecDepth 100000
set_option maxHeartbeats 1000000
/-! The D layer: the three shapes of __init__. -/
namespace FD
open PySem PySem.Spec PyProof.Rows L2
abbrev supB (e0 : Expr) (rest : List Stmt) (p0 p1 p2 p3 p4 : Pos) : List Stmt := .Expr (.Call (.Attribute (.Call (.Name "super" p0) [] [] p1) "__init__" p2) [e0] [] p3) p4 :: rest
def HEv (e0 : Expr) (p0 p1 p2 p3 : Pos) : Prop := ∃ pl : Env → Sem Bool, ∀ env : Env, eval (.Call (.Attribute (.Call (.Name "super" p0) [] [] p1) "__init__" p2) [e0] [] p3) env = (do
      let ov ← attributeBase (.Call (.Name "super" p0) [] [] p1) "__init__" env (eval (.Call (.Name "super" p0) [] [] p1) env)
      standAt p2.atName
      let (f, first) ← holding [ov] (getMethod ov "__init__" (pl env))
      callWith p3 f first (backTo p3 (starEach [e0] env)) [])
/-- what the written part says of such an __init__ -/
structure IniF (P : Program) (K : PySem.W.Frag) (mg : Str → Option Value) (C f : Addr) (fd : FuncData) (qual : Str) (params : Arguments) (body : List Stmt) (scope : Scope) (cc : Addr) (cdv : Value) : Prop where
  ex : ∃ (oc : Value) (od : Option Addr) (osl : Array (Option Value)) (kV doc pm : Value) (an : Option Addr) (ct : Value) (cda : Addr) (ccl : Value) (cdd : Option Addr) (fvals : Array Value) (ccs : Array (Option Value)) (file : Str) (tf : Tok) (cl : Value) (cld : Option Addr) (csl : Array (Option Value)),
    cdv = .ref cda ∧ fd = PySem.W.ksFn "__init__" qual params body scope .none kV doc pm an (.ref cda) ct cc ∧ K.lookup f = some ⟨oc, od, .func fd, osl⟩ ∧ PySem.W.codeIn K (.ref cda) qual = true ∧
    K.lookup cda = some ⟨ccl, cdd, .fields fvals, ccs⟩ ∧ fvals[2]? = some (.str file tf) ∧ ((P.main.file : Str) == file) = true ∧ K.lookup cc = some ⟨cl, cld, .cell (some (.ref C)), csl⟩
  G : IniK P K mg C
theorem str_app (a b : Str) : (a ++ b).length = a.length + b.length := by
  show (Str.append a b).length = _
  simp [Str.append, Str.length]
theorem str_emp : Str.empty.length = 0 := rfl
theorem str_col : (": " : Str).length = 2 := by decide +kernel
section
variable {P : Program} {w : World} {K : PySem.W.Frag} {mg : Str → Option Value} {base : Heap} {C f cc : Addr} {fd : FuncData} {qual : Str} {params : Arguments} {scope : Scope} {cdv : Value} {p0 p1 p2 p3 p4 q1 q2 q3 q4 q5 q6 q7 q8 q9 q10 q11 q12 q13 q14 : Pos} {ar : Arg}
theorem ini_place (I : IniF P K mg C f fd qual params (supB (.JoinedStr [.FormattedValue (.Name "place" q1) (-1) none q2] q3) [.Assign [.Attribute (.Name "self" q4) "place" q5] (.Name "place" q6) q7] p0 p1 p2 p3 p4) scope cc cdv) (S : IniS ["self", "place"] ["self", "place"] scope)
    (hp : (params.posonlyargs ++ params.args).head? = some ar) (ha : ar.arg = "self") (hno : PySem.W.findIn K (.ref C) "place" = some none) (hev : HEv (.JoinedStr [.FormattedValue (.Name "place" q1) (-1) none q2] q3) p0 p1 p2 p3) :
    FnOk P w K mg base CXn 1 f fd ["self", "place"] (spIni K C .place) := by
  obtain ⟨oc, od, osl, kV, doc, pm, an, ct, cda, ccl, cdd, fvals, ccs, file, tf, cl, cld, csl, _, rfl, lk, hcd, hcode, hvs, hfile, hcc⟩ := I.ex
  refine ini_ok (ar := ar) I.G lk hcd hcode hvs hfile hcc S hp (by rw [ha]; rfl) (fun vs H Q E ⟨a, ws, gs, e, ⟨i, e2, _⟩, _⟩ => by subst e e2; rfl) (by rw [ha]; rfl) rfl hev ?_
  rintro A outer s H vs Q E ⟨a, ws, gs, rfl, ⟨i, rfl, hz, rfl⟩, he, q⟩
  have v0 : Vis scope "self" := .inl (S.par _ (by simp))
  have v1 : Vis scope "place" := .inl (S.par _ (by simp))
  refine ⟨a, _, rfl, he, _, _, pe_joined1 (pe_fmt (pe_var (i := 1) rfl v1)), pss_one (ps_ost (pe_var (i := 0) rfl v0) (pe_var (i := 1) rfl v1)), ?_⟩
  refine ⟨_, rfl, .inr ⟨i, rfl, hz, he, _, rfl, _, rfl, a, C, rfl, I.G.T, hno, .inl ⟨he, fun dx hd hne => ?_⟩⟩⟩
  exact q dx _ hd hne upd_same (by rw [upd_ne hne, upd_same]) fun b hb1 hb2 => by rw [upd_ne hb1, upd_ne hb2]
theorem ini_reason (I : IniF P K mg C f fd qual params (supB (.Name "reason" q1) [.Assign [.Attribute (.Name "self" q4) "reason" q5] (.Name "reason" q6) q7] p0 p1 p2 p3 p4) scope cc cdv) (S : IniS ["self", "reason"] ["self", "reason"] scope)
    (hp : (params.posonlyargs ++ params.args).head? = some ar) (ha : ar.arg = "self") (hno : PySem.W.findIn K (.ref C) "reason" = some none) (hev : HEv (.Name "reason" q1) p0 p1 p2 p3) :
    FnOk P w K mg base CXn 1 f fd ["self", "reason"] (spIni K C .reason) := by
  obtain ⟨oc, od, osl, kV, doc, pm, an, ct, cda, ccl, cdd, fvals, ccs, file, tf, cl, cld, csl, _, rfl, lk, hcd, hcode, hvs, hfile, hcc⟩ := I.ex
  refine ini_ok (ar := ar) I.G lk hcd hcode hvs hfile hcc S hp (by rw [ha]; rfl) (fun vs H Q E ⟨a, ws, gs, e, ⟨i, e2, _⟩, _⟩ => by subst e e2; rfl) (by rw [ha]; rfl) rfl hev ?_
  rintro A outer s H vs Q E ⟨a, ws, gs, rfl, ⟨v, rfl, rfl⟩, he, q⟩
  have v0 : Vis scope "self" := .inl (S.par _ (by simp))
  have v1 : Vis scope "reason" := .inl (S.par _ (by simp))
  refine ⟨a, _, rfl, he, _, _, pe_var (i := 1) rfl v1, pss_one (ps_ost (pe_var (i := 0) rfl v0) (pe_var (i := 1) rfl v1)), ?_⟩
  refine ⟨_, rfl, he, _, rfl, _, rfl, a, C, rfl, I.G.T, hno, .inl ⟨he, fun dx hd hne => ?_⟩⟩
  exact q dx _ hd hne upd_same (by rw [upd_ne hne, upd_same]) fun b hb1 hb2 => by rw [upd_ne hb1, upd_ne hb2]
theorem ini_text {j : Nat} (I : IniF P K mg C f fd qual params (supB (.JoinedStr [.FormattedValue (.Name "place" q1) (-1) none q2, .Constant (.str ": ") j q8, .FormattedValue (.Name "reason" q9) (-1) none q10] q3) [.Assign [.Attribute (.Name "self" q4) "place" q5] (.Name "place" q6) q7, .Assign [.Attribute (.Name "self" q11) "reason" q12] (.Name "reason" q13) q14] p0 p1 p2 p3 p4) scope cc cdv) (S : IniS ["self", "place", "reason"] ["self", "place", "reason"] scope)
    (hp : (params.posonlyargs ++ params.args).head? = some ar) (ha : ar.arg = "self") (hno : PySem.W.findIn K (.ref C) "place" = some none) (hno2 : PySem.W.findIn K (.ref C) "reason" = some none) (hev : HEv (.JoinedStr [.FormattedValue (.Name "place" q1) (-1) none q2, .Constant (.str ": ") j q8, .FormattedValue (.Name "reason" q9) (-1) none q10] q3) p0 p1 p2 p3) :
    FnOk P w K mg base CXn 1 f fd ["self", "place", "reason"] (spIni K C .text) := by
  obtain ⟨oc, od, osl, kV, doc, pm, an, ct, cda, ccl, cdd, fvals, ccs, file, tf, cl, cld, csl, _, rfl, lk, hcd, hcode, hvs, hfile, hcc⟩ := I.ex
  refine ini_ok (ar := ar) I.G lk hcd hcode hvs hfile hcc S hp (by rw [ha]; rfl) (fun vs H Q E ⟨a, ws, gs, e, ⟨i, s, e2, _⟩, _⟩ => by subst e e2; rfl) (by rw [ha]; rfl) rfl hev ?_
  rintro A outer s H vs Q E ⟨a, ws, gs, rfl, ⟨i, t, rfl, hz, hl, rfl⟩, he, q⟩
  have v0 : Vis scope "self" := .inl (S.par _ (by simp))
  have v1 : Vis scope "place" := .inl (S.par _ (by simp))
  have v2 : Vis scope "reason" := .inl (S.par _ (by simp))
  refine ⟨a, _, rfl, he, _, _, pe_joined (.cons (pe_fmt (pe_var (i := 1) rfl v1)) (.cons pe_str (.cons (pe_fmt (pe_var (i := 2) rfl v2)) .nil))), pss_cons (ps_ost (pe_var (i := 0) rfl v0) (pe_var (i := 1) rfl v1)) (pss_one (ps_ost (pe_var (i := 0) rfl v0) (pe_var (i := 2) rfl v2))), ?_⟩
  have l0 : (Str.empty ++ (toString i : Str)).length ≤ sizeLine := by rw [str_app]; simp only [str_emp]; omega
  have l1 : (Str.empty ++ (toString i : Str) ++ (": " : Str)).length ≤ sizeLine := by rw [str_app, str_app]; simp only [str_emp, str_col]; omega
  have l2 : (Str.empty ++ (toString i : Str) ++ (": " : Str) ++ t).length ≤ sizeLine := by rw [str_app, str_app, str_app]; simp only [str_emp, str_col]; omega
  refine ⟨_, rfl, .inr ⟨i, rfl, hz, _, rfl, l0, _, rfl, l1, _, rfl, .inl ⟨t, rfl, by omega, _, rfl, l2, he, ?_⟩⟩⟩
  refine ⟨_, rfl, _, rfl, a, C, rfl, I.G.T, hno, .inl ⟨he, fun dx hd hne => ?_⟩⟩
  refine ⟨_, rfl, _, rfl, a, C, rfl, I.G.T, hno2, .inr ⟨dx, _, upd_same, by rw [upd_ne hne, upd_same], by simp, ?_⟩⟩
  exact q dx _ hd hne (by rw [upd_ne (Ne.symm hne), upd_same]) upd_same fun b hb1 hb2 => by rw [upd_ne hb2, upd_ne hb1, upd_ne hb2]
end
end FD
namespace FD
open PySem PySem.Spec PyProof.Rows L2
def iniSB (N P : List Str) (sc : Scope) : Bool := decide (sc.kind = .function) && (!sc.isCoroutine && (!sc.isGenerator && (decide N.Nodup && (decide (N.take P.length = P) && (P.all (fun x => decide (sc.names.lookup x = some .local)) && (sc.names.all (fun y => !decide (y.2 = .cell)) &&
  (sc.names.all (fun y => !decide (y.2 = .free) || decide (y.1 = "__class__")) && (decide (sc.names.lookup ("super" : Str) = some .globalImplicit) && decide (sc.names.lookup ("__class__" : Str) = some .free)))))))))
theorem iniS_by {N P : List Str} {sc : Scope} (h : iniSB N P sc = true) : IniS N P sc := by
  unfold iniSB at h
  simp only [Bool.and_eq_true, Bool.not_eq_true', decide_eq_true_eq, List.all_eq_true, Bool.or_eq_true, decide_eq_false_iff_not] at h
  obtain ⟨h1, h2, h3, h4, h5, h6, h7, h8, h9, h10⟩ := h
  exact ⟨h1, h2, h3, h4, h5, h6, h7, fun y hy e => (h8 y hy).resolve_left fun z => z e, h9, h10⟩
theorem ini_binds {P : Program} {K : PySem.W.Frag} {mg : Str → Option Value} {C f cc : Addr} {fd : FuncData} {qual : Str} {params : Arguments} {body : List Stmt} {scope : Scope} {cdv : Value} {ps : List Str} (I : IniF P K mg C f fd qual params body scope cc cdv)
    (h : ∀ (kV doc pm : Value) (an : Option Addr) (cda : Addr) (ct : Value) (us : List Value), us.length = ps.length → bindArgs (PySem.W.ksFn "__init__" qual params body scope .none kV doc pm an (.ref cda) ct cc) ⟨us, []⟩ = pure (ps.zip us)) : Binds K fd ps [] := by
  obtain ⟨oc, od, osl, kV, doc, pm, an, ct, cda, ccl, cdd, fvals, ccs, file, tf, cl, cld, csl, _, rfl, lk, hcd, hcode, hvs, hfile, hcc⟩ := I.ex
  exact .all (h kV doc pm an cda ct)
end FD

set_option Elab.async false
set_option linter.all false
set_option maxRecDepth 100000
set_option maxHeartbeats 1000000
/-! The D layer, 16: the head. -/
namespace FD
open PySem PySem.Spec PyProof.Rows L2
inductive Oks (T : Tbl) : List Df → List Fn → Prop where
  | nil : Oks T [] []
  | cons {d : Df} {b : Fn} {ds : List Df} {fs : List Fn} (h : DfOk T d b) (t : Oks T ds fs) : Oks T (d :: ds) (b :: fs)
theorem Oks.get {T : Tbl} {ds : List Df} {fs : List Fn} (h : Oks T ds fs) : ∀ (f : Nat) (d : Df), ds[f]? = some d → ∃ b, fs[f]? = some b ∧ DfOk T d b := by
  induction h with
  | nil => intro f d h; simp at h
  | cons h t ih =>
    intro f d hd
    cases f with
    | zero => simp at hd; subst hd; exact ⟨_, rfl, h⟩
    | succ f => simp at hd; simpa using ih f d hd
def BindOk (d : Df) : Prop := ∀ (kV doc pm : Value) (an : Option Addr) (cdv ct : Value) (us : List Value), us.length = d.ps.length → bindArgs (PySem.W.fnOf d.name d.qn (defArgs d.st) (defBody d.st) (defScope d.st) .none kV doc pm an cdv ct) ⟨us, []⟩ = pure (d.ps.zip us)
def fnsB (fns : List (Str × Nat)) (ds : List Df) : Bool := fns.all fun p => match ds[p.2]? with
  | some d => decide (d.gn = p.1) && d.cl.isNone
  | none => false
theorem look_mem {β : Type} {x : Str} {v : β} : ∀ {l : List (Str × β)}, l.lookup x = some v → (x, v) ∈ l
  | [], h => by cases h
  | (y, w) :: l, h => by
    rw [List.lookup_cons] at h
    split at h
    · rename_i e
      cases h
      rw [beq_iff_eq.mp e]
      exact List.mem_cons_self
    · exact List.mem_cons_of_mem _ (look_mem h)
def mkB (mk : List (Str × Nat)) (ds : List Df) : Bool := mk.all fun p => match ds[p.2]? with
  | some d => decide (d.cl = some p.1) && decide (d.name = ("__init__" : Str))
  | none => false
def mtB (mt : List (Str × List (Str × Nat))) (cn : List Str) (ds : List Df) : Bool := mt.all fun q => q.2.all fun p => cn.contains p.1 && match ds[p.2]? with
  | some d => decide (d.cl = some p.1) && decide (d.name = q.1)
  | none => false
def exsOf (l : List Xd) : List (Str × Nat × Xk) := (l.zipIdx).map fun p => (p.1.name, p.2, p.1.k)
def tblOf (ds : List (Str × Nat)) (gs : List Gc) (free : List Str) (X : Xs) : Tbl := { fns := ds, gls := gs.map Gc.pair ++ X.t.map fun q => (q.1, .tup (q.2.map .str)), free := free, exs := exsOf X.xs, exn := X.n, exb := X.b.map fun q => (q.1, q.2.2), acs := X.ac, mks := X.mks, mths := X.mths, cns := X.cns, fds := X.fds }
theorem txB_ok : ∀ {zs : List (List Nat)} {its : List Value}, txB zs its = true → Vals (zs.map fun z => V.str (toS z)) its
  | [], [], _ => .nil
  | z :: zs, .str y t :: its, h => by
    unfold txB at h
    simp only [Bool.and_eq_true, decide_eq_true_eq] at h
    exact .cons ⟨t, by rw [h.1]⟩ (txB_ok h.2)
  | z :: zs, [], h => by cases h
  | [], _ :: _, h => by cases h
  | z :: zs, .none :: _, h => by cases h
  | z :: zs, .ref _ :: _, h => by cases h
  | z :: zs, .bool _ :: _, h => by cases h
  | z :: zs, .int _ _ :: _, h => by cases h
/-! ### what is looked at of the classes -/
theorem oexB_ok {K : PySem.W.Frag} {C : Addr} (h : oexB K C = true) : OexC K C := by
  unfold oexB at h
  simp only [Bool.and_eq_true, decide_eq_true_eq] at h
  obtain ⟨h1, h2, h3, h4, h5⟩ := h
  refine ⟨?_, h2, h3, h4, h5⟩
  split at h1
  · rename_i dd cd sl ho
    split at h1
    · rename_i C' bm k0 k1 k2 k3 n k5 hm hs
      simp only [Bool.and_eq_true, beq_iff_eq, Bool.not_eq_true'] at h1
      obtain ⟨rfl, rfl, hdel, hdict, hr⟩ := h1
      obtain ⟨nm, bs, mro, ns, qn, hd, sn, sub, ab, col, del⟩ := cd
      dsimp only at hm hdel hdict
      subst hm hdel hdict
      obtain ⟨l⟩ := sl
      dsimp only at hs
      subst hs
      exact ⟨nm, qn, ns, bs, bm, sn, sub, ab, col, dd, k0, k1, k2, k3, k5, ho, hr⟩
    · cases h1
  · cases h1
section
variable {P : Program} {w : World} {K : PySem.W.Frag} {mg : Str → Option Value} {h : Heap}
theorem fact_in {fa : List He.Fa} {fn : List He.DefD} (c : He.SaysD fa fn K) {f : He.Fa} (hf : f ∈ fa) : f.ok K = true := by
  obtain ⟨i, hi, e⟩ := List.mem_iff_getElem.mp hf
  exact c.fact i (by rw [List.getElem?_eq_getElem hi, e])
theorem def_in {fa : List He.Fa} {fn : List He.DefD} (c : He.SaysD fa fn K) {d : He.DefD} (hf : d ∈ fn) : ∃ fd, FunD K d.name d.qual d.params d.body d.scope (d.dvs K) (d.kws K) (He.fAd K d.at_) fd := by
  obtain ⟨i, hi, e⟩ := List.mem_iff_getElem.mp hf
  exact c.def_ i (by rw [List.getElem?_eq_getElem hi, e])
theorem stand_of {ds : List Df} {gs : List Gc} {free : List Str} {more : List He.Fa} (X : K.In h) (G : h.Ns mainGlobals mg) (c : He.SaysD (faOf ds gs free more) (ds.map dfOf) K) (hb : ∀ d ∈ ds, BindOk d) {d : Df} (hd : d ∈ ds) :
    ∃ fd, Stand K mg d (He.fAd K (atOf d)) fd := by
  obtain ⟨fd, F⟩ := def_in c (List.mem_map_of_mem (f := dfOf) hd)
  have F' : FunD K d.name d.qn (defArgs d.st) (defBody d.st) (defScope d.st) [] [] (He.fAd K (atOf d)) fd := F
  refine ⟨fd, F', fun e => ?_, fun x e => ?_, F'.bindsN (hb d hd)⟩
  · have := He.glo_ok X G (fact_in c (List.mem_append_left _ (List.mem_map_of_mem (f := fun d : Df => He.Fa.glo d.gn) hd)))
    rw [this]
    unfold atOf
    rw [e]
    rfl
  · unfold atOf
    rw [e]
    rfl
theorem glob_of {ds : List Df} {gs : List Gc} {free : List Str} {more : List He.Fa} (X : K.In h) (G : h.Ns mainGlobals mg) (c : He.SaysD (faOf ds gs free more) (ds.map dfOf) K) (x : Str) (d : D) (hx : (x, d) ∈ gs.map Gc.pair) :
    ∃ u v, mg x = some u ∧ RelV v u ∧ ∀ α H, VR K α H d v := by
  obtain ⟨g, hg, e⟩ := List.mem_map.mp hx
  have f1 : g.fa.ok K = true := fact_in c (List.mem_append_right _ (List.mem_append_right _ (List.mem_append_left _ (List.mem_map_of_mem hg))))
  cases g with
  | int y i =>
    cases e
    obtain ⟨t, ht⟩ := He.int_ok X G f1
    exact ⟨_, .int i, ht, ⟨t, rfl⟩, fun _ _ => rfl⟩
  | str y z =>
    cases e
    obtain ⟨t, ht⟩ := He.str_ok X G f1
    exact ⟨_, .str (toS z), ht, ⟨t, rfl⟩, fun _ _ => rfl⟩
theorem free_of {ds : List Df} {gs : List Gc} {free : List Str} {more : List He.Fa} (X : K.In h) (G : h.Ns mainGlobals mg) (c : He.SaysD (faOf ds gs free more) (ds.map dfOf) K) (x : Str) (hx : free.contains x = true) : mg x = none := by
  have hx' : x ∈ free := by simpa using hx
  exact He.free_ok X G (fact_in c (List.mem_append_right _ (List.mem_append_left _ (List.mem_map_of_mem hx'))))
theorem inif_of {x : Xd} (h : xB P K x.name = true) (e : fnI K x.name = x.val) (hs : mg "super" = none) (ht : (P.main.scope.names.lookup ("super" : Str)).isSome = false) :
    ∃ (fd : FuncData) (cc : Addr) (cdv : Value), IniF P K mg (He.ga K x.name) (He.ma K (He.ga K x.name) "__init__") fd x.qual (defArgs x.st) (defBody x.st) (defScope x.st) cc cdv ∧ PySem.W.findIn K (.ref (He.ga K x.name)) "__init__" = some (some (.ref (He.ma K (He.ga K x.name) "__init__"))) ∧ PySem.W.typeIn K (.ref (He.ma K (He.ga K x.name) "__init__")) = some (.type "function") ∧
      PySem.W.findIn K (.ref (He.ga K x.name)) "place" = some none ∧ PySem.W.findIn K (.ref (He.ga K x.name)) "reason" = some none ∧ ExcC K (He.ga K x.name) ∧ XfC K (He.ga K x.name) := by
  unfold xB at h
  simp only [Bool.and_eq_true, decide_eq_true_eq] at h
  obtain ⟨h1, h2, h3, h4, h5, h6, h7, h8, h9, h10, h11, h12, h13⟩ := h
  have T := oexB_ok h1
  have XF := xfB_ok h13
  have G : IniK P K mg (He.ga K x.name) := ⟨T, Option.isSome_iff_exists.mp h4, h5, h6, h7, h8, hs, ht⟩
  unfold excCB at h12
  simp only [Bool.and_eq_true, decide_eq_true_eq] at h12
  obtain ⟨g1, g2, g3, g4⟩ := h12
  unfold fnI at e
  unfold iniC at h9
  split at h9
  · rename_i oc od fd osl lk
    rw [lk] at e
    split at h9
    · rename_i nm cc cda hcl hco hdf
      simp only [Bool.and_eq_true, decide_eq_true_eq] at h9
      obtain ⟨k1, k2, k3, k4⟩ := h9
      obtain ⟨n1, n2, n3, n4, n5, n6, n7, n8, n9, n10, n11, n12, n13, n14, n15⟩ := fd
      dsimp only at hcl hco hdf k2
      subst hcl hco hdf k1
      have e2 : (some (n1, n2, n3, n4, n5, n6, n15) : FnI) = some (("__init__" : Str), x.qual, defArgs x.st, FuncBody.stmts (defBody x.st), defScope x.st, mainGlobals, builtinsNs) := e
      simp only [Option.some.injEq, Prod.mk.injEq] at e2
      obtain ⟨e1, e2, e3, e4, e5, e6, e7⟩ := e2
      subst e1 e2 e3 e4 e5 e6 e7
      split at k3
      · rename_i ccl cdd fvals ccs hcode
        split at k3
        · rename_i file tf hvs
          split at k4
          · rename_i cl cld C' csl hcc
            obtain rfl : C' = He.ga K x.name := beq_iff_eq.mp k4
            exact ⟨_, cc, .ref cda, ⟨⟨oc, od, osl, _, _, _, _, _, cda, ccl, cdd, fvals, ccs, file, tf, cl, cld, csl, rfl, rfl, lk, k2, hcode, hvs, k3, hcc⟩, G⟩, h2, h3, h10, h11, ⟨XF.ga, XF.gg, XF.exC, XF.hdC, g1, g2, g3, g4⟩, XF⟩
          · cases k4
        · cases k3
      · cases k3
    · cases h9
  · cases h9
/-- the __init__ of a class is of its shape -/
def IniOk (P : Program) (x : Xd) : Prop := ∀ (w : World) (K : PySem.W.Frag) (mg : Str → Option Value) (base : Heap) (C f : Addr) (fd : FuncData) (cc : Addr) (cdv : Value), IniF P K mg C f fd x.qual (defArgs x.st) (defBody x.st) (defScope x.st) cc cdv → PySem.W.findIn K (.ref C) "place" = some none → PySem.W.findIn K (.ref C) "reason" = some none →
  ∃ ps, FnOk P w K mg base CXn 1 f fd ps (spIni K C x.k) ∧ Binds K fd ps []
def clsOf (K : PySem.W.Frag) (X : Xs) (n : Nat) : Option Addr := (X.xs[n]?).map fun x => He.ga K x.name
section
variable {ds : List Df} {fs : List Fn} {fns : List (Str × Nat)} {gs : List Gc} {free : List Str} {Xz : Xs}
theorem says_d (c : SaysP P (faOf ds gs free (faX Xz)) (ds.map dfOf) Xz K) : He.SaysD (faOf ds gs free (faX Xz)) (ds.map dfOf) K := congrArg (fun z : AlP => z.1) c
theorem vrs_strs {α : List Addr} {H : Hp} : ∀ zs : List (List Nat), VRs K α H (zs.map D.str) (zs.map fun z => V.str (toS z))
  | [] => rfl
  | z :: zs => ⟨.str (toS z), _, rfl, rfl, vrs_strs zs⟩
theorem glob_all (X : K.In h) (G : h.Ns mainGlobals mg) (cP : SaysP P (faOf ds gs free (faX Xz)) (ds.map dfOf) Xz K) (x : Str) (d : D) (hx : (gs.map Gc.pair ++ Xz.t.map fun q => (q.1, D.tup (q.2.map .str))).lookup x = some d) :
    ∃ u v, mg x = some u ∧ RelV v u ∧ ∀ α H, VR K α H d v := by
  have c := says_d cP
  rcases List.mem_append.mp (look_mem hx) with hm | hm
  · exact glob_of X G c x d hm
  · obtain ⟨q, hq, e⟩ := List.mem_map.mp hm
    cases e
    have c1 : xsB P K Xz = true := congrArg (fun z : AlP => z.2.1) cP
    have ht := List.all_eq_true.mp (He.ba (He.ba (He.ba c1).2).2).1 q hq
    have hg := He.glo_ok X G (fact_in c (List.mem_append_right _ (List.mem_append_right _ (List.mem_append_right _ (List.mem_append_right _ (List.mem_append_right _ (List.mem_append_right _ (List.mem_append_left _ (List.mem_map_of_mem (f := fun q : Str × List (List Nat) => He.Fa.glo q.1) hq)))))))))
    refine ⟨_, .ref (He.ga K q.1), hg, rfl, fun α H => ?_⟩
    unfold tupB at ht
    split at ht
    · rename_i t od its n sl lk
      simp only [Bool.and_eq_true, decide_eq_true_eq] at ht
      obtain ⟨h1, h2, h3⟩ := ht
      subst h1
      exact ⟨_, _, rfl, .inr ⟨_, its, n, lk, rfl, rfl, h2, txB_ok h3⟩, vrs_strs _⟩
    · cases ht
theorem more_in (c : SaysP P (faOf ds gs free (faX Xz)) (ds.map dfOf) Xz K) {f : He.Fa} (hf : f ∈ Xz.cns.map He.Fa.cls ++ (Xz.cns.flatMap (fun x => Xz.fds.map fun f => He.Fa.noat x f) ++ (Xz.mths.flatMap (fun q => q.2.map fun p => He.Fa.meth p.1 q.1) ++ (Xz.mks.map (fun p => He.Fa.mkr p.1) ++ Xz.mks.map (fun p => He.Fa.glo p.1))))) : f.ok K = true :=
  fact_in (says_d c) (List.mem_append_right _ (List.mem_append_right _ (List.mem_append_right _ (List.mem_append_right _ (List.mem_append_right _ (List.mem_append_right _ (List.mem_append_right _ hf)))))))
theorem cl_of (c : SaysP P (faOf ds gs free (faX Xz)) (ds.map dfOf) Xz K) (cn : Str) (h : Xz.cns.contains cn = true) : Cls K (He.ga K cn) ∧ ∀ f, Xz.fds.contains f = true → NoAttr K (He.ga K cn) f := by
  have h' : cn ∈ Xz.cns := List.mem_of_elem_eq_true h
  refine ⟨He.cls_ok (more_in c (List.mem_append_left _ (List.mem_map_of_mem h'))), fun f hf => ?_⟩
  have hf' : f ∈ Xz.fds := List.mem_of_elem_eq_true hf
  exact He.noat_ok (more_in c (List.mem_append_right _ (List.mem_append_left _ (List.mem_flatMap.mpr ⟨cn, h', List.mem_map_of_mem hf'⟩))))
theorem mt_of (hm : mtB Xz.mths Xz.cns ds = true) (c : SaysP P (faOf ds gs free (faX Xz)) (ds.map dfOf) Xz K) (m : Str) (l : List (Str × Nat)) (cn : Str) (f : Nat) (h1 : Xz.mths.lookup m = some l) (h2 : l.lookup cn = some f) :
    ∃ d, ds[f]? = some d ∧ d.cl = some cn ∧ d.name = m ∧ Cls K (He.ga K cn) ∧ Meth K (He.ga K cn) m (He.ma K (He.ga K cn) m) := by
  have m1 := look_mem h1
  have m2 := look_mem h2
  have q := List.all_eq_true.mp (List.all_eq_true.mp hm _ m1) _ m2
  dsimp only at q
  rw [Bool.and_eq_true] at q
  obtain ⟨q1, q2⟩ := q
  split at q2
  · rename_i d hd
    rw [Bool.and_eq_true, decide_eq_true_eq, decide_eq_true_eq] at q2
    exact ⟨d, hd, q2.1, q2.2, (cl_of c cn q1).1, He.meth_ok (more_in c (List.mem_append_right _ (List.mem_append_right _ (List.mem_append_left _ (List.mem_flatMap.mpr ⟨_, m1, List.mem_map_of_mem (f := fun p : Str × Nat => He.Fa.meth p.1 m) m2⟩)))))⟩
  · cases q2
theorem mk_of (hk : mkB Xz.mks ds = true) (X : K.In h) (G : h.Ns mainGlobals mg) (c : SaysP P (faOf ds gs free (faX Xz)) (ds.map dfOf) Xz K) (x : Str) (f : Nat) (h1 : Xz.mks.lookup x = some f) :
    mg x = some (.ref (He.ga K x)) ∧ ∃ d, ds[f]? = some d ∧ d.cl = some x ∧ d.name = ("__init__" : Str) ∧ Mk K (He.ga K x) (He.ma K (He.ga K x) "__init__") := by
  have m1 := look_mem h1
  have q := List.all_eq_true.mp hk _ m1
  dsimp only at q
  refine ⟨He.glo_ok X G (more_in c (List.mem_append_right _ (List.mem_append_right _ (List.mem_append_right _ (List.mem_append_right _ (List.mem_map_of_mem (f := fun p : Str × Nat => He.Fa.glo p.1) m1)))))), ?_⟩
  split at q
  · rename_i d hd
    rw [Bool.and_eq_true, decide_eq_true_eq, decide_eq_true_eq] at q
    exact ⟨d, hd, q.1, q.2, He.mkr_ok (more_in c (List.mem_append_right _ (List.mem_append_right _ (List.mem_append_right _ (List.mem_append_left _ (List.mem_map_of_mem (f := fun p : Str × Nat => He.Fa.mkr p.1) m1))))))⟩
  · cases q
theorem exf_of {base : Heap} (c : SaysP P (faOf ds gs free (faX Xz)) (ds.map dfOf) Xz K) (X : K.In h) (G : h.Ns mainGlobals mg) (hi : ∀ x ∈ Xz.xs, IniOk P x) (hs : Xz.xs ≠ [] → free.contains ("super" : Str) = true) (ht : (P.main.scope.names.lookup ("super" : Str)).isSome = false) (x : Str) (n : Nat) (kk : Xk) (hx : (exsOf Xz.xs).lookup x = some (n, kk)) :
    ∃ Cc, clsOf K Xz n = some Cc ∧ ExF P w K mg base x Cc kk := by
  obtain ⟨p, hp, e⟩ := List.mem_map.mp (look_mem hx)
  obtain ⟨y, m⟩ := p
  simp only [Prod.mk.injEq] at e
  obtain ⟨rfl, rfl, rfl⟩ := e
  have hm : Xz.xs[m]? = some y := by
    have := List.mem_zipIdx_iff_getElem?.mp hp
    exact this
  have hy : y ∈ Xz.xs := List.mem_of_getElem? hm
  have c1 : xsB P K Xz = true := congrArg (fun z : AlP => z.2.1) c
  have c2 : Xz.xs.map (fun x => fnI K x.name) = Xz.xs.map Xd.val := congrArg (fun z : AlP => z.2.2) c
  have c3 : xB P K y.name = true := List.all_eq_true.mp (He.ba (He.ba (He.ba (He.ba c1).2).2).2).1 y hy
  have c4 : fnI K y.name = y.val := by
    have e2 : (Xz.xs.map fun x => fnI K x.name)[m]? = (Xz.xs.map Xd.val)[m]? := by rw [c2]
    rw [List.getElem?_map, List.getElem?_map, hm] at e2
    exact Option.some.inj e2
  have sd := says_d c
  have sup : mg "super" = none := free_of X G sd _ (hs (fun z => by rw [z] at hy; cases hy))
  obtain ⟨fd, cc, cdv, I, f1, f2, f3, f4, f5, f6⟩ := inif_of c3 c4 sup ht
  obtain ⟨ps, g1, g2⟩ := hi y hy w K mg base _ _ fd cc cdv I f3 f4
  refine ⟨He.ga K y.name, by unfold clsOf; rw [hm]; rfl, I.G.T, ?_, _, fd, ps, f1, f2, g1, g2⟩
  exact He.glo_ok X G (fact_in sd (List.mem_append_right _ (List.mem_append_right _ (List.mem_append_right _ (List.mem_append_left _ (List.mem_map_of_mem (f := fun x : Xd => He.Fa.glo x.name) hy))))))
theorem ac_of (c : SaysP P (faOf ds gs free (faX Xz)) (ds.map dfOf) Xz K) (X : K.In h) (G : h.Ns mainGlobals mg) (x : Str) (hx : (tblOf fns gs free Xz).acs.contains x = true) : mg x = some (.type "itertools.accumulate") := by
  have c1 : xsB P K Xz = true := congrArg (fun z : AlP => z.2.1) c
  have hx' : x ∈ Xz.ac := List.mem_of_elem_eq_true hx
  exact PySem.W.mg_of X G (of_decide_eq_true (List.all_eq_true.mp (He.ba c1).1 x hx'))
theorem suf_of (c : SaysP P (faOf ds gs free (faX Xz)) (ds.map dfOf) Xz K) (X : K.In h) (G : h.Ns mainGlobals mg) (hs : Xz.xs ≠ [] → free.contains ("super" : Str) = true) (ht : (P.main.scope.names.lookup ("super" : Str)).isSome = false) (d : Df) : SuF K mg (clsOf K Xz) (ccOf (tblOf fns gs free Xz) d) := by
  have sd := says_d c
  have c1 : xsB P K Xz = true := congrArg (fun z : AlP => z.2.1) c
  have c2 : Xz.xs.map (fun x => fnI K x.name) = Xz.xs.map Xd.val := congrArg (fun z : AlP => z.2.2) c
  have cm := (He.ba (He.ba (He.ba (He.ba c1).2).2).2).2
  unfold xmB at cm
  have cm1 := (He.ba cm).1
  have cm2 := (He.ba cm).2
  have at_ : ∀ {n : Nat} {Cc : Addr}, clsOf K Xz n = some Cc → ∃ y, Xz.xs[n]? = some y ∧ Cc = He.ga K y.name := fun {n Cc} hn => by
    unfold clsOf at hn
    obtain ⟨y, hy, rfl⟩ := Option.map_eq_some_iff.mp hn
    exact ⟨y, hy, rfl⟩
  refine ⟨fun y hit hy => ?_, fun y hit hy => ?_, fun n Cc hn => ?_, of_decide_eq_true (He.ba (He.ba c1).2).1⟩
  · have hm : (y, hit) ∈ Xz.n := look_mem hy
    refine ⟨He.ga K y, He.glo_ok X G (fact_in sd (List.mem_append_right _ (List.mem_append_right _ (List.mem_append_right _ (List.mem_append_right _ (List.mem_append_left _ (List.mem_map_of_mem (f := fun q : Str × List Nat => He.Fa.glo q.1) hm))))))), fun n Cc hn => ?_⟩
    obtain ⟨z, hz, rfl⟩ := at_ hn
    have := List.all_eq_true.mp (List.all_eq_true.mp cm1 _ hm) (z, n) (List.mem_zipIdx_iff_getElem?.mpr hz)
    simp only [Bool.and_eq_true, decide_eq_true_eq] at this
    exact this
  · obtain ⟨q, hq, e⟩ := List.mem_map.mp (look_mem hy)
    obtain ⟨q1, q2, q3⟩ := q
    simp only [Prod.mk.injEq] at e
    obtain ⟨rfl, rfl⟩ := e
    have := List.all_eq_true.mp cm2 _ hq
    simp only [Bool.and_eq_true, decide_eq_true_eq] at this
    refine ⟨q2, He.free_ok X G (fact_in sd (List.mem_append_right _ (List.mem_append_right _ (List.mem_append_right _ (List.mem_append_right _ (List.mem_append_right _ (List.mem_append_left _ (List.mem_map_of_mem (f := fun q : Str × String × List Nat => He.Fa.free q.1) hq)))))))), this.1, fun n Cc hn => ?_⟩
    obtain ⟨z, hz, rfl⟩ := at_ hn
    have := List.all_eq_true.mp this.2 (z, n) (List.mem_zipIdx_iff_getElem?.mpr hz)
    simpa using this
  · obtain ⟨z, hz, rfl⟩ := at_ hn
    have hy : z ∈ Xz.xs := List.mem_of_getElem? hz
    have c4 : fnI K z.name = z.val := by
      have e2 : (Xz.xs.map fun x => fnI K x.name)[n]? = (Xz.xs.map Xd.val)[n]? := by rw [c2]
      rw [List.getElem?_map, List.getElem?_map, hz] at e2
      exact Option.some.inj e2
    have sup : mg "super" = none := free_of X G sd _ (hs (fun z => by rw [z] at hy; cases hy))
    obtain ⟨fd, cc, cdv, I, f1, f2, f3, f4, f5, f6⟩ := inif_of (List.all_eq_true.mp (He.ba (He.ba (He.ba (He.ba c1).2).2).2).1 z hy) c4 sup ht
    exact ⟨f5, f6, f3, f4⟩
theorem facts_ok {fuel k i : Nat} {dl : Df} {f : Addr} (hd : Oks (tblOf fns gs free Xz) ds fs) (hb : ∀ d ∈ ds, BindOk d) (hn : fnsB fns ds = true) (hmkB : mkB Xz.mks ds = true) (hmtB : mtB Xz.mths Xz.cns ds = true) (hi : ∀ x ∈ Xz.xs, IniOk P x) (hsup : Xz.xs ≠ [] → free.contains ("super" : Str) = true) (htop : (P.main.scope.names.lookup ("super" : Str)).isSome = false)
    (hl : ds[i]? = some dl) (h1 : dl.gn = ("law" : Str)) (hcl : dl.cl = none) (h2 : dl.ps = [("script" : Str)]) (X : K.In h) (G : h.Ns mainGlobals mg) (hfa : mg ("law" : Str) = some (.ref f)) (cP : SaysP P (faOf ds gs free (faX Xz)) (ds.map dfOf) Xz K) :
    ∃ fd : FuncData, (∀ (s : Shared) (v : Value), BindsTo s fd ⟨[v], []⟩ [(("script" : Str), v)]) ∧ ∀ base : Heap, K.In base → base.Ns mainGlobals mg → FnOk P w K mg base (L2.CX P w) k f fd [("script" : Str)] (spD K (clsOf K Xz) ((runN fs fuel k).fn i)) := by
  have c := says_d cP
  obtain ⟨fd, st⟩ := stand_of X G c hb (List.mem_of_getElem? hl)
  have e := st.g hcl
  rw [h1] at e
  have e2 := hfa.symm.trans e
  have e3 : f = He.fAd K (atOf dl) := Value.ref.inj (Option.some.inj e2)
  refine ⟨fd, fun s v => ?_, fun base _ _ => ?_⟩
  · have := FunD.bindsA (ps := dl.ps) st.F (hb _ (List.mem_of_getElem? hl)) s [v] (by rw [h2]; rfl)
    rw [h2] at this
    exact this
  · rw [← h2]
    rw [e3]
    exact run_ok (T := tblOf fns gs free Xz) hd.get (fun g d hg => ⟨_, stand_of X G c hb (List.mem_of_getElem? hg)⟩) (fun x g hx => by
      have hm := look_mem (l := fns) hx
      have := List.all_eq_true.mp hn _ hm
      dsimp only at this
      split at this
      · rename_i d hd; rw [Bool.and_eq_true] at this; exact ⟨d, hd, of_decide_eq_true this.1, Option.isNone_iff_eq_none.mp this.2⟩
      · cases this) (glob_all X G cP) (free_of X G c) (fun x n kk hx => exf_of cP X G hi hsup htop x n kk hx) (fun d => suf_of cP X G hsup htop d) (ac_of cP X G) (mk_of hmkB X G cP) (mt_of hmtB cP) (cl_of cP) k i dl _ fd hl st
end
theorem VRs_int {α : List Addr} {H : Hp} : ∀ ns : List Int, VRs K α H (ns.map D.int) (ns.map V.int)
  | [] => rfl
  | n :: ns => ⟨.int n, ns.map V.int, rfl, rfl, VRs_int ns⟩
/-- a law's promise: no exception leaves -/
def spN (K : PySem.W.Frag) (cls : Nat → Option Addr) (f : List D → DH → Out D) : Sp := fun vs H Q _ => spD K cls f vs H Q fun _ _ _ => False
theorem law_sp {E : XK} {cls : Nat → Option Addr} {fs : List Fn} {fuel k i : Nat} {H : Hp} {a : Addr} {ns : List Int} (hO : Only H) (hS : SqL K H a (ns.map V.int)) (hr : ∃ h', (runN fs fuel k).fn i [.fl (ns.map .int)] [] = .ok (.bl true) h') :
    spN K cls ((runN fs fuel k).fn i) [.ref a] H (fun v _ => v = .bl true) E := by
  obtain ⟨h', hr⟩ := hr
  have fz : FzL K H a (ns.map V.int) := by
    rcases hS with (h | h) | h
    · rcases hO a with z | ⟨o, xs, z⟩
      · rw [z] at h; cases h
      · rw [z] at h; cases h
    · exact .inl h
    · exact .inr h
  refine ⟨[], [.fl (ns.map .int)], [], ⟨rfl, List.nodup_nil, fun n o h => by simp at h⟩, ⟨.ref a, [], rfl, ⟨a, _, rfl, fz, VRs_int ns⟩, rfl⟩, ?_⟩
  rw [hr]
  exact fun α' H' _ _ v hv => hv
theorem no_exc {H : Hp} {outer : List Env} {s : Shared} {e : Value} {s' : Shared} (h : L2.CX P w outer H s (fun _ _ _ => False) e s') : False := by
  obtain ⟨_, _, _, _, _, _, _, _, _, _, _, _, z⟩ := h
  exact z
theorem noX {base : Heap} {k : Nat} {f : Addr} {fd : FuncData} {ps : List Str} {cls : Nat → Option Addr} {g : List D → DH → Out D} (F : FnOk P w K mg base (L2.CX P w) k f fd ps (spD K cls g)) : FnOk P w K mg base CXn k f fd ps (spN K cls g) :=
  ⟨fun vs H Q E h => F.len _ _ _ _ h, fun A outer s H args us vs Q E hr he hb hv hs => codeAny_mono (F.run A outer s H args us vs Q _ hr he hb hv hs) fun r s' h => by
    unfold L2.CR at h ⊢
    split at h
    · exact h
    · exact h
    · exact no_exc h⟩
end
end FD

set_option autoImplicit false
/-! The D layer: what proofs about the evaluator lean on. -/
namespace FD
@[simp] theorem bind_ok {α β : Type} {a : α} {h : DH} {f : α → DH → Out β} : (Out.ok a h).bind f = f a h := (rfl)
@[simp] theorem bind_bad {α β : Type} {f : α → DH → Out β} : (Out.bad : Out α).bind f = .bad := (rfl)
@[simp] theorem opt_some {α : Type} {a : α} {h : DH} : Out.opt (some a) h = .ok a h := (rfl)
@[simp] theorem sbind_ok {α : Type} {a : α} {h : DH} {σ : Fr} {f : α → DH → SO} : (Out.ok a h).sbind σ f = f a h := (rfl)
@[simp] theorem bind_exc {α β : Type} {c : Nat} {fs : List (List Nat × D)} {h : DH} {f : α → DH → Out β} : (Out.exc c fs h : Out α).bind f = .exc c fs h := (rfl)
@[simp] theorem sbind_exc {α : Type} {c : Nat} {fs : List (List Nat × D)} {h : DH} {σ : Fr} {f : α → DH → SO} : (Out.exc c fs h : Out α).sbind σ f = .exc c fs σ h := (rfl)
@[simp] theorem sbind_bad {α : Type} {σ : Fr} {f : α → DH → SO} : (Out.bad : Out α).sbind σ f = .bad := (rfl)
@[simp] theorem seq_exc {c : Nat} {fs : List (List Nat × D)} {σ : Fr} {h : DH} {k : Fr → DH → SO} : (SO.exc c fs σ h).seq k = .exc c fs σ h := (rfl)
@[simp] theorem loop_exc {c : Nat} {fs : List (List Nat × D)} {σ : Fr} {h : DH} {k : Fr → DH → SO} : (SO.exc c fs σ h).loop k = .exc c fs σ h := (rfl)
@[simp] theorem lvl_run {fs : List Fn} {fuel : Nat} : ∀ {k : Nat}, (runN fs fuel k).lvl = k
  | 0 => rfl
  | _ + 1 => rfl
@[simp] theorem fuel_run {fs : List Fn} {fuel : Nat} : ∀ {k : Nat}, (runN fs fuel k).fuel = fuel
  | 0 => rfl
  | _ + 1 => rfl
@[simp] theorem noexc_ok {α : Type} {a : α} {h : DH} : (Out.ok a h).noexc = .ok a h := (rfl)
@[simp] theorem seq_nx {σ : Fr} {h : DH} {k : Fr → DH → SO} : (SO.nx σ h).seq k = k σ h := (rfl)
@[simp] theorem seq_rt {d : D} {h : DH} {k : Fr → DH → SO} : (SO.rt d h).seq k = .rt d h := (rfl)
@[simp] theorem seq_brk {σ : Fr} {h : DH} {k : Fr → DH → SO} : (SO.brk σ h).seq k = .brk σ h := (rfl)
@[simp] theorem seq_cnt {σ : Fr} {h : DH} {k : Fr → DH → SO} : (SO.cnt σ h).seq k = .cnt σ h := (rfl)
@[simp] theorem loop_nx {σ : Fr} {h : DH} {k : Fr → DH → SO} : (SO.nx σ h).loop k = k σ h := (rfl)
@[simp] theorem loop_cnt {σ : Fr} {h : DH} {k : Fr → DH → SO} : (SO.cnt σ h).loop k = k σ h := (rfl)
@[simp] theorem loop_brk {σ : Fr} {h : DH} {k : Fr → DH → SO} : (SO.brk σ h).loop k = .nx σ h := (rfl)
@[simp] theorem loop_rt {d : D} {h : DH} {k : Fr → DH → SO} : (SO.rt d h).loop k = .rt d h := (rfl)
@[simp] theorem frame_eq {n : Nat} {xs : List D} : frame n xs = xs.map some ++ List.replicate (n - xs.length) none := (rfl)
@[simp] theorem len_nil : Ts.len .nil = 0 := (rfl)
@[simp] theorem len_cons {t : T} {ts : Ts} : Ts.len (.cons t ts) = Ts.len ts + 1 := (rfl)
@[simp] theorem wipe_nil {σ : Fr} : wipeF σ [] = σ := (rfl)
@[simp] theorem wipe_cons {σ : Fr} {v : Nat} {vs : List Nat} : wipeF σ (v :: vs) = (wipeF σ vs).set v none := (rfl)
/-! ### the evaluator by places -/
section
variable {C : Cn} {σ : Fr} {h : DH}
@[simp] theorem v_sl {i : Nat} : (ev C (.sl i)).v σ h = match σ[i]? with | some (some d) => .ok d h | _ => .bad := (rfl)
@[simp] theorem v_c {d : D} : (ev C (.c d)).v σ h = .ok d h := (rfl)
@[simp] theorem v_bin {o : BOp} {a b : E} : (ev C (.bin o a b)).v σ h = ((ev C a).v σ h).bind fun x h => ((ev C b).v σ h).bind fun y h => binD h o x y := (rfl)
@[simp] theorem v_neg {a : E} : (ev C (.neg a)).v σ h = ((ev C a).v σ h).bind fun x h => match x with | .int i => .ok (.int (-i)) h | _ => .bad := (rfl)
@[simp] theorem v_cmp {o : COp} {a b : E} : (ev C (.cmp o a b)).v σ h = ((ev C a).v σ h).bind fun x h => ((ev C b).v σ h).bind fun y h => .opt ((cmpD h o x y).map .bl) h := (rfl)
@[simp] theorem v_is {p : Bool} {a : E} {s : Si} : (ev C (.is_ p a s)).v σ h = ((ev C a).v σ h).bind fun x h => .ok (.bl (p == isD x s)) h := (rfl)
@[simp] theorem v_not {a : E} : (ev C (.not_ a)).v σ h = ((ev C a).v σ h).bind fun x h => .opt ((truD h x).map fun b => .bl (!b)) h := (rfl)
@[simp] theorem v_and {a b : E} : (ev C (.and_ a b)).v σ h = ((ev C a).v σ h).bind fun x h => match truD h x with | some true => (ev C b).v σ h | some false => .ok x h | none => .bad := (rfl)
@[simp] theorem v_or {a b : E} : (ev C (.or_ a b)).v σ h = ((ev C a).v σ h).bind fun x h => match truD h x with | some true => .ok x h | some false => (ev C b).v σ h | none => .bad := (rfl)
@[simp] theorem v_ite {t a b : E} : (ev C (.ite t a b)).v σ h = ((ev C t).t σ h).bind fun c h => if c then (ev C a).v σ h else (ev C b).v σ h := (rfl)
@[simp] theorem v_tup {es : Es} : (ev C (.tup es)).v σ h = (evs C es σ h).bind fun xs h => if xs.length ≤ SL then .ok (.tup xs) h else .bad := (rfl)
@[simp] theorem v_ofL {l : L} : (ev C (.ofL l)).v σ h = (evL C l σ h).bind fun xs h => .ok (.ref h.length) (h ++ [.lst xs]) := (rfl)
@[simp] theorem v_ix {a b : E} : (ev C (.ix a b)).v σ h = ((ev C a).v σ h).bind fun x h => ((ev C b).v σ h).bind fun y h => .opt (ixD h x y) h := (rfl)
@[simp] theorem v_ixL {l : L} {b : E} : (ev C (.ixL l b)).v σ h = (evL C l σ h).bind fun xs h => ((ev C b).v σ h).bind fun y h => match y with | .int i => .opt (atI xs i) h | _ => .bad := (rfl)
@[simp] theorem v_sli {a : E} {lo hi : Oe} : (ev C (.sli a lo hi)).v σ h = ((ev C a).v σ h).bind fun x h => (evO C lo σ h).bind fun l h => (evO C hi σ h).bind fun u h => sliD h x l u := (rfl)
@[simp] theorem v_call {f : Nat} {es : Es} : (ev C (.call f es)).v σ h = (evs C es σ h).bind fun xs h => C.fn f xs h := (rfl)
@[simp] theorem v_isi {a : E} {t : Ty} : (ev C (.isi a t)).v σ h = ((ev C a).v σ h).bind fun x h => .opt ((isiD h x t).map .bl) h := (rfl)
@[simp] theorem v_bi {b : Bi} {a : E} : (ev C (.bi b a)).v σ h = ((ev C a).v σ h).bind fun x h => .opt (biD h b x) h := (rfl)
@[simp] theorem v_biL {b : Bl} {l : L} : (ev C (.biL b l)).v σ h = (evL C l σ h).bind fun xs h => .opt (blD b xs) h := (rfl)
@[simp] theorem v_mt {m : Mt} {o : E} {es : Es} : (ev C (.mt m o es)).v σ h = ((ev C o).v σ h).bind fun x h => if mtK h m x then (evs C es σ h).bind fun ys h => mtD h m x ys else .bad := (rfl)
@[simp] theorem v_mtL {m : Ml} {o : E} {l : L} : (ev C (.mtL m o l)).v σ h = ((ev C o).v σ h).bind fun x h => if mlK m x then (evL C l σ h).bind fun ys h => .opt (mlD m x ys) h else .bad := (rfl)
@[simp] theorem v_repl {c : List Nat} {o : E} {ps : List (Nat × List Nat)} : (ev C (.repl c o ps)).v σ h = ((ev C o).v σ h).bind fun x h => match x with
    | .str s => match replD ps s with
      | some r => if c.length + r.length ≤ SL then .ok (.str (c ++ r)) h else .bad
      | none => .bad
    | _ => .bad := (rfl)
@[simp] theorem t_sl {i : Nat} : (ev C (.sl i)).t σ h = ((ev C (.sl i)).v σ h).bind fun x h => .opt (truD h x) h := (rfl)
@[simp] theorem t_c {d : D} : (ev C (.c d)).t σ h = .opt (truD h d) h := (rfl)
@[simp] theorem t_cmp {o : COp} {a b : E} : (ev C (.cmp o a b)).t σ h = ((ev C (.cmp o a b)).v σ h).bind fun x h => .opt (truD h x) h := (rfl)
@[simp] theorem t_is {p : Bool} {a : E} {s : Si} : (ev C (.is_ p a s)).t σ h = ((ev C (.is_ p a s)).v σ h).bind fun x h => .opt (truD h x) h := (rfl)
@[simp] theorem t_isi {a : E} {t : Ty} : (ev C (.isi a t)).t σ h = ((ev C (.isi a t)).v σ h).bind fun x h => .opt (truD h x) h := (rfl)
@[simp] theorem t_call {f : Nat} {es : Es} : (ev C (.call f es)).t σ h = ((ev C (.call f es)).v σ h).bind fun x h => .opt (truD h x) h := (rfl)
@[simp] theorem t_bin {o : BOp} {a b : E} : (ev C (.bin o a b)).t σ h = ((ev C (.bin o a b)).v σ h).bind fun x h => .opt (truD h x) h := (rfl)
@[simp] theorem t_ix {a b : E} : (ev C (.ix a b)).t σ h = ((ev C (.ix a b)).v σ h).bind fun x h => .opt (truD h x) h := (rfl)
@[simp] theorem t_bi {b : Bi} {a : E} : (ev C (.bi b a)).t σ h = ((ev C (.bi b a)).v σ h).bind fun x h => .opt (truD h x) h := (rfl)
@[simp] theorem t_biL {b : Bl} {l : L} : (ev C (.biL b l)).t σ h = ((ev C (.biL b l)).v σ h).bind fun x h => .opt (truD h x) h := (rfl)
@[simp] theorem t_not {a : E} : (ev C (.not_ a)).t σ h = ((ev C a).t σ h).bind fun c h => .ok (!c) h := (rfl)
@[simp] theorem t_and {a b : E} : (ev C (.and_ a b)).t σ h = ((ev C a).t σ h).bind fun c h => if c then (ev C b).t σ h else .ok false h := (rfl)
@[simp] theorem t_or {a b : E} : (ev C (.or_ a b)).t σ h = ((ev C a).t σ h).bind fun c h => if c then .ok true h else (ev C b).t σ h := (rfl)
@[simp] theorem t_ite {t a b : E} : (ev C (.ite t a b)).t σ h = ((ev C t).t σ h).bind fun c h => if c then (ev C a).t σ h else (ev C b).t σ h := (rfl)
@[simp] theorem es_nil : evs C .nil σ h = .ok [] h := (rfl)
@[simp] theorem es_cons {e : E} {es : Es} : evs C (.cons e es) σ h = ((ev C e).v σ h).bind fun x h => (evs C es σ h).bind fun xs h => .ok (x :: xs) h := (rfl)
@[simp] theorem o_none : evO C .none σ h = .ok none h := (rfl)
@[simp] theorem o_some {e : E} : evO C (.some e) σ h = ((ev C e).v σ h).bind fun x h => match x with | .int i => .ok (some i) h | _ => .bad := (rfl)
@[simp] theorem l_disp {es : Es} : evL C (.disp es) σ h = (evs C es σ h).bind fun xs h => if xs.length ≤ SL then .ok xs h else .bad := (rfl)
/-- a comprehension's walk -/
def cpB (C : Cn) (elt : E) (tg : T) (cond : Oe) (σ : Fr) (s : Src) (h : DH) : Out (List D) := (compS C.fuel (cmpT (ev C elt).v (asT C tg) (tsO C cond) σ) s h).noexc
@[simp] theorem l_comp {elt : E} {vs : List Nat} {tg : T} {it : It} {cond : Oe} : evL C (.comp elt vs tg it cond) σ h = (evI C it σ h).bind fun s h => cpB C elt tg cond (wipeF σ vs) s h := (rfl)
@[simp] theorem i_e {a : E} : evI C (.e a) σ h = ((ev C a).v σ h).bind fun x h => .opt (srcD h x) h := (rfl)
@[simp] theorem i_l {l : L} : evI C (.l l) σ h = (evL C l σ h).bind fun xs h => .ok (.items xs) h := (rfl)
@[simp] theorem i_r1 {a : E} : evI C (.r1 a) σ h = ((ev C a).v σ h).bind fun x h => match x with | .int j => if -lim ≤ j ∧ j < lim then .ok (.items (rngL 0 j.toNat)) h else .bad | _ => .bad := (rfl)
@[simp] theorem i_r2 {a b : E} : evI C (.r2 a b) σ h = ((ev C a).v σ h).bind fun x h => ((ev C b).v σ h).bind fun y h => match x, y with | .int i, .int j => if -lim ≤ i ∧ i < lim ∧ -lim ≤ j ∧ j < lim then .ok (.items (rngL i (j - i).toNat)) h else .bad | _, _ => .bad := (rfl)
@[simp] theorem t_slot {i : Nat} {d : D} : asT C (.sl i) d σ h = .ok (σ.set i (some d)) h := (rfl)
@[simp] theorem t_tuple {ts : Ts} {xs : List D} : asT C (.tup ts) (.tup xs) σ h = if xs.length = ts.len then asTs C ts xs σ h else .bad := (rfl)
@[simp] theorem t_sub {a b : E} {d : D} : asT C (.sub a b) d σ h = ((ev C a).v σ h).bind fun x h => ((ev C b).v σ h).bind fun y h => match setItD h x y d with
    | some h' => .ok σ h'
    | none => .bad := (rfl)
@[simp] theorem setIt_ref {n : Nat} {i : Int} {d : D} : setItD h (.ref n) (.int i) d = match h[n]? with
    | some (.lst xs) => (ixN xs.length i).map fun j => h.set n (.lst (xs.set j d))
    | some (.dic kvs) => if kvs.length < SL then some (h.set n (.dic (dput kvs (.inl i) d))) else none
    | _ => none := (rfl)
@[simp] theorem ts_nil : asTs C .nil [] σ h = .ok σ h := (rfl)
@[simp] theorem ts_cons {t : T} {ts : Ts} {x : D} {xs : List D} : asTs C (.cons t ts) (x :: xs) σ h = (asT C t x σ h).bind fun σ h => (asTs C ts xs σ h).noexc := (rfl)
@[simp] theorem c_none : tsO C .none σ h = .ok true h := (rfl)
@[simp] theorem c_some {e : E} : tsO C (.some e) σ h = (ev C e).t σ h := (rfl)
@[simp] theorem s_asg {t : T} {e : E} : evS C (.asg t e) σ h = ((ev C e).v σ h).sbind σ fun d h => (asT C t d σ h).sbind σ fun σ h => .nx σ h := (rfl)
@[simp] theorem s_aug {i : Nat} {o : BOp} {e : E} : evS C (.aug i o e) σ h = match σ[i]? with
    | some (some x) => ((ev C e).v σ h).sbind σ fun y h => (augD h o x y).sbind σ fun z h => .nx (σ.set i (some z)) h
    | _ => .bad := (rfl)
@[simp] theorem s_ex {e : E} : evS C (.ex e) σ h = ((ev C e).v σ h).sbind σ fun _ h => .nx σ h := (rfl)
@[simp] theorem s_ret {e : E} : evS C (.ret e) σ h = ((ev C e).v σ h).sbind σ fun d h => .rt d h := (rfl)
@[simp] theorem s_retN : evS C .retN σ h = .rt .non h := (rfl)
@[simp] theorem s_ite {t : E} {a b : Ss} : evS C (.ite t a b) σ h = ((ev C t).t σ h).sbind σ fun c h => if c then evSs C a σ h else evSs C b σ h := (rfl)
/-- a loop that is walked -/
def frB (C : Cn) (t : T) (b : Ss) (s : Src) (σ : Fr) (h : DH) : SO := frS C.fuel (fun d σ h => (asT C t d σ h).sbind σ fun σ h => evSs C b σ h) s σ h
@[simp] theorem s_fr {t : T} {it : It} {b : Ss} : evS C (.fr t it b) σ h = (evI C it σ h).sbind σ fun s h => frB C t b s σ h := (rfl)
def whB (C : Cn) (t : E) (b : Ss) (σ : Fr) (h : DH) : SO := whl (ev C t).t (evSs C b) C.fuel σ h
@[simp] theorem s_whl {t : E} {b : Ss} : evS C (.whl t b) σ h = whB C t b σ h := (rfl)
@[simp] theorem s_rais {c : Nat} {k : Xk} {es : Es} : evS C (.rais c k es) σ h = if C.lvl < 2 then .bad else (evs C es σ h).sbind σ fun ds h => match mkX k ds with
    | some fs => .exc c fs σ h
    | none => .bad := (rfl)
/-- what try makes of its body's end -/
def tryF (hit : List Nat) (i : Nat) (su : SU) (o : SO) : SO := match o with
    | .exc c fs σ' h' => if hit.contains c then (if i < σ'.length then (match su.v c fs with
      | some d => .rt d h'
      | none => .bad) else .bad) else .exc c fs σ' h'
    | .nx σ h => .nx σ h
    | .rt d h => .rt d h
    | .brk σ h => .brk σ h
    | .cnt σ h => .cnt σ h
    | .bad => .bad
@[simp] theorem s_try {b : Ss} {hit : List Nat} {i : Nat} {su : SU} : evS C (.tryX b hit i su) σ h = tryF hit i su (evSs C b σ h) := (rfl)
@[simp] theorem try_nx {hit : List Nat} {i : Nat} {su : SU} : tryF hit i su (.nx σ h) = .nx σ h := (rfl)
@[simp] theorem try_rt {hit : List Nat} {i : Nat} {su : SU} {d : D} : tryF hit i su (.rt d h) = .rt d h := (rfl)
@[simp] theorem try_exc {hit : List Nat} {i : Nat} {su : SU} {c : Nat} {fs : List (List Nat × D)} : tryF hit i su (.exc c fs σ h) = if hit.contains c then (if i < σ.length then (match su.v c fs with
      | some d => .rt d h
      | none => .bad) else .bad) else .exc c fs σ h := (rfl)
@[simp] theorem v_dict {ks : List DK} {es : Es} : (ev C (.dict ks es)).v σ h = (evs C es σ h).bind fun xs h => dispD ks xs h := (rfl)
@[simp] theorem v_dget1 {o a : E} : (ev C (.dget1 o a)).v σ h = ((ev C o).v σ h).bind fun x h => if isDic h x then ((ev C a).v σ h).bind fun y h => .opt (dgtD h x y .non) h else .bad := (rfl)
@[simp] theorem v_dget2 {o a d : E} : (ev C (.dget2 o a d)).v σ h = ((ev C o).v σ h).bind fun x h => if isDic h x then ((ev C a).v σ h).bind fun y h => ((ev C d).v σ h).bind fun z h => .opt (dgtD h x y z) h else .bad := (rfl)
@[simp] theorem v_chain {o o2 : COp} {a b d : E} : (ev C (.chain o o2 a b d)).v σ h = ((ev C a).v σ h).bind fun x h => ((ev C b).v σ h).bind fun y h => match cmpD h o x y with
    | some true => ((ev C d).v σ h).bind fun z h => .opt ((cmpD h o2 y z).map .bl) h
    | some false => .ok (.bl false) h
    | none => .bad := (rfl)
@[simp] theorem t_chain {o o2 : COp} {a b d : E} : (ev C (.chain o o2 a b d)).t σ h = ((ev C (.chain o o2 a b d)).v σ h).bind fun x h => .opt (truD h x) h := (rfl)
@[simp] theorem v_revS {a : E} : (ev C (.revS a)).v σ h = ((ev C a).v σ h).bind fun x h => .opt (revD x) h := (rfl)
@[simp] theorem v_ordL {a : E} : (ev C (.ordL a)).v σ h = ((ev C a).v σ h).bind fun x h => ordD h x := (rfl)
@[simp] theorem v_accS {a : E} : (ev C (.accS a)).v σ h = ((ev C a).v σ h).bind fun x h => .opt (accD h x) h := (rfl)
@[simp] theorem v_tm {q : Tm} {a : E} : (ev C (.tm q a)).v σ h = ((ev C a).v σ h).bind fun x h => .opt (tmD q x) h := (rfl)
@[simp] theorem t_tm {q : Tm} {a : E} : (ev C (.tm q a)).t σ h = ((ev C (.tm q a)).v σ h).bind fun x h => .opt (truD h x) h := (rfl)
@[simp] theorem v_fstr {es : Es} : (ev C (.fstr es)).v σ h = (evF C es [] σ h).bind fun s h => .ok (.str s) h := (rfl)
@[simp] theorem f_nil {acc : List Nat} : evF C .nil acc σ h = .ok acc h := (rfl)
@[simp] theorem f_cons {e : E} {es : Es} {acc : List Nat} : evF C (.cons e es) acc σ h = ((ev C e).v σ h).bind fun x h => match fmt1 acc x with
    | some a => evF C es a σ h
    | none => .bad := (rfl)
@[simp] theorem i_enum {a : E} : evI C (.enum a) σ h = ((ev C a).v σ h).bind fun x h => .opt (enumD h x) h := (rfl)
@[simp] theorem i_zip {a b : E} : evI C (.zip a b) σ h = ((ev C a).v σ h).bind fun x h => ((ev C b).v σ h).bind fun y h => .opt (zipD h x y) h := (rfl)
@[simp] theorem s_par2 {i j : Nat} {es : Es} : evS C (.par2 i j es) σ h = (evs C es σ h).sbind σ fun ds h => match ds with
    | [x, y] => .nx ((σ.set i (some x)).set j (some y)) h
    | _ => .bad := (rfl)
@[simp] theorem s_par3 {i j l : Nat} {es : Es} : evS C (.par3 i j l es) σ h = (evs C es σ h).sbind σ fun ds h => match ds with
    | [x, y, z] => .nx (((σ.set i (some x)).set j (some y)).set l (some z)) h
    | _ => .bad := (rfl)
@[simp] theorem s_brk : evS C .brk σ h = .brk σ h := (rfl)
@[simp] theorem s_cnt : evS C .cnt σ h = .cnt σ h := (rfl)
@[simp] theorem s_pass : evS C .pass σ h = .nx σ h := (rfl)
@[simp] theorem s_never : evS C .never σ h = .bad := (rfl)
@[simp] theorem ss_nil : evSs C .nil σ h = .nx σ h := (rfl)
@[simp] theorem ss_cons {s : S} {ss : Ss} : evSs C (.cons s ss) σ h = (evS C s σ h).seq (evSs C ss) := (rfl)
end
/-! ### what is wanted behind it -/
abbrev Ex := Nat → List (List Nat × D) → DH → Prop
abbrev nox : Ex := fun _ _ _ => False
def Out.satX {α : Type} (o : Out α) (Z : α → DH → Prop) (Ec : Ex) : Prop := match o with | .ok a h => Z a h | .exc c fs h => Ec c fs h | .bad => False
def SO.satX (o : SO) (N : Fr → DH → Prop) (R : D → DH → Prop) (B Ct : Fr → DH → Prop) (Ec : Ex) : Prop := match o with
  | .nx σ h => N σ h | .rt d h => R d h | .brk σ h => B σ h | .cnt σ h => Ct σ h | .exc c fs _ h => Ec c fs h | .bad => False
abbrev Out.sat {α : Type} (o : Out α) (Z : α → DH → Prop) : Prop := o.satX Z nox
abbrev SO.sat (o : SO) (N : Fr → DH → Prop) (R : D → DH → Prop) (B Ct : Fr → DH → Prop) : Prop := o.satX N R B Ct nox
section
variable {α β : Type} {N B Ct : Fr → DH → Prop} {R : D → DH → Prop} {Ec : Ex} {σ : Fr} {h : DH}
@[simp] theorem sat_nx : (SO.nx σ h).satX N R B Ct Ec = N σ h := (rfl)
@[simp] theorem sat_rt {d : D} : (SO.rt d h).satX N R B Ct Ec = R d h := (rfl)
@[simp] theorem sat_brk : (SO.brk σ h).satX N R B Ct Ec = B σ h := (rfl)
@[simp] theorem sat_cnt : (SO.cnt σ h).satX N R B Ct Ec = Ct σ h := (rfl)
@[simp] theorem sat_exc {c : Nat} {fs : List (List Nat × D)} : (SO.exc c fs σ h).satX N R B Ct Ec = Ec c fs h := (rfl)
@[simp] theorem sat_bad : SO.bad.satX N R B Ct Ec = False := (rfl)
@[simp] theorem osat_ok {a : α} {Z : α → DH → Prop} : (Out.ok a h).satX Z Ec = Z a h := (rfl)
@[simp] theorem osat_exc {c : Nat} {fs : List (List Nat × D)} {Z : α → DH → Prop} : (Out.exc c fs h : Out α).satX Z Ec = Ec c fs h := (rfl)
@[simp] theorem osat_bad {Z : α → DH → Prop} : (Out.bad : Out α).satX Z Ec = False := (rfl)
theorem sat_seq {o : SO} {k : Fr → DH → SO} (p : o.satX (fun σ h => (k σ h).satX N R B Ct Ec) R B Ct Ec) : (o.seq k).satX N R B Ct Ec := by cases o <;> exact p
theorem SO.satX.mono {o : SO} {N' B' Ct' : Fr → DH → Prop} {R' : D → DH → Prop} {E' : Ex} (p : o.satX N R B Ct Ec) (a : ∀ σ h, N σ h → N' σ h) (b : ∀ d h, R d h → R' d h) (c : ∀ σ h, B σ h → B' σ h) (d : ∀ σ h, Ct σ h → Ct' σ h) (e : ∀ c fs h, Ec c fs h → E' c fs h) : o.satX N' R' B' Ct' E' := by
  cases o with
  | nx _ _ => exact a _ _ p
  | rt _ _ => exact b _ _ p
  | brk _ _ => exact c _ _ p
  | cnt _ _ => exact d _ _ p
  | exc _ _ _ _ => exact e _ _ _ p
  | bad => exact p
theorem SO.sat.mono {o : SO} {N' B' Ct' : Fr → DH → Prop} {R' : D → DH → Prop} (p : o.satX N R B Ct Ec) (a : ∀ σ h, N σ h → N' σ h) (b : ∀ d h, R d h → R' d h) (c : ∀ σ h, B σ h → B' σ h) (d : ∀ σ h, Ct σ h → Ct' σ h) : o.satX N' R' B' Ct' Ec := SO.satX.mono p a b c d fun _ _ _ z => z
theorem sat_bind {o : Out α} {f : α → DH → Out β} {Z : β → DH → Prop} (p : o.satX (fun a h => (f a h).satX Z Ec) Ec) : (o.bind f).satX Z Ec := by cases o <;> exact p
theorem sat_sbind {o : Out α} {f : α → DH → SO} (p : o.satX (fun a h => (f a h).satX N R B Ct Ec) Ec) : (o.sbind σ f).satX N R B Ct Ec := by cases o <;> exact p
theorem Out.satX.mono {o : Out α} {Z Z' : α → DH → Prop} {E' : Ex} (p : o.satX Z Ec) (m : ∀ a h, Z a h → Z' a h) (e : ∀ c fs h, Ec c fs h → E' c fs h) : o.satX Z' E' := by
  cases o with
  | ok _ _ => exact m _ _ p
  | exc _ _ _ => exact e _ _ _ p
  | bad => exact p
theorem Out.sat.mono {o : Out α} {Z Z' : α → DH → Prop} (p : o.satX Z Ec) (m : ∀ a h, Z a h → Z' a h) : o.satX Z' Ec := Out.satX.mono p m fun _ _ _ z => z
/-- a call -/
theorem sat_run {C : Cn} {n np : Nat} {b : Ss} {xs : List D} {Z : D → DH → Prop} (hl : xs.length = np) (p : (evSs C b (frame n xs) h).satX (fun _ h => Z .non h) Z (fun _ _ => False) (fun _ _ => False) Ec) : (runD C n np b xs h).satX Z Ec := by
  unfold runD
  rw [if_pos hl]
  cases e : evSs C b (frame n xs) h <;> rw [e] at p <;> exact p
theorem fn_eq {fs : List Fn} {fuel k f : Nat} {xs : List D} {d : Fn} (e : fs[f]? = some d) : (runN fs fuel (k + 1)).fn f xs h = runD (runN fs fuel k) d.n d.np d.b xs h := by
  show (match fs[f]? with | some d => runD (runN fs fuel k) d.n d.np d.b xs h | none => .bad) = _
  rw [e]
theorem sat_fn {fs : List Fn} {fuel k f : Nat} {xs : List D} {d : Fn} {Z : D → DH → Prop} (e : fs[f]? = some d) (hl : xs.length = d.np) (p : (evSs (runN fs fuel k) d.b (frame d.n xs) h).satX (fun _ h => Z .non h) Z (fun _ _ => False) (fun _ _ => False) Ec) : ((runN fs fuel (k + 1)).fn f xs h).satX Z Ec := by
  rw [fn_eq e]; exact sat_run hl p
theorem sat_then {o : SO} {k : Fr → DH → SO} (M : Fr → DH → Prop) (p : o.satX M R B Ct Ec) (q : ∀ σ h, M σ h → (k σ h).satX N R B Ct Ec) : (o.seq k).satX N R B Ct Ec := sat_seq (SO.sat.mono p q (fun _ _ z => z) (fun _ _ z => z) (fun _ _ z => z))
/-- a loop over items: I by the number of turns done -/
theorem frI_sat {f : D → Fr → DH → SO} (I : Nat → Fr → DH → Prop) (ds : List D) (k : Nat) (h0 : I k σ h) (hs : ∀ i d σ h, ds[i]? = some d → I (k + i) σ h → (f d σ h).satX (I (k + i + 1)) R N (I (k + i + 1)) Ec) (he : ∀ σ h, I (k + ds.length) σ h → N σ h) : (frI f ds σ h).satX N R B Ct Ec := by
  induction ds generalizing k σ h with
  | nil => exact he _ _ h0
  | cons d ds ih =>
    have p := hs 0 d σ h rfl h0
    show ((f d σ h).loop (frI f ds)).satX N R B Ct Ec
    have next : ∀ σ h, I (k + 1) σ h → (frI f ds σ h).satX N R B Ct Ec := fun σ h i => ih (k + 1) i (fun j d σ h e i => by
      have := hs (j + 1) d σ h (by simpa using e) (by rw [show k + (j + 1) = k + 1 + j by omega]; exact i)
      rw [show k + (j + 1) + 1 = k + 1 + j + 1 by omega] at this
      exact this) fun σ h i => he σ h (by rw [List.length_cons, show k + (ds.length + 1) = k + 1 + ds.length by omega]; exact i)
    cases e : f d σ h <;> rw [e] at p <;> first | exact next _ _ p | exact p
theorem frB_items {C : Cn} {t : T} {b : Ss} {ds : List D} (I : Nat → Fr → DH → Prop) (h0 : I 0 σ h) (hs : ∀ i d σ h, ds[i]? = some d → I i σ h → ((asT C t d σ h).sbind σ fun σ h => evSs C b σ h).satX (I (i + 1)) R N (I (i + 1)) Ec) (he : ∀ σ h, I ds.length σ h → N σ h) : (frB C t b (.items ds) σ h).satX N R B Ct Ec :=
  frI_sat I ds 0 h0 (fun i d σ h e p => by rw [Nat.zero_add] at p ⊢; exact hs i d σ h e p) (fun σ h p => he σ h (by rw [Nat.zero_add] at p; exact p))
/-- while: I with a measure -/
theorem whl_sat {t : Fr → DH → Out Bool} {b : Fr → DH → SO} (I : Nat → Fr → DH → Prop) (hs : ∀ m σ h, I m σ h → (t σ h).satX (fun c h => if c then (b σ h).satX (fun σ h => ∃ m', m' < m ∧ I m' σ h) R N (fun σ h => ∃ m', m' < m ∧ I m' σ h) Ec else N σ h) Ec) : ∀ (m fu : Nat), m < fu → I m σ h → (whl t b fu σ h).satX N R B Ct Ec := by
  intro m
  induction m using Nat.strongRecOn generalizing σ h with
  | _ m ih =>
    intro fu hf i
    cases fu with
    | zero => omega
    | succ fu =>
      have p := hs m σ h i
      unfold whl
      cases e : t σ h with
      | bad => rw [e] at p; exact p.elim
      | exc _ _ _ => rw [e] at p; exact p
      | ok c h2 =>
        rw [e] at p
        cases c with
        | false => exact p
        | true =>
          have p2 : (b σ h2).satX (fun σ h => ∃ m', m' < m ∧ I m' σ h) R N (fun σ h => ∃ m', m' < m ∧ I m' σ h) Ec := p
          show ((b σ h2).loop (whl t b fu)).satX N R B Ct Ec
          cases e2 : b σ h2 <;> rw [e2] at p2 <;> first | (obtain ⟨m', hm, i'⟩ := p2; exact ih m' hm fu (by omega) i') | exact p2
theorem whB_sat {C : Cn} {t : E} {b : Ss} (I : Nat → Fr → DH → Prop) (m : Nat) (hm : m < C.fuel) (h0 : I m σ h) (hs : ∀ m σ h, I m σ h → ((ev C t).t σ h).satX (fun c h => if c then (evSs C b σ h).satX (fun σ h => ∃ m', m' < m ∧ I m' σ h) R N (fun σ h => ∃ m', m' < m ∧ I m' σ h) Ec else N σ h) Ec) : (whB C t b σ h).satX N R B Ct Ec :=
  whl_sat I hs m C.fuel hm h0
/-- a comprehension over items: I by what is done and the list so far -/
theorem cpB_items {C : Cn} {elt : E} {tg : T} {cond : Oe} {ds : List D} {Z : List D → DH → Prop} (I : Nat → List D → DH → Prop) (h0 : I 0 [] h)
    (hs : ∀ i d acc h, ds[i]? = some d → I i acc h → (asT C tg d σ h).sat fun σ' h => (tsO C cond σ' h).sat fun b h => if b then ((ev C elt).v σ' h).sat fun y h => acc.length < SL ∧ I (i + 1) (acc ++ [y]) h else I (i + 1) acc h) (he : ∀ acc h, I ds.length acc h → Z acc h) : (cpB C elt tg cond σ (.items ds) h).satX Z Ec := by
  have key : ∀ (ds' : List D) (k : Nat) (acc : List D) (h : DH), (∀ i d, ds'[i]? = some d → ds[k + i]? = some d) → k + ds'.length = ds.length → I k acc h → ((compI (cmpT (ev C elt).v (asT C tg) (tsO C cond) σ) ds' acc h).noexc).satX Z Ec := by
    intro ds'
    induction ds' with
    | nil => intro k acc h _ hk i; exact he acc h (by rw [← hk]; exact i)
    | cons d ds' ih =>
      intro k acc h hd hk i
      have hd' : ∀ i e, ds'[i]? = some e → ds[(k + 1) + i]? = some e := fun i e q => by rw [show k + 1 + i = k + (i + 1) by omega]; exact hd (i + 1) e (by simpa using q)
      have hk' : k + 1 + ds'.length = ds.length := by rw [← hk, List.length_cons]; omega
      have p := hs k d acc h (hd 0 d rfl) i
      unfold compI
      unfold cmpT
      cases e1 : asT C tg d σ h with
      | bad => rw [e1] at p; exact p.elim
      | exc _ _ _ => rw [e1] at p; exact p.elim
      | ok σ' h1 =>
        rw [e1] at p
        have p : (tsO C cond σ' h1).sat fun b h => if b then ((ev C elt).v σ' h).sat fun y h => acc.length < SL ∧ I (k + 1) (acc ++ [y]) h else I (k + 1) acc h := p
        rw [bind_ok]
        cases e2 : tsO C cond σ' h1 with
        | bad => rw [e2] at p; exact p.elim
        | exc _ _ _ => rw [e2] at p; exact p.elim
        | ok b h2 =>
          rw [e2] at p
          rw [bind_ok]
          cases b with
          | false => exact ih (k + 1) acc h2 hd' hk' p
          | true =>
            have p : ((ev C elt).v σ' h2).sat fun y h => acc.length < SL ∧ I (k + 1) (acc ++ [y]) h := p
            rw [if_pos rfl]
            cases e3 : (ev C elt).v σ' h2 with
            | bad => rw [e3] at p; exact p.elim
            | exc _ _ _ => rw [e3] at p; exact p.elim
            | ok y h3 =>
              rw [e3] at p
              have p : acc.length < SL ∧ I (k + 1) (acc ++ [y]) h3 := p
              rw [bind_ok, bind_ok]
              show ((if acc.length < SL then compI (cmpT (ev C elt).v (asT C tg) (tsO C cond) σ) ds' (acc ++ [y]) h3 else .bad).noexc).satX Z Ec
              rw [if_pos p.1]
              exact ih (k + 1) (acc ++ [y]) h3 hd' hk' p.2
  exact key ds 0 [] h (fun i d q => by rw [Nat.zero_add]; exact q) (Nat.zero_add _) h0
theorem rng_get : ∀ {n : Nat} {lo : Int} {i : Nat} {d : D}, (rngL lo n)[i]? = some d → i < n ∧ d = .int (lo + i)
  | 0, lo, i, d, e => by simp [rngL] at e
  | n + 1, lo, 0, d, e => by simp [rngL] at e; exact ⟨Nat.succ_pos _, by rw [← e]; simp⟩
  | n + 1, lo, i + 1, d, e => by
    simp only [rngL, List.getElem?_cons_succ] at e
    obtain ⟨h1, h2⟩ := rng_get e
    exact ⟨by omega, by rw [h2]; congr 1; omega⟩
theorem rng_len : ∀ {n : Nat} {lo : Int}, (rngL lo n).length = n
  | 0, _ => rfl
  | n + 1, lo => by simp [rngL, rng_len]
end
@[simp] theorem ite_sbind {α : Type} {c : Prop} [Decidable c] {a b : Out α} {σ : Fr} {f : α → DH → SO} : (if c then a else b).sbind σ f = if c then a.sbind σ f else b.sbind σ f := by split <;> rfl
@[simp] theorem ite_bind {α β : Type} {c : Prop} [Decidable c] {a b : Out α} {f : α → DH → Out β} : (if c then a else b).bind f = if c then a.bind f else b.bind f := by split <;> rfl
section
variable {h : DH} {i j : Int} {s t : List Nat} {n : Nat} {xs ys : List D} {b : Bool} {x : D} {o : O}
@[simp] theorem tru_bl : truD h (.bl b) = some b := (rfl)
theorem pow_int (q : 0 ≤ j ∧ j ≤ 1000000 ∧ i.natAbs < 18446744073709551616) : binD h .pow (.int i) (.int j) = .ok (.int (i ^ j.toNat)) h := if_pos q
@[simp] theorem tru_int : truD h (.int i) = some (i != 0) := (rfl)
@[simp] theorem add_int : binD h .add (.int i) (.int j) = .ok (.int (i + j)) h := (rfl)
@[simp] theorem sub_int : binD h .sub (.int i) (.int j) = .ok (.int (i - j)) h := (rfl)
@[simp] theorem augd_int : augD h .add (.int i) (.int j) = .ok (.int (i + j)) h := (rfl)
@[simp] theorem augs_int : augD h .sub (.int i) (.int j) = .ok (.int (i - j)) h := (rfl)
theorem add_tup (q : xs.length + ys.length ≤ SL) : binD h .add (.tup xs) (.tup ys) = .ok (.tup (xs ++ ys)) h := if_pos q
theorem mul_str (q : 0 ≤ j ∧ s.length * j.toNat ≤ SL ∧ j ≤ SL) : binD h .mul (.str s) (.int j) = .ok (.str (repS s j.toNat)) h := if_pos q
theorem add_lst {m : Nat} (e1 : lget h n = some xs) (e2 : lget h m = some ys) (q : xs.length + ys.length ≤ SL) : binD h .add (.ref n) (.ref m) = .ok (.ref h.length) (h ++ [.lst (xs ++ ys)]) := by
  show (match lget h n, lget h m with
    | some a, some b => if a.length + b.length ≤ SL then Out.ok (D.ref h.length) (h ++ [O.lst (a ++ b)]) else Out.bad
    | _, _ => Out.bad) = _
  rw [e1, e2]; exact if_pos q
@[simp] theorem bi_ord {c : Nat} : biD h .ord (.str [c]) = some (.int (c : Int)) := (rfl)
theorem bi_intS (q : s.length ≤ 4300) : biD h .int (.str s) = (intOf s).map .int := if_pos q
@[simp] theorem bi_intB : biD h .int (.bl b) = some (.int (if b then 1 else 0)) := (rfl)
theorem mul_int (q : (-big < i ∧ i < big) ∨ (-big < j ∧ j < big)) : binD h .mul (.int i) (.int j) = .ok (.int (i * j)) h := if_pos q
theorem mod_int (q : j ≠ 0) : binD h .mod (.int i) (.int j) = .ok (.int (i.fmod j)) h := if_pos q
theorem fdiv_int (q : j ≠ 0 ∧ j.natAbs < 1073741824) : binD h .fdiv (.int i) (.int j) = .ok (.int (i.fdiv j)) h := if_pos q
theorem add_str (q : s.length + t.length ≤ SL) : binD h .add (.str s) (.str t) = .ok (.str (s ++ t)) h := if_pos q
@[simp] theorem lt_int : cmpD h .lt (.int i) (.int j) = some (decide (i < j)) := (rfl)
@[simp] theorem le_int : cmpD h .le (.int i) (.int j) = some (decide (i ≤ j)) := (rfl)
@[simp] theorem gt_int : cmpD h .gt (.int i) (.int j) = some (decide (j < i)) := (rfl)
@[simp] theorem ge_int : cmpD h .ge (.int i) (.int j) = some (decide (j ≤ i)) := (rfl)
@[simp] theorem eq_int : cmpD h .eq (.int i) (.int j) = some (i == j) := (rfl)
@[simp] theorem ne_int : cmpD h .ne (.int i) (.int j) = some (!(i == j)) := (rfl)
@[simp] theorem eq_str : cmpD h .eq (.str s) (.str t) = some (s == t) := (rfl)
@[simp] theorem ne_str : cmpD h .ne (.str s) (.str t) = some (!(s == t)) := (rfl)
@[simp] theorem cmp_in {y : D} : cmpD h .in_ x y = inD h x y := (rfl)
@[simp] theorem cmp_nin {y : D} : cmpD h .nin x y = (inD h x y).map (!·) := (rfl)
@[simp] theorem lget_zero : lget (.lst xs :: h) 0 = some xs := (rfl)
@[simp] theorem lget_succ : lget (o :: h) (n + 1) = lget h n := (rfl)
@[simp] theorem lget_one : lget (o :: h) 1 = lget h 0 := (rfl)
@[simp] theorem ix_tup : ixD h (.tup xs) (.int i) = atI xs i := (rfl)
@[simp] theorem ix_fl : ixD h (.fl xs) (.int i) = atI xs i := (rfl)
@[simp] theorem ix_refI : ixD h (.ref n) (.int i) = match lget h n with | some xs => atI xs i | none => (dgetD h n (.int i)).join := by
  show (match lget h n, D.int i with | some xs, .int i => atI xs i | some _, _ => none | none, i => (dgetD h n i).join) = _
  cases lget h n <;> rfl
@[simp] theorem ix_refS : ixD h (.ref n) (.str s) = match lget h n with | some _ => none | none => (dgetD h n (.str s)).join := by
  show (match lget h n, D.str s with | some xs, .int i => atI xs i | some _, _ => none | none, i => (dgetD h n i).join) = _
  cases lget h n <;> rfl
theorem ix_ref {xs : List D} (e : lget h n = some xs) : ixD h (.ref n) (.int i) = atI xs i := by rw [ix_refI, e]
theorem ix_str (q : s.length ≤ SL) : ixD h (.str s) (.int i) = (atI s i).map fun c => .str [c] := if_pos q
theorem sli_str {lo hi : Option Int} (q : s.length ≤ SL) : sliD h (.str s) lo hi = .ok (.str (cut s lo hi)) h := if_pos q
@[simp] theorem bi_int : biD h .int (.int i) = some (.int i) := (rfl)
theorem bi_len (q : s.length ≤ SL) : biD h .len (.str s) = some (.int s.length) := if_pos q
@[simp] theorem bi_lenT : biD h .len (.tup xs) = some (.int xs.length) := (rfl)
@[simp] theorem bi_lenF : biD h .len (.fl xs) = some (.int xs.length) := (rfl)
@[simp] theorem bi_lenR : biD h .len (.ref n) = match lget h n with | some xs => some (.int xs.length) | none => none := (rfl)
@[simp] theorem bi_tupR : biD h .tuple (.ref n) = (lget h n).map .tup := (rfl)
@[simp] theorem bl_tup : blD .tuple xs = some (.tup xs) := (rfl)
@[simp] theorem bl_len : blD .len xs = some (.int xs.length) := (rfl)
end
theorem atI_nat {α : Type} {xs : List α} {n : Nat} : atI xs (n : Int) = xs[n]? := by
  unfold atI ixN
  by_cases h : n < xs.length
  · simp [h]
  · simp [h]
@[simp] theorem atI_zero {α : Type} {x : α} {xs : List α} : atI (x :: xs) 0 = some x := by simp [atI, ixN]
theorem atI_one {α : Type} {x y : α} {xs : List α} : atI (x :: y :: xs) 1 = some y := atI_nat (n := 1)
theorem atI_in {α : Type} {xs : List α} {i : Int} (h0 : 0 ≤ i) (h1 : i < xs.length) : ∃ x, atI xs i = some x ∧ x ∈ xs := by
  obtain ⟨n, rfl⟩ := Int.eq_ofNat_of_zero_le h0
  rw [atI_nat]
  have hn : n < xs.length := by omega
  exact ⟨xs[n], List.getElem?_eq_getElem hn, List.getElem_mem hn⟩
@[simp] theorem ixN_zero {n : Nat} : ixN (n + 1) 0 = some 0 := by simp [ixN]
theorem ixN_nat {n i : Nat} (h : i < n) : ixN n (i : Int) = some i := by simp [ixN, h]
theorem of_sat {α : Type} {o : Out α} {a : α} {h : DH} (p : o.sat fun r h' => r = a ∧ h' = h) : o = .ok a h := by
  cases o with
  | ok b h' => obtain ⟨rfl, rfl⟩ := p; rfl
  | exc _ _ _ => exact p.elim
  | bad => exact p.elim
@[simp] theorem mlk_join {s : List Nat} : mlK .join (.str s) = true := (rfl)
@[simp] theorem mtk_join {s : List Nat} {h : DH} : mtK h .join (.str s) = true := (rfl)
@[simp] theorem mtk_find2 {s : List Nat} {h : DH} : mtK h .find2 (.str s) = true := (rfl)
@[simp] theorem mtk_find3 {s : List Nat} {h : DH} : mtK h .find3 (.str s) = true := (rfl)
@[simp] theorem src_tup {xs : List D} {h : DH} : srcD h (.tup xs) = some (.items xs) := (rfl)
/-- a comprehension that leaves the heap as it is -/
theorem cpB_map {C : Cn} {elt : E} {tg : T} {σ : Fr} {h : DH} {ds : List D} (g : D → D) (hl : ds.length ≤ SL) (hs : ∀ d ∈ ds, ∃ σ', asT C tg d σ h = .ok σ' h ∧ (ev C elt).v σ' h = .ok (g d) h) : cpB C elt tg .none σ (.items ds) h = .ok (ds.map g) h := by
  have key : ∀ (ds acc : List D), (∀ d ∈ ds, ∃ σ', asT C tg d σ h = .ok σ' h ∧ (ev C elt).v σ' h = .ok (g d) h) → acc.length + ds.length ≤ SL → compI (cmpT (ev C elt).v (asT C tg) (tsO C .none) σ) ds acc h = .ok (acc ++ ds.map g) h := by
    intro ds
    induction ds with
    | nil => intro acc _ _; simp [compI]
    | cons d ds ih =>
      intro acc hs hl
      obtain ⟨σ', h1, h2⟩ := hs d List.mem_cons_self
      rw [List.length_cons] at hl
      unfold compI cmpT
      rw [h1, bind_ok, c_none, bind_ok, if_pos rfl, h2, bind_ok, bind_ok]
      show (if acc.length < SL then compI (cmpT (ev C elt).v (asT C tg) (tsO C .none) σ) ds (acc ++ [g d]) h else .bad) = _
      rw [if_pos (by omega), ih (acc ++ [g d]) (fun e he => hs e (List.mem_cons_of_mem _ he)) (by rw [List.length_append, List.length_singleton]; omega)]
      simp
  have := key ds [] hs (by simpa using hl)
  show (compI _ ds [] h).noexc = _
  rw [this]
  rfl
@[simp] theorem sli_tup {xs : List D} {h : DH} {lo hi : Option Int} : sliD h (.tup xs) lo hi = .ok (.tup (cut xs lo hi)) h := (rfl)
theorem sli_ref {xs : List D} {h : DH} {n : Nat} {lo hi : Option Int} (e : h[n]? = some (.lst xs)) : sliD h (.ref n) lo hi = .ok (.ref h.length) (h ++ [.lst (cut xs lo hi)]) := by
  show (match h[n]? with | some (.lst xs) => Out.ok (D.ref h.length) (h ++ [O.lst (cut xs lo hi)]) | _ => Out.bad) = _
  rw [e]
@[simp] theorem src_str {s : List Nat} {h : DH} : srcD h (.str s) = some (.items (s.map fun c => .str [c])) := (rfl)
@[simp] theorem src_ref {n : Nat} {h : DH} : srcD h (.ref n) = (lget h n).map fun _ => .dyn (.lst n) := (rfl)
@[simp] theorem enum_ref {n : Nat} {h : DH} : enumD h (.ref n) = (lget h n).map fun _ => .dyn (.enum n) := (rfl)
@[simp] theorem zip_tup {xs ys : List D} {h : DH} : zipD h (.tup xs) (.tup ys) = some (.items (List.zipWith (fun x y => .tup [x, y]) xs ys)) := (rfl)
theorem zip_ref {n m : Nat} {h : DH} {xs ys : List D} (e1 : lget h n = some xs) (e2 : lget h m = some ys) : zipD h (.ref n) (.ref m) = some (.dyn (.zip n m)) := by
  show (match lget h n, lget h m with | some _, some _ => some (Src.dyn (.zip n m)) | _, _ => none) = _
  rw [e1, e2]
@[simp] theorem mtk_split {s : List Nat} {h : DH} : mtK h .split (.str s) = true := (rfl)
@[simp] theorem mtk_splitN {s : List Nat} {h : DH} : mtK h .splitN (.str s) = true := (rfl)
@[simp] theorem mtk_part {s : List Nat} {h : DH} : mtK h .part (.str s) = true := (rfl)
theorem mt_spl {s : List Nat} {c : Nat} {h : DH} (q : s.length + 2 ≤ SL ∧ c < 256) : mtD h .split (.str s) [.str [c]] = .ok (.ref h.length) (h ++ [.lst ((splitC c s).map .str)]) := if_pos q
theorem mt_splN {s : List Nat} {c : Nat} {i : Int} {h : DH} (q : s.length + 2 ≤ SL ∧ 0 ≤ i ∧ i < SL ∧ c < 256) : mtD h .splitN (.str s) [.str [c], .int i] = .ok (.ref h.length) (h ++ [.lst ((splitCN c i.toNat s).map .str)]) := if_pos q
theorem mt_par {s : List Nat} {c : Nat} {h : DH} (q : s.length ≤ SL) : mtD h .part (.str s) [.str [c]] = .ok (.tup [.str (partC c s).1, .str (partC c s).2.1, .str (partC c s).2.2]) h := if_pos q
theorem rev_str {s : List Nat} (q : s.length ≤ SL) : revD (.str s) = some (.str s.reverse) := if_pos q
theorem ord_str {s : List Nat} {h : DH} (q : s.length ≤ SL) : ordD h (.str s) = .ok (.ref h.length) (h ++ [.lst (s.map fun c => .int ((c : Nat) : Int))]) := if_pos q
theorem intsOf_map : ∀ ns : List Int, intsOf (ns.map .int) = some ns
  | [] => rfl
  | n :: ns => by show (intsOf (ns.map .int)).map (n :: ·) = _; rw [intsOf_map ns]; rfl
theorem fmt_str {acc s : List Nat} (q : acc.length + s.length ≤ SL) : fmt1 acc (.str s) = some (acc ++ s) := if_pos q
theorem fmt_int {acc : List Nat} {i : Int} (q : i.natAbs.log2 < 1920 ∧ acc.length + (strOf i).length ≤ SL) : fmt1 acc (.int i) = some (acc ++ strOf i) := if_pos q
/-! ### walks over lists of the heap -/
section
variable {N B Ct : Fr → DH → Prop} {R : D → DH → Prop} {Ec : Ex} {σ : Fr} {h : DH}
theorem frB_dyn {C : Cn} {t : T} {b : Ss} {dy : Dy} (ds : List D) (I : Nat → Fr → DH → Prop) (hf : ds.length < C.fuel) (hd : ∀ i σ h, i ≤ ds.length → I i σ h → dyget h i dy = some ds[i]?) (h0 : I 0 σ h) (hs : ∀ i d σ h, ds[i]? = some d → I i σ h → ((asT C t d σ h).sbind σ fun σ h => evSs C b σ h).satX (I (i + 1)) R N (I (i + 1)) Ec) (he : ∀ σ h, I ds.length σ h → N σ h) : (frB C t b (.dyn dy) σ h).satX N R B Ct Ec := by
  have key : ∀ (fu i : Nat) (σ : Fr) (h : DH), i ≤ ds.length → ds.length < fu + i → I i σ h → (frN (fun d σ h => (asT C t d σ h).sbind σ fun σ h => evSs C b σ h) dy fu i σ h).satX N R B Ct Ec := by
    intro fu
    induction fu with
    | zero => intro i σ h h1 h2; omega
    | succ fu ih =>
      intro i σ h h1 h2 hi
      unfold frN
      rw [hd i σ h h1 hi]
      cases e : ds[i]? with
      | none =>
        have : i = ds.length := by
          rcases Nat.lt_or_ge i ds.length with z | z
          · rw [List.getElem?_eq_getElem z] at e; cases e
          · omega
        subst this
        exact he _ _ hi
      | some d =>
        have hl : i < ds.length := (List.getElem?_eq_some_iff.mp e).1
        have p := hs i d σ h e hi
        show (((asT C t d σ h).sbind σ fun σ h => evSs C b σ h).loop (frN (fun d σ h => (asT C t d σ h).sbind σ fun σ h => evSs C b σ h) dy fu (i + 1))).satX N R B Ct Ec
        cases e2 : (asT C t d σ h).sbind σ fun σ h => evSs C b σ h <;> rw [e2] at p <;> first | exact ih (i + 1) _ _ (by omega) (by omega) p | exact p
  exact key C.fuel 0 σ h (by omega) (by omega) h0
/-- a comprehension over a list of the heap that leaves the heap as it is -/
theorem cpB_dynmap {C : Cn} {elt : E} {tg : T} {σ : Fr} {h : DH} {dy : Dy} {ds : List D} (g : D → D) (hf : ds.length < C.fuel) (hl : ds.length ≤ SL) (hd : ∀ i, i ≤ ds.length → dyget h i dy = some ds[i]?) (hs : ∀ d ∈ ds, ∃ σ', asT C tg d σ h = .ok σ' h ∧ (ev C elt).v σ' h = .ok (g d) h) : cpB C elt tg .none σ (.dyn dy) h = .ok (ds.map g) h := by
  have key : ∀ (fu i : Nat) (acc : List D), i ≤ ds.length → ds.length < fu + i → acc.length = i → compN (cmpT (ev C elt).v (asT C tg) (tsO C .none) σ) dy fu i acc h = .ok (acc ++ (ds.drop i).map g) h := by
    intro fu
    induction fu with
    | zero => intro i acc h1 h2; omega
    | succ fu ih =>
      intro i acc h1 h2 ha
      unfold compN
      rw [hd i h1]
      cases e : ds[i]? with
      | none =>
        have : ds.length ≤ i := by
          rcases Nat.lt_or_ge i ds.length with z | z
          · rw [List.getElem?_eq_getElem z] at e; cases e
          · omega
        simp [List.drop_eq_nil_of_le this]
      | some d =>
        obtain ⟨hlt, ed⟩ := List.getElem?_eq_some_iff.mp e
        obtain ⟨σ', q1, q2⟩ := hs d (by rw [← ed]; exact List.getElem_mem hlt)
        dsimp only
        unfold cmpT
        rw [q1, bind_ok, c_none, bind_ok, if_pos rfl, q2, bind_ok, bind_ok]
        show (if acc.length < SL then compN (cmpT (ev C elt).v (asT C tg) (tsO C .none) σ) dy fu (i + 1) (acc ++ [g d]) h else .bad) = _
        rw [if_pos (by omega), ih (i + 1) (acc ++ [g d]) (by omega) (by omega) (by simp [ha])]
        rw [List.drop_eq_getElem_cons hlt]
        simp [ed]
  have := key C.fuel 0 [] (by omega) (by omega) rfl
  show (compN _ dy C.fuel 0 [] h).noexc = _
  rw [this]
  rfl
end
/-- a walk over items that are written out -/
@[simp] theorem frB_nil {C : Cn} {t : T} {b : Ss} {σ : Fr} {h : DH} : frB C t b (.items []) σ h = .nx σ h := (rfl)
theorem frB_cons {C : Cn} {t : T} {b : Ss} {d : D} {ds : List D} {σ : Fr} {h : DH} : frB C t b (.items (d :: ds)) σ h = ((asT C t d σ h).sbind σ fun σ h => evSs C b σ h).loop (frB C t b (.items ds)) := (rfl)
theorem boolsOf_map {α : Type} (f : α → Bool) : ∀ xs : List α, boolsOf (xs.map fun x => .bl (f x)) = some (xs.map f)
  | [] => rfl
  | x :: xs => by show (boolsOf (xs.map fun x => .bl (f x))).map (f x :: ·) = _; rw [boolsOf_map f xs]; rfl
theorem bl_all {α : Type} (f : α → Bool) (xs : List α) : blD .all (xs.map fun x => .bl (f x)) = some (.bl (xs.all f)) := by
  show (boolsOf _).map _ = _
  rw [boolsOf_map]
  show some (D.bl ((xs.map f).all id)) = _
  rw [List.all_map]
  rfl
end FD

set_option autoImplicit false
set_option linter.all false
/-! Plain: decimal texts. -/
namespace FD
def digs (n : Nat) : List Nat := (Nat.toDigits 10 n).map Char.toNat
theorem dch {d : Nat} (h : d < 10) : (Nat.digitChar d).toNat = 48 + d := by
  match d, h with
  | 0, _ => rfl | 1, _ => rfl | 2, _ => rfl | 3, _ => rfl | 4, _ => rfl | 5, _ => rfl | 6, _ => rfl | 7, _ => rfl | 8, _ => rfl | 9, _ => rfl
  | n + 10, h => omega
theorem digs_lt {n : Nat} (h : n < 10) : digs n = [48 + n] := by
  unfold digs
  rw [Nat.toDigits_of_lt_base h]
  simp [dch h]
theorem digs_ge {n : Nat} (h : 10 ≤ n) : digs n = digs (n / 10) ++ [48 + n % 10] := by
  unfold digs
  rw [Nat.toDigits_of_base_le (by decide) h]
  simp [dch (Nat.mod_lt n (by decide : 0 < 10))]
theorem digs_all : ∀ (n : Nat), ∀ c ∈ digs n, 48 ≤ c ∧ c ≤ 57 := by
  intro n
  induction n using Nat.strongRecOn with
  | _ n ih =>
    intro c hc
    by_cases h : n < 10
    · rw [digs_lt h] at hc
      rw [List.mem_singleton.mp hc]; omega
    · rw [digs_ge (by omega)] at hc
      rcases List.mem_append.mp hc with hc | hc
      · exact ih (n / 10) (by omega) c hc
      · rw [List.mem_singleton.mp hc]; omega
theorem digs_head : ∀ (n : Nat), ∃ c r, digs n = c :: r ∧ (c = 48 ↔ n = 0) := by
  intro n
  induction n using Nat.strongRecOn with
  | _ n ih =>
    by_cases h : n < 10
    · exact ⟨48 + n, [], digs_lt h, by omega⟩
    · obtain ⟨c, r, e, q⟩ := ih (n / 10) (by omega)
      refine ⟨c, r ++ [48 + n % 10], by rw [digs_ge (by omega), e]; rfl, ?_⟩
      rw [q]; omega
theorem natOf_app : ∀ (xs ys : List Nat) (a : Nat), natOf a (xs ++ ys) = (natOf a xs).bind fun b => natOf b ys
  | [], ys, a => rfl
  | x :: xs, ys, a => by
    simp only [List.cons_append, natOf]
    cases digit? x with
    | none => rfl
    | some k => exact natOf_app xs ys _
theorem digit_add {d : Nat} (h : d < 10) : digit? (48 + d) = some d := by
  unfold digit?
  rw [if_pos (by omega)]
  congr 1; omega
theorem natOf_digs : ∀ n : Nat, natOf 0 (digs n) = some n := by
  intro n
  induction n using Nat.strongRecOn with
  | _ n ih =>
    by_cases h : n < 10
    · rw [digs_lt h]; simp [natOf, digit_add h]
    · rw [digs_ge (by omega), natOf_app, ih (n / 10) (by omega)]
      have : n % 10 < 10 := by omega
      simp [natOf, digit_add this]
      omega
theorem digs_len {n k : Nat} (hk : 0 < k) (h : n < 10 ^ k) : (digs n).length ≤ k := by
  unfold digs
  rw [List.length_map]
  exact (Nat.length_toDigits_le_iff (by decide) hk).mpr h
theorem strOf_nat (n : Nat) : strOf (n : Int) = digs n := by
  unfold strOf digs
  show (Nat.repr n).toList.map Char.toNat = _
  rw [Nat.repr_eq_ofList_toDigits, String.toList_ofList]
theorem strOf_neg (n : Nat) : strOf (Int.negSucc n) = 45 :: digs (n + 1) := by
  unfold strOf digs
  show (("-" : String) ++ Nat.repr (n + 1)).toList.map Char.toNat = _
  rw [String.toList_append, Nat.repr_eq_ofList_toDigits, List.map_append, String.toList_ofList, String.toList_ofList]
  rfl
theorem intOf_str (i : Int) : intOf (strOf i) = some i := by
  cases i with
  | ofNat n =>
    show intOf (strOf (n : Int)) = some (n : Int)
    rw [strOf_nat]
    obtain ⟨c, r, e, q⟩ := digs_head n
    have hc := digs_all n c (by rw [e]; exact List.mem_cons_self)
    have : intOf (c :: r) = (natOf 0 (c :: r)).map fun (n : Nat) => (n : Int) := by
      unfold intOf
      split
      · rename_i z; cases z
      · rename_i z; cases z; omega
      · rfl
    rw [e, this, ← e, natOf_digs]
    rfl
  | negSucc n =>
    rw [strOf_neg]
    obtain ⟨c, r, e, q⟩ := digs_head (n + 1)
    show (if digs (n + 1) = [] then none else (natOf 0 (digs (n + 1))).map fun (n : Nat) => -(n : Int)) = _
    rw [if_neg (by rw [e]; simp), natOf_digs]
    rfl
end FD

set_option linter.all false
set_option maxRecDepth 10000
/-! Texts, lists in the heap: what the plain laws share. -/
namespace FD
theorem fmod_rng {a m : Int} (hm : 0 < m) : 0 ≤ a.fmod m ∧ a.fmod m < m := ⟨Int.fmod_nonneg_of_pos _ hm, Int.fmod_lt_of_pos _ hm⟩
theorem big1 {i j : Int} (h : -big < j ∧ j < big) {q : DH} : binD q .mul (.int i) (.int j) = .ok (.int (i * j)) q := mul_int (.inr h)
theorem big2 {i j : Int} (h : -big < i ∧ i < big) {q : DH} : binD q .mul (.int i) (.int j) = .ok (.int (i * j)) q := mul_int (.inl h)
theorem pow18 {h : DH} : binD h .pow (.int 10) (.int 18) = .ok (.int 1000000000000000000) h := pow_int (by decide)
def esc1 (c : Nat) : List Nat := if c = 92 then [92, 92] else if c = 34 then [92, 34] else if c = 10 then [92, 110] else [c]
def esc (s : List Nat) : List Nat := s.flatMap esc1
theorem esc_rep : ∀ s : List Nat, rep1 10 [92, 110] (rep1 34 [92, 34] (rep1 92 [92, 92] s)) = esc s
  | [] => rfl
  | c :: s => by
    have ih := esc_rep s
    unfold rep1 esc at ih ⊢
    simp only [List.flatMap_cons, List.flatMap_append]
    rw [ih]
    congr 1
    unfold esc1
    by_cases h1 : c = 92
    · subst h1; rfl
    · by_cases h2 : c = 34
      · subst h2; rfl
      · by_cases h3 : c = 10
        · subst h3; rfl
        · simp [h1, h2, h3]
theorem rep1_len (c : Nat) (z s : List Nat) (hz : z.length = 2) : (rep1 c z s).length ≤ 2 * s.length := by
  induction s with
  | nil => simp [rep1]
  | cons x s ih =>
    unfold rep1 at ih ⊢
    rw [List.flatMap_cons, List.length_append, List.length_cons]
    have : (if x = c then z else [x]).length ≤ 2 := by split <;> simp [hz]
    omega
theorem join_len : ∀ ss : List (List Nat), (joinS [32] ss).length + (if ss = [] then 0 else 1) = (ss.map (·.length)).sum + ss.length
  | [] => rfl
  | [x] => by simp [joinS]
  | x :: y :: r => by
    have ih := join_len (y :: r)
    simp [joinS] at ih ⊢
    omega
theorem mem_join {ss : List (List Nat)} {s : List Nat} (h : s ∈ ss) : s.length ≤ (joinS [32] ss).length := by
  induction ss with
  | nil => cases h
  | cons x r ih =>
    cases r with
    | nil => rw [List.mem_singleton.mp h]; exact Nat.le_refl _
    | cons y r =>
      show s.length ≤ (x ++ [32] ++ joinS [32] (y :: r)).length
      rw [List.length_append, List.length_append]
      rcases List.mem_cons.mp h with rfl | h
      · omega
      · have := ih h; omega
theorem strsOf_map : ∀ ss : List (List Nat), strsOf (ss.map .str) = some ss
  | [] => rfl
  | s :: ss => by simp [strsOf, strsOf_map ss]
theorem take_get {xs : List D} {i : Nat} {d : D} (h : xs[i]? = some d) : xs.take (i + 1) = xs.take i ++ [d] := by
  rw [List.take_succ, h]; rfl
theorem sIx_nat {n d a : Nat} : sIx n d (some (a : Int)) = min a n := by
  simp only [sIx]
  rw [if_neg (by omega)]
  simp
theorem cut_at {t rest : List Nat} {p n : Nat} (h : t.drop p = rest) : cut t (some (p : Int)) (some ((p : Int) + (n : Int))) = rest.take n := by
  have e : (p : Int) + (n : Int) = ((p + n : Nat) : Int) := by omega
  unfold cut
  rw [e, sIx_nat, sIx_nat, ← h]
  by_cases hp : p ≤ t.length
  · rw [Nat.min_eq_left hp]
    by_cases hq : p + n ≤ t.length
    · rw [Nat.min_eq_left hq, show p + n - p = n by omega]
    · rw [Nat.min_eq_right (by omega)]
      rw [List.take_of_length_le (by simp), List.take_of_length_le (by simp; omega)]
  · rw [List.drop_eq_nil_of_le (by omega), List.drop_eq_nil_of_le (by omega)]
    simp
theorem cut_one {t rest : List Nat} {p : Nat} (h : t.drop p = rest) : cut t (some (p : Int)) (some ((p : Int) + 1)) = rest.take 1 := cut_at (n := 1) h
theorem drop_more {t a b : List Nat} {p : Nat} (h : t.drop p = a ++ b) : t.drop (p + a.length) = b := by
  rw [← List.drop_drop, h]; simp
def figs : List Nat := [48, 49, 50, 51, 52, 53, 54, 55, 56, 57]
theorem figs_mem {c : Nat} (h : 48 ≤ c ∧ c ≤ 57) : figs.contains c = true := by
  have : c = 48 ∨ c = 49 ∨ c = 50 ∨ c = 51 ∨ c = 52 ∨ c = 53 ∨ c = 54 ∨ c = 55 ∨ c = 56 ∨ c = 57 := by omega
  rcases this with rfl | rfl | rfl | rfl | rfl | rfl | rfl | rfl | rfl | rfl <;> rfl
theorem figs_not {c : Nat} (h : c < 48) : figs.contains c = false := by
  have : ∀ d ∈ figs, d ≠ c := by
    intro d hd
    have : 48 ≤ d := by
      simp [figs] at hd
      omega
    omega
  simp only [List.contains_eq_mem, decide_eq_false_iff_not]
  exact fun hm => this c hm rfl
theorem fndL_hit {c : Nat} {r : List Nat} : ∀ {a : List Nat} {k : Nat}, c ∉ a → fndL c (a ++ c :: r) k = some (k + a.length)
  | [], k, _ => by simp [fndL]
  | x :: a, k, h => by
    have hx : x ≠ c := fun e => h (by simp [e])
    have := fndL_hit (a := a) (k := k + 1) (r := r) fun m => h (List.mem_cons_of_mem _ m)
    simp only [List.cons_append, fndL, if_neg hx, this, List.length_cons]
    congr 1; omega
theorem fndL_miss {c : Nat} : ∀ {a : List Nat} {k : Nat}, c ∉ a → fndL c a k = none
  | [], k, _ => rfl
  | x :: a, k, h => by
    have hx : x ≠ c := fun e => h (by simp [e])
    simp only [fndL, if_neg hx]
    exact fndL_miss fun m => h (List.mem_cons_of_mem _ m)
theorem fndL_skip {c : Nat} {r : List Nat} : ∀ {a : List Nat} {k : Nat}, c ∉ a → fndL c (a ++ r) k = fndL c r (k + a.length)
  | [], k, _ => by simp
  | x :: a, k, h => by
    have hx : x ≠ c := fun e => h (by simp [e])
    simp only [List.cons_append, fndL, if_neg hx]
    rw [fndL_skip fun m => h (List.mem_cons_of_mem _ m)]
    congr 1; simp; omega
theorem fndL_somq {c : Nat} : ∀ {a : List Nat} {k : Nat}, c ∈ a → ∃ j, fndL c a k = some j ∧ k ≤ j ∧ j < k + a.length
  | x :: a, k, h => by
    by_cases hx : x = c
    · exact ⟨k, by simp [fndL, hx], Nat.le_refl _, by simp⟩
    · obtain ⟨j, h1, h2, h3⟩ := fndL_somq (a := a) (k := k + 1) (by
        rcases List.mem_cons.mp h with e | e
        · exact absurd e.symm hx
        · exact e)
      exact ⟨j, by simp only [fndL, if_neg hx, h1], by omega, by simp; omega⟩
theorem find2 {h : DH} {t : List Nat} {c q : Nat} : mtD h .find2 (.str t) [.str [c], .int (q : Int)] = .ok (.int (fnd t c q t.length)) h := by
  show Out.ok (D.int (fnd t c (fromIx t.length (q : Int)) t.length)) h = _
  have : fromIx t.length (q : Int) = q := by unfold fromIx; rw [if_neg (by omega)]; omega
  rw [this]
theorem find3 {h : DH} {t : List Nat} {c q j : Nat} : mtD h .find3 (.str t) [.str [c], .int (q : Int), .int (j : Int)] = .ok (.int (fnd t c q (min j t.length))) h := by
  show (if (0 : Int) ≤ (j : Int) then Out.ok (D.int (fnd t c (fromIx t.length (q : Int)) (min (j : Int).toNat t.length))) h else .bad) = _
  have : fromIx t.length (q : Int) = q := by unfold fromIx; rw [if_neg (by omega)]; omega
  rw [this, if_pos (by omega), Int.toNat_natCast]
theorem take_drop {t a b : List Nat} {q : Nat} (h : t.drop q = a ++ b) : (t.take (min (q + a.length) t.length)).drop q = a := by
  rw [List.drop_take, h]
  have : t.length - q = a.length + b.length := by rw [← List.length_drop, h, List.length_append]
  rw [show min (q + a.length) t.length - q = a.length by omega]
  simp
def fI : Option Nat → Int
  | some k => k
  | none => -1
theorem fnd_all {t a : List Nat} {c q : Nat} (h : t.drop q = a) : fnd t c q t.length = fI (fndL c a q) := by
  unfold fnd
  rw [List.take_length, h]
  cases fndL c a q <;> rfl
theorem fnd_to {t a b : List Nat} {c q j : Nat} (h : t.drop q = a ++ b) (hj : j = q + a.length) : fnd t c q (min j t.length) = fI (fndL c a q) := by
  subst hj
  unfold fnd
  rw [take_drop h]
  cases fndL c a q <;> rfl
theorem join_nil : ∀ ps : List (List Nat), joinS [] ps = ps.flatten
  | [] => rfl
  | [x] => by simp [joinS]
  | x :: y :: r => by
    have := join_nil (y :: r)
    simp [joinS] at this ⊢
    exact this
theorem get_mid {h g : DH} {o : O} : (h ++ o :: g)[h.length]? = some o := by simp
theorem lget_mid {h g : DH} {xs : List D} : lget (h ++ .lst xs :: g) h.length = some xs := by unfold lget; rw [get_mid]
theorem set_mid {h g : DH} {o o' : O} : (h ++ o :: g).set h.length o' = h ++ o' :: g := by simp
theorem app_mid {h g : DH} {xs : List D} {y : D} (hl : xs.length < SL) : mtD (h ++ .lst xs :: g) .append (.ref h.length) [y] = .ok .non (h ++ .lst (xs ++ [y]) :: g) := by
  show appD (h ++ .lst xs :: g) (.ref h.length) [y] = _
  unfold appD
  dsimp only
  rw [get_mid]
  dsimp only
  rw [if_pos hl, set_mid]
theorem mtk_mid {h g : DH} {xs : List D} : mtK (h ++ .lst xs :: g) .append (.ref h.length) = true := by
  show (lget (h ++ .lst xs :: g) h.length).isSome = true
  rw [lget_mid]; rfl
theorem joi_mid {h g : DH} {ps : List (List Nat)} (hl : ps.flatten.length ≤ SL) : mtD (h ++ .lst (ps.map .str) :: g) .join (.str []) [.ref h.length] = .ok (.str ps.flatten) (h ++ .lst (ps.map .str) :: g) := by
  show joiD (h ++ .lst (ps.map .str) :: g) (.str []) [.ref h.length] = _
  unfold joiD
  dsimp only
  rw [get_mid]
  dsimp only
  have : mlD .join (.str []) (ps.map .str) = some (.str ps.flatten) := by
    show (match strsOf (ps.map .str) with
      | some ys => if (ys.map (fun y : List Nat => y.length)).sum + ys.length * ([] : List Nat).length ≤ SL then some (D.str (joinS [] ys)) else none
      | none => none) = _
    rw [strsOf_map]
    dsimp only
    rw [join_nil, if_pos]
    rw [List.length_flatten] at hl
    simpa using hl
  rw [this]
  rfl
theorem sat_ex {α : Type} {o : Out α} {Z : α → DH → Prop} (p : o.sat Z) : ∃ a h', o = .ok a h' ∧ Z a h' := by
  cases o with
  | ok a h' => exact ⟨a, h', rfl, p⟩
  | exc _ _ _ => exact p.elim
  | bad => exact p.elim
theorem str_head (i : Int) : ∃ c r, strOf i = c :: r ∧ (c = 45 ∨ (48 ≤ c ∧ c ≤ 57)) := by
  cases i with
  | ofNat n =>
    obtain ⟨c, r, e, _⟩ := digs_head n
    exact ⟨c, r, (strOf_nat n).trans e, .inr (digs_all n c (by rw [e]; exact List.mem_cons_self))⟩
  | negSucc n => exact ⟨45, _, strOf_neg n, .inl rfl⟩
theorem strOf_len {i : Int} (h : i.natAbs < 10 ^ 22) : (strOf i).length ≤ 23 := by
  cases i with
  | ofNat n => rw [show strOf (Int.ofNat n) = digs n from strOf_nat n]; have := digs_len (n := n) (k := 22) (by decide) (by simpa using h); omega
  | negSucc n => rw [strOf_neg]; have := digs_len (n := n + 1) (k := 22) (by decide) (by simpa using h); simp; omega
theorem join_le {L : Nat} : ∀ ss : List (List Nat), (∀ s ∈ ss, s.length ≤ L) → (joinS [32] ss).length ≤ ss.length * (L + 1)
  | [], _ => by simp [joinS]
  | [x], h => by have := h x List.mem_cons_self; simp [joinS]; omega
  | x :: y :: r, h => by
    have ih := join_le (y :: r) fun s hs => h s (List.mem_cons_of_mem _ hs)
    have := h x List.mem_cons_self
    rw [List.length_cons, Nat.add_mul]
    simp [joinS] at ih ⊢
    omega
theorem flat1 : ∀ s : List Nat, (s.map fun c => [c]).flatten = s
  | [] => rfl
  | x :: r => by have := flat1 r; simp at this ⊢; exact this
theorem sl4 : 4 ≤ SL := by decide
theorem sl3 : 3 ≤ SL := by decide
end FD

set_option linter.all false
set_option maxRecDepth 10000
/-! What all laws draw with: cells, digits, draws. -/
namespace FD
def cellBd : Ss := Ss.cons (S.ite (E.cmp (COp.lt) (E.sl 1) (E.bi (Bi.len) (E.sl 0))) (Ss.cons (S.ret (E.ix (E.sl 0) (E.sl 1))) (Ss.nil)) (Ss.nil)) (Ss.cons (S.ret (E.c (D.int 0))) (Ss.nil))
def drawB : Ss := Ss.cons (S.asg (T.sl 2) (E.ix (E.sl 0) (E.c (D.int 1)))) (Ss.cons (S.asg (T.sub (E.sl 0) (E.c (D.int 1))) (E.bin (BOp.add) (E.sl 2) (E.c (D.int 1)))) (Ss.cons (S.ite (E.cmp (COp.lt) (E.sl 2) (E.bi (Bi.len) (E.ix (E.sl 0) (E.c (D.int 0))))) (Ss.cons (S.ret (E.bin (BOp.mod) (E.bi (Bi.int) (E.ix (E.ix (E.sl 0) (E.c (D.int 0))) (E.sl 2))) (E.sl 1))) (Ss.nil)) (Ss.nil)) (Ss.cons (S.ret (E.bin (BOp.mod) (E.bi (Bi.int) (E.bin (BOp.mul) (E.sl 2) (E.c (D.int 7)))) (E.sl 1))) (Ss.nil))))
def digitsB (c : Nat) : Ss := Ss.cons (S.asg (T.sl 3) (E.ofL (L.disp (Es.nil)))) (Ss.cons (S.fr (T.sl 4) (It.r2 (E.sl 1) (E.sl 2)) (Ss.cons (S.ite (E.cmp (COp.gt) (E.bi (Bi.len) (E.sl 3)) (E.c (D.int 1500))) (Ss.cons (S.brk) (Ss.nil)) (Ss.nil)) (Ss.cons (S.asg (T.sl 5) (E.call c (Es.cons (E.sl 0) (Es.cons (E.sl 4) (Es.nil))))) (Ss.cons (S.ite (E.cmp (COp.lt) (E.sl 5) (E.c (D.int 0))) (Ss.cons (S.asg (T.sl 5) (E.bin (BOp.sub) (E.c (D.int 1)) (E.bin (BOp.mul) (E.c (D.int 2)) (E.sl 5)))) (Ss.nil)) (Ss.nil)) (Ss.cons (S.ite (E.cmp (COp.ge) (E.sl 5) (E.bin (BOp.pow) (E.c (D.int 10)) (E.c (D.int 18)))) (Ss.cons (S.fr (T.sl 6) (It.r1 (E.c (D.int 60))) (Ss.cons (S.ite (E.cmp (COp.gt) (E.sl 5) (E.c (D.int 0))) (Ss.cons (S.ex (E.mt (Mt.append) (E.sl 3) (Es.cons (E.bin (BOp.mod) (E.bi (Bi.int) (E.sl 5)) (E.c (D.int 1000))) (Es.nil)))) (Ss.cons (S.asg (T.sl 5) (E.bin (BOp.fdiv) (E.sl 5) (E.c (D.int 1000)))) (Ss.nil))) (Ss.nil)) (Ss.nil))) (Ss.nil)) (Ss.cons (S.asg (T.sl 7) (E.bin (BOp.mod) (E.bi (Bi.int) (E.bin (BOp.add) (E.bin (BOp.add) (E.bin (BOp.mul) (E.sl 5) (E.c (D.int 48271))) (E.bin (BOp.mul) (E.sl 4) (E.c (D.int 69621)))) (E.c (D.int 11)))) (E.c (D.int 2147483647)))) (Ss.cons (S.fr (T.sl 6) (It.r1 (E.c (D.int 12))) (Ss.cons (S.asg (T.sl 7) (E.bin (BOp.mod) (E.bi (Bi.int) (E.bin (BOp.add) (E.bin (BOp.add) (E.bin (BOp.mul) (E.sl 7) (E.c (D.int 16807))) (E.bin (BOp.mul) (E.c (D.int 7)) (E.sl 6))) (E.c (D.int 1)))) (E.c (D.int 2147483647)))) (Ss.cons (S.ex (E.mt (Mt.append) (E.sl 3) (Es.cons (E.bin (BOp.mod) (E.bi (Bi.int) (E.bin (BOp.fdiv) (E.sl 7) (E.c (D.int 997)))) (E.c (D.int 1000))) (Es.nil)))) (Ss.nil)))) (Ss.nil)))) (Ss.nil)))))) (Ss.cons (S.ret (E.sl 3)) (Ss.nil)))
section
variable {fs : List Fn} {fuel : Nat}
theorem draw {d : Nat} (hf : fs[d]? = some ⟨3, 2, drawB⟩) {k : Nat} {as : List Int} {g : DH} {p m : Int} (hp : 0 ≤ p) (hm : 0 < m) : ∃ r : Int, 0 ≤ r ∧ r < m ∧ (runN fs fuel (k+1)).fn d [.ref 1, .int m] (bx as p g) = .ok (.int r) (bx as (p + 1) g) := by
  have hm0 : m ≠ 0 := by omega
  have h7 : ∀ h : DH, binD h .mul (.int p) (.int 7) = .ok (.int (p * 7)) h := fun h => mul_int (.inr (by decide))
  have a1 : ∀ {x y : D}, atI [x, y] 1 = some y := fun {x y} => atI_one
  have n1 : ixN 2 1 = some 1 := rfl
  by_cases hc : p < as.length
  · obtain ⟨x, hx, hm'⟩ := atI_in (xs := as.map D.int) hp (by simpa using hc)
    obtain ⟨v, _, rfl⟩ := List.mem_map.mp hm'
    refine ⟨v.fmod m, (fmod_rng hm).1, (fmod_rng hm).2, ?_⟩
    simp [fn_eq hf, drawB, runD, bx, a1, n1, h7, mod_int hm0, hc, hx]
  · refine ⟨(p * 7).fmod m, (fmod_rng hm).1, (fmod_rng hm).2, ?_⟩
    simp [fn_eq hf, drawB, runD, bx, a1, n1, h7, mod_int hm0, hc]
theorem cell {d : Nat} (hf : fs[d]? = some ⟨2, 2, cellBd⟩) {k : Nat} {ns : List Int} {h : DH} {i : Int} (h0 : 0 ≤ i) : ∃ v : Int, (runN fs fuel (k+1)).fn d [.fl (ns.map .int), .int i] h = .ok (.int v) h := by
  by_cases hc : i < ns.length
  · obtain ⟨x, hx, hm'⟩ := atI_in (xs := ns.map D.int) h0 (by simpa using hc)
    obtain ⟨v, _, rfl⟩ := List.mem_map.mp hm'
    exact ⟨v, by simp [fn_eq hf, cellBd, runD, hc, hx]⟩
  · exact ⟨0, by simp [fn_eq hf, cellBd, runD, hc]⟩
def hdL (as : List Int) : DH := [.lst (as.map .int)]
theorem app_hd {as : List Int} {v : Int} (h : as.length < SL) : mtD (hdL as) .append (.ref 0) [.int v] = .ok .non (hdL (as ++ [v])) := by
  show (if (as.map D.int).length < SL then _ else _) = _
  rw [if_pos (by simpa using h)]
  simp [hdL]
theorem mtk_hd {as : List Int} : mtK (hdL as) .append (.ref 0) = true := rfl
@[simp] theorem lget_hd {as : List Int} : lget (hdL as) 0 = some (as.map .int) := rfl
abbrev dfr (ns : List Int) (a4 a5 a6 a7 : Option D) : Fr := [some (.fl (ns.map .int)), some (.int 0), some (.int 63), some (.ref 0), a4, a5, a6, a7]
theorem digits {d c : Nat} (hd : fs[d]? = some ⟨8, 3, digitsB c⟩) (hc : fs[c]? = some ⟨2, 2, cellBd⟩) {k : Nat} {ns : List Int} : ((runN fs fuel (k+2)).fn d [.fl (ns.map .int), .int 0, .int 63] []).sat fun d h => ∃ as : List Int, d = .ref 0 ∧ h = hdL as ∧ as.length ≤ 10000 := by
  refine sat_fn hd rfl ?_
  simp [digitsB, lim]
  refine sat_seq (frB_items (I := fun i σ h => ∃ a4 a5 a6 a7 as, σ = dfr ns a4 a5 a6 a7 ∧ h = hdL as ∧ as.length ≤ 1500 + 60 * i) ?_ ?_ ?_)
  · exact ⟨_, _, _, _, [], rfl, rfl, by simp⟩
  · rintro i d σ h hi ⟨a4, a5, a6, a7, as, rfl, rfl, hl⟩
    obtain ⟨hi3, rfl⟩ := rng_get hi
    obtain ⟨v, hv⟩ := cell hc (fuel := fuel) (k := k) (ns := ns) (h := hdL as) (i := (i : Int)) (by omega)
    have m1 : ∀ {x : Int} {h : DH}, binD h .mul (.int x) (.int 48271) = .ok (.int (x * 48271)) h := big1 (by decide)
    have m2 : ∀ {x : Int} {h : DH}, binD h .mul (.int x) (.int 69621) = .ok (.int (x * 69621)) h := big1 (by decide)
    have m3 : ∀ {x : Int} {h : DH}, binD h .mul (.int x) (.int 16807) = .ok (.int (x * 16807)) h := big1 (by decide)
    have m4 : ∀ {x : Int} {h : DH}, binD h .mul (.int 7) (.int x) = .ok (.int (7 * x)) h := big2 (by decide)
    have m5 : ∀ {x : Int} {h : DH}, binD h .mul (.int 2) (.int x) = .ok (.int (2 * x)) h := big2 (by decide)
    have q1 : ∀ {x : Int} {h : DH}, binD h .mod (.int x) (.int 1000) = .ok (.int (x.fmod 1000)) h := mod_int (by decide)
    have q2 : ∀ {x : Int} {h : DH}, binD h .mod (.int x) (.int 2147483647) = .ok (.int (x.fmod 2147483647)) h := mod_int (by decide)
    have d1 : ∀ {x : Int} {h : DH}, binD h .fdiv (.int x) (.int 1000) = .ok (.int (x.fdiv 1000)) h := fdiv_int (by decide)
    have d2 : ∀ {x : Int} {h : DH}, binD h .fdiv (.int x) (.int 997) = .ok (.int (x.fdiv 997)) h := fdiv_int (by decide)
    by_cases c1 : 1500 < (as.length : Int)
    · simp [c1]
      exact ⟨_, rfl, by omega⟩
    · simp [c1, hv, m5]
      refine sat_then (fun σ h => ∃ w : Int, σ = dfr ns (some (.int i)) (some (.int w)) a6 a7 ∧ h = hdL as) (by split <;> exact ⟨_, rfl, rfl⟩) ?_
      rintro σ h ⟨w, rfl, rfl⟩
      by_cases c3 : 1000000000000000000 ≤ w
      · simp [pow18, c3, lim]
        refine sat_seq (sat_seq (frB_items (I := fun j σ h => ∃ (w : Int) (a6 a7 : Option D) (as' : List Int), σ = dfr ns (some (.int i)) (some (.int w)) a6 a7 ∧ h = hdL as' ∧ as'.length ≤ as.length + j) ?_ ?_ ?_))
        · exact ⟨_, _, _, _, rfl, rfl, by simp⟩
        · rintro j d σ h hj ⟨w, a6, a7, as', rfl, rfl, hl'⟩
          obtain ⟨hj3, rfl⟩ := rng_get hj
          have hs : as'.length < SL := by simp [SL]; omega
          by_cases c4 : 0 < w
          · simp [c4, mtk_hd, q1, app_hd hs, d1]
            exact ⟨_, rfl, by simp; omega⟩
          · simp [c4]
            exact ⟨_, rfl, by omega⟩
        · rintro σ h ⟨w, a6, a7, as', rfl, rfl, hl'⟩
          simp
          refine ⟨_, rfl, ?_⟩
          rw [rng_len] at hl'
          omega
      · simp [pow18, c3, lim, m1, m2, q2]
        refine sat_seq (sat_seq (frB_items (I := fun j σ h => ∃ (w u : Int) (a6 : Option D) (as' : List Int), σ = dfr ns (some (.int i)) (some (.int w)) a6 (some (.int u)) ∧ h = hdL as' ∧ as'.length ≤ as.length + j) ?_ ?_ ?_))
        · exact ⟨_, _, _, _, rfl, rfl, by simp⟩
        · rintro j d σ h hj ⟨w, u, a6, as', rfl, rfl, hl'⟩
          obtain ⟨hj3, rfl⟩ := rng_get hj
          have hs : as'.length < SL := by simp [SL]; omega
          simp [m3, m4, mtk_hd, q1, q2, d2, app_hd hs]
          exact ⟨_, rfl, by simp; omega⟩
        · rintro σ h ⟨w, u, a6, as', rfl, rfl, hl'⟩
          simp
          refine ⟨_, rfl, ?_⟩
          rw [rng_len] at hl'
          omega
  · rintro σ h ⟨a4, a5, a6, a7, as, rfl, rfl, hl⟩
    simp
    exact ⟨_, rfl, by rw [rng_len] at hl; omega⟩
end
end FD

set_option linter.all false
set_option maxRecDepth 10000
/-! Digits, where the length is asked behind the cell. -/
namespace FD
def digits2B (c : Nat) : Ss := Ss.cons (S.asg (T.sl 3) (E.ofL (L.disp (Es.nil)))) (Ss.cons (S.fr (T.sl 4) (It.r2 (E.sl 1) (E.sl 2)) (Ss.cons (S.asg (T.sl 5) (E.call c (Es.cons (E.sl 0) (Es.cons (E.sl 4) (Es.nil))))) (Ss.cons (S.ite (E.cmp (COp.lt) (E.sl 5) (E.c (D.int 0))) (Ss.cons (S.asg (T.sl 5) (E.bin (BOp.sub) (E.c (D.int 1)) (E.bin (BOp.mul) (E.c (D.int 2)) (E.sl 5)))) (Ss.nil)) (Ss.nil)) (Ss.cons (S.ite (E.cmp (COp.gt) (E.bi (Bi.len) (E.sl 3)) (E.c (D.int 1500))) (Ss.cons (S.brk) (Ss.nil)) (Ss.nil)) (Ss.cons (S.ite (E.cmp (COp.ge) (E.sl 5) (E.bin (BOp.pow) (E.c (D.int 10)) (E.c (D.int 18)))) (Ss.cons (S.fr (T.sl 6) (It.r1 (E.c (D.int 60))) (Ss.cons (S.ite (E.cmp (COp.gt) (E.sl 5) (E.c (D.int 0))) (Ss.cons (S.ex (E.mt (Mt.append) (E.sl 3) (Es.cons (E.bin (BOp.mod) (E.bi (Bi.int) (E.sl 5)) (E.c (D.int 1000))) (Es.nil)))) (Ss.cons (S.asg (T.sl 5) (E.bin (BOp.fdiv) (E.sl 5) (E.c (D.int 1000)))) (Ss.nil))) (Ss.nil)) (Ss.nil))) (Ss.nil)) (Ss.cons (S.asg (T.sl 7) (E.bin (BOp.mod) (E.bi (Bi.int) (E.bin (BOp.add) (E.bin (BOp.add) (E.bin (BOp.mul) (E.sl 5) (E.c (D.int 48271))) (E.bin (BOp.mul) (E.sl 4) (E.c (D.int 69621)))) (E.c (D.int 11)))) (E.c (D.int 2147483647)))) (Ss.cons (S.fr (T.sl 6) (It.r1 (E.c (D.int 12))) (Ss.cons (S.asg (T.sl 7) (E.bin (BOp.mod) (E.bi (Bi.int) (E.bin (BOp.add) (E.bin (BOp.add) (E.bin (BOp.mul) (E.sl 7) (E.c (D.int 16807))) (E.bin (BOp.mul) (E.c (D.int 7)) (E.sl 6))) (E.c (D.int 1)))) (E.c (D.int 2147483647)))) (Ss.cons (S.ex (E.mt (Mt.append) (E.sl 3) (Es.cons (E.bin (BOp.mod) (E.bi (Bi.int) (E.bin (BOp.fdiv) (E.sl 7) (E.c (D.int 997)))) (E.c (D.int 1000))) (Es.nil)))) (Ss.nil)))) (Ss.nil)))) (Ss.nil)))))) (Ss.cons (S.ret (E.sl 3)) (Ss.nil)))
section
variable {fs : List Fn} {fuel : Nat}
theorem digits2 {d c : Nat} (hd : fs[d]? = some ⟨8, 3, digits2B c⟩) (hc : fs[c]? = some ⟨2, 2, cellBd⟩) {k : Nat} {ns : List Int} : ((runN fs fuel (k+2)).fn d [.fl (ns.map .int), .int 0, .int 63] []).sat fun d h => ∃ as : List Int, d = .ref 0 ∧ h = hdL as ∧ as.length ≤ 10000 := by
  refine sat_fn hd rfl ?_
  simp [digits2B, lim]
  refine sat_seq (frB_items (I := fun i σ h => ∃ a4 a5 a6 a7 as, σ = dfr ns a4 a5 a6 a7 ∧ h = hdL as ∧ as.length ≤ 1500 + 60 * i) ?_ ?_ ?_)
  · exact ⟨_, _, _, _, [], rfl, rfl, by simp⟩
  · rintro i d σ h hi ⟨a4, a5, a6, a7, as, rfl, rfl, hl⟩
    obtain ⟨hi3, rfl⟩ := rng_get hi
    obtain ⟨v, hv⟩ := cell hc (fuel := fuel) (k := k) (ns := ns) (h := hdL as) (i := (i : Int)) (by omega)
    have m1 : ∀ {x : Int} {h : DH}, binD h .mul (.int x) (.int 48271) = .ok (.int (x * 48271)) h := big1 (by decide)
    have m2 : ∀ {x : Int} {h : DH}, binD h .mul (.int x) (.int 69621) = .ok (.int (x * 69621)) h := big1 (by decide)
    have m3 : ∀ {x : Int} {h : DH}, binD h .mul (.int x) (.int 16807) = .ok (.int (x * 16807)) h := big1 (by decide)
    have m4 : ∀ {x : Int} {h : DH}, binD h .mul (.int 7) (.int x) = .ok (.int (7 * x)) h := big2 (by decide)
    have m5 : ∀ {x : Int} {h : DH}, binD h .mul (.int 2) (.int x) = .ok (.int (2 * x)) h := big2 (by decide)
    have q1 : ∀ {x : Int} {h : DH}, binD h .mod (.int x) (.int 1000) = .ok (.int (x.fmod 1000)) h := mod_int (by decide)
    have q2 : ∀ {x : Int} {h : DH}, binD h .mod (.int x) (.int 2147483647) = .ok (.int (x.fmod 2147483647)) h := mod_int (by decide)
    have d1 : ∀ {x : Int} {h : DH}, binD h .fdiv (.int x) (.int 1000) = .ok (.int (x.fdiv 1000)) h := fdiv_int (by decide)
    have d2 : ∀ {x : Int} {h : DH}, binD h .fdiv (.int x) (.int 997) = .ok (.int (x.fdiv 997)) h := fdiv_int (by decide)
    simp [hv, m5]
    refine sat_then (fun σ h => ∃ w : Int, σ = dfr ns (some (.int i)) (some (.int w)) a6 a7 ∧ h = hdL as) (by split <;> exact ⟨_, rfl, rfl⟩) ?_
    rintro σ h ⟨w, rfl, rfl⟩
    by_cases c1 : 1500 < (as.length : Int)
    · simp [c1]
      exact ⟨_, rfl, by omega⟩
    · 
      by_cases c3 : 1000000000000000000 ≤ w
      · simp [c1, pow18, c3, lim]
        refine sat_seq (sat_seq (frB_items (I := fun j σ h => ∃ (w : Int) (a6 a7 : Option D) (as' : List Int), σ = dfr ns (some (.int i)) (some (.int w)) a6 a7 ∧ h = hdL as' ∧ as'.length ≤ as.length + j) ?_ ?_ ?_))
        · exact ⟨_, _, _, _, rfl, rfl, by simp⟩
        · rintro j d σ h hj ⟨w, a6, a7, as', rfl, rfl, hl'⟩
          obtain ⟨hj3, rfl⟩ := rng_get hj
          have hs : as'.length < SL := by simp [SL]; omega
          by_cases c4 : 0 < w
          · simp [c4, mtk_hd, q1, app_hd hs, d1]
            exact ⟨_, rfl, by simp; omega⟩
          · simp [c4]
            exact ⟨_, rfl, by omega⟩
        · rintro σ h ⟨w, a6, a7, as', rfl, rfl, hl'⟩
          simp
          refine ⟨_, rfl, ?_⟩
          rw [rng_len] at hl'
          omega
      · simp [c1, pow18, c3, lim, m1, m2, q2]
        refine sat_seq (sat_seq (frB_items (I := fun j σ h => ∃ (w u : Int) (a6 : Option D) (as' : List Int), σ = dfr ns (some (.int i)) (some (.int w)) a6 (some (.int u)) ∧ h = hdL as' ∧ as'.length ≤ as.length + j) ?_ ?_ ?_))
        · exact ⟨_, _, _, _, rfl, rfl, by simp⟩
        · rintro j d σ h hj ⟨w, u, a6, as', rfl, rfl, hl'⟩
          obtain ⟨hj3, rfl⟩ := rng_get hj
          have hs : as'.length < SL := by simp [SL]; omega
          simp [m3, m4, mtk_hd, q1, q2, d2, app_hd hs]
          exact ⟨_, rfl, by simp; omega⟩
        · rintro σ h ⟨w, u, a6, as', rfl, rfl, hl'⟩
          simp
          refine ⟨_, rfl, ?_⟩
          rw [rng_len] at hl'
          omega
  · rintro σ h ⟨a4, a5, a6, a7, as, rfl, rfl, hl⟩
    simp
    exact ⟨_, rfl, by rw [rng_len] at hl; omega⟩
end
end FD

set_option autoImplicit false
/-! The D layer: simp lemmas about instances. -/
namespace FD
section
variable {C : Cn} {σ : Fr} {h : DH}
@[simp] theorem v_fld {cns : List (List Nat)} {o : E} {f : List Nat} : (ev C (.fld cns o f)).v σ h = ((ev C o).v σ h).bind fun x h => .opt (fldD h cns x f) h := (rfl)
@[simp] theorem t_fld {cns : List (List Nat)} {o : E} {f : List Nat} : (ev C (.fld cns o f)).t σ h = ((ev C (.fld cns o f)).v σ h).bind fun x h => .opt (truD h x) h := (rfl)
@[simp] theorem v_meth {m : List Nat} {ds : List (List Nat × Nat)} {o : E} {es : Es} : (ev C (.meth m ds o es)).v σ h = ((ev C o).v σ h).bind fun x h => match methD h m ds x with
    | some f => (evs C es σ h).bind fun xs h => C.fn f (x :: xs) h
    | none => .bad := (rfl)
@[simp] theorem s_sfld {cns : List (List Nat)} {o e : E} {f : List Nat} : evS C (.sfld cns o f e) σ h = ((ev C e).v σ h).sbind σ fun y h => ((ev C o).v σ h).sbind σ fun x h => match sfldD h cns x f y with
    | some h' => .nx σ h'
    | none => .bad := (rfl)
theorem fld_ref {cns : List (List Nat)} {f : List Nat} {n : Nat} {cn : List Nat} {fs : List (List Nat × D)} (e : h[n]? = some (.obj cn fs)) (hc : cns.contains cn = true) : fldD h cns (.ref n) f = fs.lookup f := by
  simp only [fldD, oget, e, hc, if_true]
theorem meth_ref {m : List Nat} {ds : List (List Nat × Nat)} {n : Nat} {cn : List Nat} {fs : List (List Nat × D)} (e : h[n]? = some (.obj cn fs)) (hm : (fs.lookup m).isNone = true) : methD h m ds (.ref n) = ds.lookup cn := by
  simp only [methD, oget, e, hm, if_true]
theorem sfld_ref {cns : List (List Nat)} {f : List Nat} {n : Nat} {v : D} {cn : List Nat} {fs : List (List Nat × D)} (e : h[n]? = some (.obj cn fs)) (hc : cns.contains cn = true) (hl : fs.length < 1000) : sfldD h cns (.ref n) f v = some (h.set n (.obj cn (putFd f v fs))) := by
  simp only [sfldD, oget, e, hc, hl, and_self, if_true]
end
end FD

set_option autoImplicit false
set_option linter.all false
set_option maxRecDepth 100000
set_option maxHeartbeats 1000000
/-! k27: a pick; hear. -/
namespace K27
open FD A
theorem fe12 : A.fs[12]? = some ⟨3, 2, drawB⟩ := rfl
theorem fe2 : A.fs[2]? = some ⟨2, 2, b2⟩ := rfl
theorem pick {k : Nat} {as : List Int} {g : DH} {p : Int} {n : Nat} {xs : List D} (hp : 0 ≤ p) (hn : ∀ q : Int, lget (bx as q g) n = some xs) (hx : 0 < xs.length) : ∃ x ∈ xs, (RR (k + 2)).fn 2 [.ref 1, .ref n] (bx as p g) = .ok x (bx as (p + 1) g) := by
  obtain ⟨r, r0, r1, hd⟩ := draw (fs := A.fs) (fuel := A.fuel) fe12 (k := k) (as := as) (g := g) (p := p) (m := 900) hp (by decide)
  have hm : ((xs.length : Nat) : Int) ≠ 0 := by omega
  have hm2 : (0 : Int) < xs.length := by omega
  obtain ⟨x, h1, h2⟩ := atI_in (xs := xs) (fmod_rng (a := r) hm2).1 (fmod_rng hm2).2
  refine ⟨x, h2, ?_⟩
  simp [fn_eq fe2, b2, runD, hd, hn, mod_int hm, h1]
theorem fe25 : A.fs[25]? = some ⟨3, 3, b25⟩ := rfl
theorem fe37 : A.fs[37]? = some ⟨2, 2, b37⟩ := rfl
theorem fe45 : A.fs[45]? = some ⟨2, 2, b45⟩ := rfl
abbrev cns : List (List Nat) := [[83, 104, 111, 112], [82, 101, 103, 105, 115, 116, 101, 114], [76, 105, 110, 101]]
theorem hear45 {k l : Nat} {w t : List Nat} {sh tl ow : D} {h : DH} (e : h[l]? = some (lnO w sh tl ow)) (hw : w.length + t.length ≤ SL) : (RR (k + 1)).fn 45 [.ref l, .str t] h = .ok .non (h.set l (lnO (w ++ t) sh tl ow)) := by
  have c1 : cns.contains nLine = true := rfl
  simp [fn_eq fe45, b45, runD, fld_ref e c1, sfld_ref e c1, List.lookup, add_str hw, putFd]
theorem line37 {k s l d : Nat} {m : List Nat} {fs : List (List Nat × D)} {kvs : List (DK × D)} {h : DH} (e : h[s]? = some (.obj nShop fs)) (e1 : fs.lookup [95, 108, 105, 110, 101, 115] = some (.ref d)) (e2 : h[d]? = some (.dic kvs)) (e3 : dval kvs (.inr m) = some (.ref l)) :
    (RR (k + 1)).fn 37 [.ref s, .str m] h = .ok (.ref l) h := by
  have c1 : cns.contains nShop = true := rfl
  have g1 : lget h d = none := by unfold lget; rw [e2]
  have g2 : dgetD h d (.str m) = some (some (.ref l)) := by unfold dgetD; rw [e2]; simp [keyOf, e3]
  simp [fn_eq fe37, b37, runD, fld_ref e c1, e1, inD, isiD, g1, g2]
theorem hear25 {k s l d : Nat} {m w t : List Nat} {fs : List (List Nat × D)} {kvs : List (DK × D)} {sh tl ow : D} {h : DH} (e : h[s]? = some (.obj nShop fs)) (e0 : (fs.lookup [95, 108, 105, 110, 101]).isNone = true) (e1 : fs.lookup [95, 108, 105, 110, 101, 115] = some (.ref d)) (e2 : h[d]? = some (.dic kvs)) (e3 : dval kvs (.inr m) = some (.ref l))
    (e4 : h[l]? = some (lnO w sh tl ow)) (hw : w.length + t.length ≤ SL) : (RR (k + 2)).fn 25 [.ref s, .str m, .str t] h = .ok .non (h.set l (lnO (w ++ t) sh tl ow)) := by
  have hl := line37 (k := k) e e1 e2 e3
  have h5 := hear45 (k := k) e4 hw
  have m1 : methD h [95, 108, 105, 110, 101] [([83, 104, 111, 112], 37)] (.ref s) = some 37 := by
    rw [meth_ref e e0]; rfl
  have m2 : methD h [104, 101, 97, 114] [([76, 105, 110, 101], 45), ([83, 104, 111, 112], 25)] (.ref l) = some 45 := by
    rw [meth_ref e4 rfl]; rfl
  simp [fn_eq fe25, b25, runD, m1, m2, hl, h5]
end K27

set_option autoImplicit false
set_option linter.all false
set_option maxRecDepth 100000
set_option maxHeartbeats 1000000
/-! k27: statements cut up, what the kernel tells. -/
namespace K27
open FD A
theorem seq_assoc {o : SO} {f g : Fr → DH → SO} : (o.seq f).seq g = o.seq fun σ h => (f σ h).seq g := by cases o <;> rfl
theorem ss_split {C : Cn} : ∀ (n : Nat) (b : Ss) (σ : Fr) (h : DH), evSs C b σ h = (evSs C (tk n b) σ h).seq (evSs C (dr n b))
  | 0, b, σ, h => by
    show _ = (evSs C .nil σ h).seq (evSs C (dr 0 b))
    cases b <;> rfl
  | n + 1, .nil, σ, h => rfl
  | n + 1, .cons s ss, σ, h => by
    show evSs C (.cons s ss) σ h = (evSs C (.cons s (tk n ss)) σ h).seq (evSs C (dr n ss))
    rw [ss_cons, ss_cons, seq_assoc]
    congr 1
    funext σ h
    exact ss_split n ss σ h
theorem nx_of {o : SO} (h : isNx o = true) : o = .nx (frOf o) (hpOf o) := by cases o <;> first | rfl | cases h
theorem okF_of {o : Out Bool} (h : okF o = true) : o = .ok false (hpO o) := by
  cases o with
  | ok a h' => cases a <;> first | rfl | cases h
  | exc _ _ _ => cases h
  | bad => cases h
theorem or_assoc {C : Cn} {a b c d : E} {σ : Fr} {h : DH} : (ev C (.or_ a (.or_ b (.or_ c d)))).t σ h = ((ev C (.or_ a (.or_ b c))).t σ h).bind fun x h => if x then .ok true h else (ev C d).t σ h := by
  simp only [t_or]
  cases (ev C a).t σ h with
  | bad => rfl
  | exc _ _ _ => rfl
  | ok x h1 =>
    cases x with
    | true => rfl
    | false =>
      simp only [bind_ok]
      simp only [Bool.false_eq_true, if_false]
      cases (ev C b).t σ h1 with
      | bad => rfl
      | exc _ _ _ => rfl
      | ok y h2 => cases y <;> rfl
theorem eta_eq {α : Type} (d : α) : ∀ (l : List α), l = eta d l.length l
  | [] => rfl
  | x :: r => by
    show x :: r = x :: eta d r.length r
    rw [← eta_eq d r]
end K27

set_option autoImplicit false
set_option linter.all false
set_option maxRecDepth 100000
set_option maxHeartbeats 0
/-! k27: the first statements; the loop over the rows. -/
namespace K27
open FD A
theorem fe1 : A.fs[1]? = some ⟨8, 3, digits2B 11⟩ := rfl
theorem fe11 : A.fs[11]? = some ⟨2, 2, cellBd⟩ := rfl
abbrev startD : D := .tup [.str [103, 114, 97, 112, 104], .tup [.str [97], .str [98]], .tup [.tup [.str [101, 48], .str [97], .str [98]]]]
theorem start3 (h : DH) : (RR 149).fn 3 [] h = .ok startD h := by kernel_rfl
theorem digs (ns : List Int) : ∃ as : List Int, (RR 149).fn 1 [.fl (ns.map .int), .int 0, .int 63] [] = .ok (.ref 0) (hdL as) := by
  have := digits2 (fs := A.fs) (fuel := A.fuel) fe1 fe11 (k := 147) (ns := ns)
  cases e : (RR 149).fn 1 [.fl (ns.map .int), .int 0, .int 63] [] with
  | ok d h =>
    have e' : (runN A.fs A.fuel (147 + 2)).fn 1 [.fl (ns.map .int), .int 0, .int 63] [] = .ok d h := e
    rw [e'] at this
    obtain ⟨as, rfl, rfl, _⟩ := this
    exact ⟨as, rfl⟩
  | exc c fs h =>
    have e' : (runN A.fs A.fuel (147 + 2)).fn 1 [.fl (ns.map .int), .int 0, .int 63] [] = .exc c fs h := e
    rw [e'] at this
    exact this.elim
  | bad =>
    have e' : (runN A.fs A.fuel (147 + 2)).fn 1 [.fl (ns.map .int), .int 0, .int 63] [] = .bad := e
    rw [e'] at this
    exact this.elim
theorem first4 (ns : List Int) : ∃ as nm st ot, nm ∈ names ∧ st ∈ starts ∧ ot ∈ othersL ∧ evSs (RR 149) (tk 4 b0) (frame 13 [.fl (ns.map .int)]) [] = .nx (frA (.fl (ns.map .int)) nm st ot) (bx as 3 gA) := by
  obtain ⟨as, hd⟩ := digs ns
  obtain ⟨nm, h1, p1⟩ := pick (k := 147) (as := as) (g := [.lst names]) (p := 0) (n := 2) (xs := names) (by decide) (fun _ => rfl) (by decide)
  obtain ⟨st, h2, p2⟩ := pick (k := 147) (as := as) (g := [.lst names, .lst starts]) (p := 1) (n := 3) (xs := starts) (by decide) (fun _ => rfl) (by decide)
  obtain ⟨ot, h3, p3⟩ := pick (k := 147) (as := as) (g := gA) (p := 2) (n := 4) (xs := othersL) (by decide) (fun _ => rfl) (by decide)
  refine ⟨as, nm, st, ot, h1, h2, h3, ?_⟩
  have e0 : hdL as ++ [.lst [.ref 0, .int 0]] = bx as 0 [] := rfl
  have l0 : (hdL as).length = 1 := rfl
  have l1 : (bx as 0 []).length = 2 := rfl
  have l2 : (bx as 1 [.lst names]).length = 3 := rfl
  have l3 : (bx as 2 [.lst names, .lst starts]).length = 4 := rfl
  have a1 : bx as 0 [] ++ [.lst names] = bx as 0 [.lst names] := rfl
  have a2 : bx as 1 [.lst names] ++ [.lst starts] = bx as 1 [.lst names, .lst starts] := rfl
  have a3 : bx as 2 [.lst names, .lst starts] ++ [.lst othersL] = bx as 2 gA := rfl
  have s1 : evS (RR 149) (match b0 with | .cons s _ => s | _ => .never) (frame 13 [.fl (ns.map .int)]) [] = .nx [some (.fl (ns.map .int)), some (.ref 1), none, none, none, none, none, none, none, none, none, none, none] (bx as 0 []) := by
    show evS (RR 149) (S.asg (T.sl 1) (E.ofL (L.disp (Es.cons (E.call 1 (Es.cons (E.sl 0) (Es.cons (E.c (D.int 0)) (Es.cons (E.c (D.int 63)) (Es.nil))))) (Es.cons (E.c (D.int 0)) (Es.nil)))))) _ _ = _
    simp [hd, e0, l0, SL]
  have s2 : evS (RR 149) (match dr 1 b0 with | .cons s _ => s | _ => .never) [some (.fl (ns.map .int)), some (.ref 1), none, none, none, none, none, none, none, none, none, none, none] (bx as 0 []) = .nx [some (.fl (ns.map .int)), some (.ref 1), some bad3, none, none, none, none, none, none, none, none, none, none] (bx as 0 []) := by kernel_rfl
  have s3 : evS (RR 149) (match dr 2 b0 with | .cons s _ => s | _ => .never) [some (.fl (ns.map .int)), some (.ref 1), some bad3, none, none, none, none, none, none, none, none, none, none] (bx as 0 []) = .nx [some (.fl (ns.map .int)), some (.ref 1), some bad3, some nm, some st, none, none, none, none, none, none, none, none] (bx as 2 [.lst names, .lst starts]) := by
    have q1 : (ev (RR 149) (E.ofL (L.disp (Es.cons (E.c (D.str [])) (Es.cons (E.c (D.str [72, 65])) (Es.cons (E.c (D.str [49, 104, 97])) (Es.cons (E.c (D.str [118, 101, 114, 121, 108, 111, 110, 103, 110, 97, 109, 101, 115])) (Es.nil)))))))).v [some (.fl (ns.map .int)), some (.ref 1), some bad3, none, none, none, none, none, none, none, none, none, none] (bx as 0 []) = .ok (.ref 2) (bx as 0 [.lst names]) := by kernel_rfl
    have q2 : (ev (RR 149) (E.ofL (L.disp (Es.cons (E.tup (Es.nil)) (Es.cons (E.tup (Es.cons (E.c (D.str [103, 114, 97, 112, 104])) (Es.nil))) (Es.cons (E.sli (E.call 3 (Es.nil)) (Oe.none) (Oe.some (E.c (D.int 1)))) (Es.cons (E.sl 2) (Es.cons (E.c (D.int 5)) (Es.nil))))))))).v [some (.fl (ns.map .int)), some (.ref 1), some bad3, none, none, none, none, none, none, none, none, none, none] (bx as 1 [.lst names]) = .ok (.ref 3) (bx as 1 [.lst names, .lst starts]) := by kernel_rfl
    show evS (RR 149) (S.par2 3 4 (Es.cons (E.call 2 (Es.cons (E.sl 1) (Es.cons (E.ofL _) (Es.nil)))) (Es.cons (E.call 2 (Es.cons (E.sl 1) (Es.cons (E.ofL _) (Es.nil)))) (Es.nil)))) _ _ = _
    simp [-v_ofL, q1, p1, q2, p2]
  have s4 : evS (RR 149) (match dr 3 b0 with | .cons s _ => s | _ => .never) [some (.fl (ns.map .int)), some (.ref 1), some bad3, some nm, some st, none, none, none, none, none, none, none, none] (bx as 2 [.lst names, .lst starts]) = .nx (frA (.fl (ns.map .int)) nm st ot) (bx as 3 gA) := by
    have q3 : (ev (RR 149) (E.ofL (L.disp (Es.cons (E.tup (Es.cons (E.c (D.str [104, 97])) (Es.nil))) (Es.cons (E.tup (Es.cons (E.c (D.str [104, 99])) (Es.cons (E.c (D.str [104, 98])) (Es.nil)))) (Es.cons (E.tup (Es.cons (E.c (D.str [104, 98])) (Es.cons (E.c (D.str [104, 98])) (Es.nil)))) (Es.cons (E.tup (Es.cons (E.c (D.str [104, 98])) (Es.cons (E.c (D.str [104, 99])) (Es.cons (E.c (D.str [104, 100])) (Es.cons (E.c (D.str [104, 101])) (Es.cons (E.c (D.str [104, 102])) (Es.nil))))))) (Es.cons (E.tup (Es.cons (E.c (D.str [72])) (Es.nil))) (Es.nil))))))))).v [some (.fl (ns.map .int)), some (.ref 1), some bad3, some nm, some st, none, none, none, none, none, none, none, none] (bx as 2 [.lst names, .lst starts]) = .ok (.ref 4) (bx as 2 gA) := by kernel_rfl
    show evS (RR 149) (S.asg (T.sl 5) (E.call 2 (Es.cons (E.sl 1) (Es.cons (E.ofL _) (Es.nil))))) _ _ = _
    simp [-v_ofL, q3, p3, frA]
  show (evS (RR 149) (match b0 with | .cons s _ => s | _ => .never) (frame 13 [.fl (ns.map .int)]) []).seq (evSs (RR 149) (Ss.cons (match dr 1 b0 with | .cons s _ => s | _ => .never) (Ss.cons (match dr 2 b0 with | .cons s _ => s | _ => .never) (Ss.cons (match dr 3 b0 with | .cons s _ => s | _ => .never) .nil)))) = _
  rw [s1, seq_nx, ss_cons, s2, seq_nx, ss_cons, s3, seq_nx, ss_cons, s4, seq_nx, ss_nil]
end K27

set_option autoImplicit false
set_option linter.all false
set_option maxRecDepth 100000
set_option maxHeartbeats 0
/-! k27: the loop over the rows; facts that the kernel tells. -/
namespace K27
open FD A
theorem stageA (as : List Int) (sc : D) {nm st ot : D} (h1 : nm ∈ names) (h2 : st ∈ starts) (h3 : ot ∈ othersL) : ∃ n, (n = 20 ∨ n = 22) ∧ pk (evSs (RR 149) stA (frA sc nm st ot) (bx as 3 gA)) = (13, some (some (.ref 1)), bx as 3 [], n + 2) := by
  simp only [names, starts, othersL, List.mem_cons, List.not_mem_nil, or_false] at h1 h2 h3
  rcases h2 with rfl | rfl | rfl | rfl | rfl
  case' inr.inr.inr.inl => rcases h1 with rfl | rfl | rfl | rfl <;> rcases h3 with rfl | rfl | rfl | rfl | rfl <;> exact ⟨22, .inr rfl, by kernel_rfl⟩
  all_goals rcases h1 with rfl | rfl | rfl | rfl <;> rcases h3 with rfl | rfl | rfl | rfl | rfl <;> exact ⟨20, .inl rfl, by kernel_rfl⟩
end K27

set_option autoImplicit false
set_option linter.all false
set_option maxRecDepth 100000
set_option maxHeartbeats 0
/-! k27: facts that the kernel tells of the shop. -/
namespace K27
open FD A
structure Facts (n S dd ll M : Nat) : Prop where
  k1 : ∀ as g a r, isNx (r8 as n g a r) = true
  k2 : ∀ as g a r, ((frOf (r8 as n g a r))[11]?, (frOf (r8 as n g a r))[1]?, (frOf (r8 as n g a r)).length) = (some (some (.ref S)), some (some (.ref 1)), 13)
  k3 : ∀ as g a r, okF (r9 as n g a r) = true
  k4 : ∀ as g a r, isNx (rC S as n g a r) = true
  k5 : ∀ as g a r, frOf (rC S as n g a r) = [some (.ref 1), some (.ref S), none, none]
  k6 : ∀ as g a r, (hC S as n g a r).take 2 = bx as 3 []
  k7 : ∀ as g a r, (hC S as n g a r)[S]? = some (.obj nShop (fsOf ((hC S as n g a r)[S]?)))
  k8 : ∀ as g a r, ((fsOf ((hC S as n g a r)[S]?)).lookup [95, 108, 105, 110, 101]).isNone = true
  k9 : ∀ as g a r, (fsOf ((hC S as n g a r)[S]?)).lookup [95, 108, 105, 110, 101, 115] = some (.ref dd)
  k10 : ∀ as g a r, (hC S as n g a r)[dd]? = some (.dic (kvOf ((hC S as n g a r)[dd]?)))
  k11 : ∀ as g a r, dval (kvOf ((hC S as n g a r)[dd]?)) (.inr [98]) = some (.ref ll)
  k12 : ∀ as g a r, (hC S as n g a r)[ll]? = some (lineF have5)
  k14 : ∀ as g a r, ((fsOf ((hC S as n g a r)[S]?)).lookup [104, 101, 97, 114]).isNone = true
  k15 : S ≠ ll ∧ dd ≠ ll ∧ 2 ≤ S ∧ 2 ≤ dd ∧ 2 ≤ ll ∧ 2 ≤ M
  k13 : ∀ as g a r c, pkB (rest7 S c ll as n g a r) = (true, bx as 4 [], M)
end K27

set_option autoImplicit false
set_option linter.all false
set_option maxRecDepth 100000
set_option maxHeartbeats 0
namespace K27
open FD A
theorem F1 : Facts 20 48 53 55 124 where
  k1 := fun as g a r => by kernel_rfl
  k2 := fun as g a r => by kernel_rfl
  k3 := fun as g a r => by kernel_rfl
  k4 := fun as g a r => by kernel_rfl
  k5 := fun as g a r => by kernel_rfl
  k6 := fun as g a r => by kernel_rfl
  k7 := fun as g a r => by kernel_rfl
  k8 := fun as g a r => by kernel_rfl
  k9 := fun as g a r => by kernel_rfl
  k10 := fun as g a r => by kernel_rfl
  k11 := fun as g a r => by kernel_rfl
  k12 := fun as g a r => by kernel_rfl
  k14 := fun as g a r => by kernel_rfl
  k15 := by decide
  k13 := heavy1
end K27

set_option autoImplicit false
set_option linter.all false
set_option maxRecDepth 100000
set_option maxHeartbeats 0
namespace K27
open FD A
theorem F2 : Facts 22 50 55 57 126 where
  k1 := fun as g a r => by kernel_rfl
  k2 := fun as g a r => by kernel_rfl
  k3 := fun as g a r => by kernel_rfl
  k4 := fun as g a r => by kernel_rfl
  k5 := fun as g a r => by kernel_rfl
  k6 := fun as g a r => by kernel_rfl
  k7 := fun as g a r => by kernel_rfl
  k8 := fun as g a r => by kernel_rfl
  k9 := fun as g a r => by kernel_rfl
  k10 := fun as g a r => by kernel_rfl
  k11 := fun as g a r => by kernel_rfl
  k12 := fun as g a r => by kernel_rfl
  k14 := fun as g a r => by kernel_rfl
  k15 := by decide
  k13 := heavy2
end K27

set_option autoImplicit false
set_option linter.all false
set_option maxRecDepth 100000
set_option maxHeartbeats 1000000
/-! k27: _law_long. -/
namespace K27
open FD A
theorem bx_get {as : List Int} {p q : Int} {g : DH} : ∀ {i : Nat}, 2 ≤ i → (bx as p g)[i]? = (bx as q g)[i]?
  | 0, h => by omega
  | 1, h => by omega
  | _ + 2, _ => rfl
theorem bx_take {as : List Int} {p : Int} {X : DH} (h : X.take 2 = bx as p []) : X = bx as p (X.drop 2) := by
  have := List.take_append_drop 2 X
  rw [h] at this
  exact this.symm
theorem rep_x (k : Nat) : repS [120] k = List.replicate k 120 := by simp [repS]
theorem fe10 : A.fs[10]? = some ⟨4, 2, b10⟩ := rfl
theorem two_hear {S dd ll : Nat} {as : List Int} {G : DH} {fs : List (List Nat × D)} {kv : List (DK × D)} (e : (bx as 3 G)[S]? = some (.obj nShop fs)) (e0 : (fs.lookup [95, 108, 105, 110, 101]).isNone = true) (e00 : (fs.lookup [104, 101, 97, 114]).isNone = true) (e1 : fs.lookup [95, 108, 105, 110, 101, 115] = some (.ref dd))
    (e2 : (bx as 3 G)[dd]? = some (.dic kv)) (e3 : dval kv (.inr [98]) = some (.ref ll)) (e4 : (bx as 3 G)[ll]? = some (lineF have5)) (ne : S ≠ ll ∧ dd ≠ ll ∧ 2 ≤ S ∧ 2 ≤ dd ∧ 2 ≤ ll) :
    ∃ c : Int, evSs (RR 148) (tk 3 (dr 4 b10)) [some (.ref 1), some (.ref S), none, none] (bx as 3 G) = .nx [some (.ref 1), some (.ref S), some (.int c), none] ((bx as 4 G).set ll (lineF (have5 ++ List.replicate 60000 120))) := by
  obtain ⟨n1, n2, n3, n4, n5⟩ := ne
  obtain ⟨q, q0, q1, hd⟩ := draw (fs := A.fs) (fuel := A.fuel) fe12 (k := 147) (as := as) (g := G) (p := 3) (m := 900) (by decide) (by decide)
  have hd : (RR 148).fn 12 [.ref 1, .int 900] (bx as 3 G) = .ok (.int q) (bx as 4 G) := hd
  refine ⟨1 + q, ?_⟩
  rw [bx_get (q := 4) n3] at e
  rw [bx_get (q := 4) n4] at e2
  rw [bx_get (q := 4) n5] at e4
  have b1 : (repS [120] (1 + q).toNat).length ≤ 1000 := by rw [rep_x, List.length_replicate]; omega
  have b2 : (repS [120] (60000 - (1 + q)).toNat).length ≤ 60000 := by rw [rep_x, List.length_replicate]; omega
  have h1 := hear25 (k := 146) (m := [98]) (t := repS [120] (1 + q).toNat) e e0 e1 e2 e3 e4 (by simp [SL]; omega)
  have u1 : ((bx as 4 G).set ll (lineF (have5 ++ repS [120] (1 + q).toNat)))[S]? = some (.obj nShop fs) := by rw [List.getElem?_set_ne (Ne.symm n1)]; exact e
  have u2 : ((bx as 4 G).set ll (lineF (have5 ++ repS [120] (1 + q).toNat)))[dd]? = some (.dic kv) := by rw [List.getElem?_set_ne (Ne.symm n2)]; exact e2
  have u3 : ((bx as 4 G).set ll (lineF (have5 ++ repS [120] (1 + q).toNat)))[ll]? = some (lineF (have5 ++ repS [120] (1 + q).toNat)) := List.getElem?_set_self (List.getElem?_eq_some_iff.mp e4).1
  have h2 := hear25 (k := 146) (m := [98]) (t := repS [120] (60000 - (1 + q)).toNat) u1 e0 e1 u2 e3 u3 (by simp [SL] at b1 b2 ⊢; omega)
  have tx : have5 ++ repS [120] (1 + q).toNat ++ repS [120] (60000 - (1 + q)).toNat = have5 ++ List.replicate 60000 120 := by
    rw [List.append_assoc, rep_x, rep_x, List.replicate_append_replicate]
    congr 2
    omega
  rw [List.set_set, tx] at h2
  have m1 : binD (bx as 4 G) .mul (.str [120]) (.int (1 + q)) = .ok (.str (repS [120] (1 + q).toNat)) (bx as 4 G) := mul_str ⟨by omega, by simp [SL]; omega, by simp [SL]; omega⟩
  have m2 : ∀ h : DH, binD h .mul (.str [120]) (.int (60000 - (1 + q))) = .ok (.str (repS [120] (60000 - (1 + q)).toNat)) h := fun h => mul_str ⟨by omega, by simp [SL]; omega, by simp [SL]; omega⟩
  have d1 : methD (bx as 4 G) [104, 101, 97, 114] [([76, 105, 110, 101], 45), ([83, 104, 111, 112], 25)] (.ref S) = some 25 := by rw [meth_ref e e00]; rfl
  have d2 : methD ((bx as 4 G).set ll (lineF (have5 ++ repS [120] (1 + q).toNat))) [104, 101, 97, 114] [([76, 105, 110, 101], 45), ([83, 104, 111, 112], 25)] (.ref S) = some 25 := by rw [meth_ref u1 e00]; rfl
  show evSs (RR 148) (Ss.cons (FD.S.asg (T.sl 2) (E.bin (BOp.add) (E.c (D.int 1)) (E.call 12 (Es.cons (E.sl 0) (Es.cons (E.c (D.int 900)) (Es.nil)))))) (Ss.cons (FD.S.ex (E.meth [104, 101, 97, 114] [([76, 105, 110, 101], 45), ([83, 104, 111, 112], 25)] (E.sl 1) (Es.cons (E.c (D.str [98])) (Es.cons (E.bin (BOp.mul) (E.c (D.str [120])) (E.sl 2)) (Es.nil))))) (Ss.cons (FD.S.ex (E.meth [104, 101, 97, 114] [([76, 105, 110, 101], 45), ([83, 104, 111, 112], 25)] (E.sl 1) (Es.cons (E.c (D.str [98])) (Es.cons (E.bin (BOp.mul) (E.c (D.str [120])) (E.bin (BOp.sub) (E.c (D.int 60000)) (E.sl 2))) (Es.nil))))) .nil))) _ _ = _
  generalize hT : List.replicate 60000 120 = T at h2 ⊢
  generalize hU : repS [120] (1 + q).toNat = U1 at *
  generalize hV : repS [120] (60000 - (1 + q)).toNat = U2 at *
  simp only [ss_cons, s_asg, v_bin, v_c, bind_ok, v_call, es_cons, v_sl, es_nil, List.getElem?_cons_zero, hd, sbind_ok, add_int, t_slot, seq_nx, List.set_cons_succ, List.set_cons_zero, s_ex, v_meth, List.getElem?_cons_succ, d1, m1, h1, d2, sub_int, m2, h2, ss_nil]
theorem long10 {n S dd ll M : Nat} (F : Facts n S dd ll M) (as : List Int) (g : DH) (a : Option D) (r : Fr) : ∃ h', (RR 149).fn 10 [.ref 1, .ref S] (hB as n g a r) = .ok (.bl true) h' ∧ h'.take 2 = bx as 4 [] ∧ h'.length = M := by
  have e4 := nx_of (F.k4 as g a r)
  rw [F.k5 as g a r] at e4
  have hx := bx_take (F.k6 as g a r)
  obtain ⟨n1, n2, n3, n4, n5, n6⟩ := F.k15
  obtain ⟨c, h3⟩ := two_hear (S := S) (dd := dd) (ll := ll) (as := as) (G := (hC S as n g a r).drop 2) (by rw [← hx]; exact F.k7 as g a r) (F.k8 as g a r) (F.k14 as g a r) (F.k9 as g a r) (by rw [← hx]; exact F.k10 as g a r) (F.k11 as g a r) (by rw [← hx]; exact F.k12 as g a r) ⟨n1, n2, n3, n4, n5⟩
  have k := F.k13 as g a r (.int c)
  have key : evSs (RR 148) b10 [some (.ref 1), some (.ref S), none, none] (hB as n g a r) = rest7 S (.int c) ll as n g a r := by
    rw [ss_split 4]
    have e4' : evSs (RR 148) (tk 4 b10) [some (.ref 1), some (.ref S), none, none] (hB as n g a r) = .nx [some (.ref 1), some (.ref S), none, none] (hC S as n g a r) := e4
    rw [e4', seq_nx, ss_split 3]
    have h3' : evSs (RR 148) (tk 3 (dr 4 b10)) [some (.ref 1), some (.ref S), none, none] (hC S as n g a r) = .nx [some (.ref 1), some (.ref S), some (.int c), none] ((bx as 4 ((hC S as n g a r).drop 2)).set ll (lineF (have5 ++ List.replicate 60000 120))) := by
      rw [← h3]
      congr 1
    rw [h3', seq_nx]
    rfl
  have hr : (RR 149).fn 10 [.ref 1, .ref S] (hB as n g a r) = runD (RR 148) 4 2 b10 [.ref 1, .ref S] (hB as n g a r) := fn_eq fe10
  rw [hr]
  unfold runD
  rw [if_pos (by rfl)]
  have hf : frame 4 [D.ref 1, .ref S] = [some (.ref 1), some (.ref S), none, none] := rfl
  rw [hf, key]
  generalize rest7 S (.int c) ll as n g a r = o at k
  cases o with
  | rt d h' =>
    cases d with
    | bl b =>
      have k' : (b, h'.take 2, h'.length) = (true, bx as 4 [], M) := k
      simp only [Prod.mk.injEq] at k'
      obtain ⟨rfl, k1, k2⟩ := k'
      exact ⟨h', rfl, k1, k2⟩
    | _ =>
      have k' : (false, ([] : DH), 0) = (true, bx as 4 [], M) := k
      cases k'
  | _ =>
    have k' : (false, ([] : DH), 0) = (true, bx as 4 [], M) := k
    cases k'
end K27

set_option autoImplicit false
set_option linter.all false
set_option maxRecDepth 100000
set_option maxHeartbeats 1000000
/-! k27: the law. -/
namespace K27
open FD A
abbrev T4 : List D := [.str [], .str [102, 111, 111, 10], .str [48, 32, 53, 32, 40, 10], .str [49, 32, 50, 32, 40, 49, 41, 10]]
def pkX (o : Out D) : Option (Nat × List (List Nat × D)) := match o with
  | .exc c fs _ => some (c, fs)
  | _ => none
abbrev jour : List (List Nat × D) := [([114, 101, 97, 115, 111, 110], .str [106, 111, 117, 114, 110, 97, 108])]
theorem bad7 (as : List Int) (G : DH) {n : Nat} (hn : n = 122 ∨ n = 124) {x : D} (hx : x ∈ T4) : pkX ((RR 149).fn 7 [x] (bx as 5 (eta o0 n G ++ [.lst T4]))) = some (0, jour) := by
  simp only [T4, List.mem_cons, List.not_mem_nil, or_false] at hx
  rcases hn with rfl | rfl <;> rcases hx with rfl | rfl | rfl | rfl <;> kernel_rfl
theorem tail {h : DH} {as : List Int} {n : Nat} (hn : n = 122 ∨ n = 124) (ht : h.take 2 = bx as 4 []) (hl : h.length = n + 2) {σ : Fr} (s1 : σ[1]? = some (some (.ref 1))) (sl : σ.length = 13) : ∃ h', evSs (RR 149) (dr 10 b0) σ h = .rt (.bl true) h' := by
  have hG := bx_take ht
  generalize h.drop 2 = G at hG
  subst hG
  have lG : G.length = n := by
    have : (bx as 4 G).length = G.length + 2 := rfl
    omega
  obtain ⟨x, hx, hp⟩ := pick (k := 147) (as := as) (g := G ++ [.lst T4]) (p := 4) (n := G.length + 2) (xs := T4) (by decide) (fun q => by
    have e : (bx as q (G ++ [.lst T4]))[G.length + 2]? = some (.lst T4) := by
      show (G ++ [O.lst T4])[G.length]? = _
      simp
    unfold lget
    rw [e]) (by decide)
  have k := bad7 as G hn hx
  have eG : eta o0 n G = G := by rw [← lG]; exact (eta_eq o0 G).symm
  rw [eG] at k
  have hp : (RR 149).fn 2 [.ref 1, .ref (G.length + 2)] (bx as 4 (G ++ [.lst T4])) = .ok x (bx as 5 (G ++ [.lst T4])) := hp
  cases e7 : (RR 149).fn 7 [x] (bx as 5 (G ++ [.lst T4])) with
  | ok _ _ => rw [e7] at k; cases k
  | bad => rw [e7] at k; cases k
  | exc c fs h' =>
    rw [e7] at k
    have k' : some (c, fs) = some (0, jour) := k
    cases k'
    refine ⟨h', ?_⟩
    have q1 : (ev (RR 149) (E.ofL (L.disp (Es.cons (E.c (D.str [])) (Es.cons (E.c (D.str [102, 111, 111, 10])) (Es.cons (E.c (D.str [48, 32, 53, 32, 40, 10])) (Es.cons (E.c (D.str [49, 32, 50, 32, 40, 49, 41, 10])) (Es.nil)))))))).v σ (bx as 4 G) = .ok (.ref (G.length + 2)) (bx as 4 (G ++ [.lst T4])) := by
      simp [SL]
      exact ⟨rfl, rfl⟩
    show evSs (RR 149) (Ss.cons (S.tryX (Ss.cons (S.ex (E.call 7 (Es.cons (E.call 2 (Es.cons (E.sl 1) (Es.cons (E.ofL _) (Es.nil)))) (Es.nil)))) (Ss.cons (S.ret (E.c (D.bl false))) (Ss.nil))) [0] 12 (SU.ret (SE.eqs [114, 101, 97, 115, 111, 110] [106, 111, 117, 114, 110, 97, 108]))) (Ss.nil)) _ _ = _
    simp only [ss_cons, s_try, s_ex, v_call, es_cons, v_sl, s1, bind_ok, q1, es_nil, hp, e7, sbind_exc, bind_exc, seq_exc, try_exc, sl]
    rfl
theorem fr_eta {σ : Fr} (s1 : σ[1]? = some (some (.ref 1))) (sl : σ.length = 13) : ∃ a r, σ = fr2 a r := by
  match σ, s1, sl with
  | [], h, _ => simp at h
  | [_], h, _ => simp at h
  | a :: b :: r, h, hl =>
    have hb : b = some (.ref 1) := by simpa using h
    have hr : r.length = 11 := by simpa using hl
    refine ⟨a, r, ?_⟩
    show a :: b :: r = a :: some (.ref 1) :: eta none 11 r
    rw [hb, ← hr, ← eta_eq none r]
theorem behind {n S dd ll m : Nat} (F : Facts n S dd ll (m + 2)) (hm : m = 122 ∨ m = 124) {as : List Int} {σ : Fr} {h : DH} (s1 : σ[1]? = some (some (.ref 1))) (sl : σ.length = 13) (ht : h.take 2 = bx as 3 []) (hl : h.length = n + 2) : ∃ h', evSs (RR 149) (dr 8 b0) σ h = .rt (.bl true) h' := by
  obtain ⟨a, r, rfl⟩ := fr_eta s1 sl
  have hG := bx_take ht
  generalize h.drop 2 = G at hG
  subst hG
  have lG : G.length = n := by
    have : (bx as 3 G).length = G.length + 2 := rfl
    omega
  have eG : bx as 3 G = h2 as n G := by
    show bx as 3 G = bx as 3 (eta o0 n G)
    rw [← lG, ← eta_eq o0 G]
  rw [eG]
  have e8 := nx_of (F.k1 as G a r)
  have k2 := F.k2 as G a r
  simp only [Prod.mk.injEq] at k2
  obtain ⟨g1, g2, g3⟩ := k2
  obtain ⟨h', hl, ht', hl'⟩ := long10 F as G a r
  obtain ⟨h2', h3⟩ := tail (n := m) hm ht' hl' g2 g3
  refine ⟨h2', ?_⟩
  show evSs (RR 149) (.cons s8 (dr 9 b0)) _ _ = _
  rw [ss_cons]
  have e8' : evS (RR 149) s8 (fr2 a r) (h2 as n G) = .nx (frOf (r8 as n G a r)) (hpOf (r8 as n G a r)) := e8
  rw [e8', seq_nx]
  have hc : (ev (RR 149) s9c).t (frOf (r8 as n G a r)) (hpOf (r8 as n G a r)) = .ok false h' := by
    show (ev (RR 149) (.or_ _ (.or_ _ (.or_ _ (.not_ (.call 10 (Es.cons (E.sl 1) (Es.cons (E.sl 11) (Es.nil))))))))).t _ _ = _
    rw [or_assoc]
    show (r9 as n G a r).bind _ = _
    rw [okF_of (F.k3 as G a r)]
    have hl2 : (RR 149).fn 10 [.ref 1, .ref S] (hpO (r9 as n G a r)) = .ok (.bl true) h' := hl
    generalize frOf (r8 as n G a r) = σ8 at *
    generalize hpO (r9 as n G a r) = hb at *
    simp [g1, g2, hl2]
  show evSs (RR 149) (.cons (.ite s9c (Ss.cons (FD.S.ret (E.c (D.bl false))) (Ss.nil)) Ss.nil) (dr 10 b0)) _ _ = _
  rw [ss_cons, s_ite, hc, sbind_ok, if_neg (by decide), ss_nil, seq_nx]
  exact h3
theorem law_ok (ns : List Int) : ∃ h', (runN A.fs A.fuel A.lvl).fn 0 [.fl (ns.map .int)] [] = .ok (.bl true) h' := by
  obtain ⟨as, nm, st, ot, q1, q2, q3, e4⟩ := first4 ns
  obtain ⟨n, hn, eA⟩ := stageA as (.fl (ns.map .int)) q1 q2 q3
  have key : ∃ h', evSs (RR 149) b0 (frame 13 [.fl (ns.map .int)]) [] = .rt (.bl true) h' := by
    rw [ss_split 4, e4, seq_nx, ss_split 4]
    have eA' : pk (evSs (RR 149) (tk 4 (dr 4 b0)) (frA (.fl (ns.map .int)) nm st ot) (bx as 3 gA)) = (13, some (some (.ref 1)), bx as 3 [], n + 2) := eA
    generalize evSs (RR 149) (tk 4 (dr 4 b0)) (frA (.fl (ns.map .int)) nm st ot) (bx as 3 gA) = o at eA'
    cases o with
    | nx σ h =>
      have k : (σ.length, σ[1]?, h.take 2, h.length) = (13, some (some (.ref 1)), bx as 3 [], n + 2) := eA'
      simp only [Prod.mk.injEq] at k
      obtain ⟨k1, k2, k3, k4⟩ := k
      rw [seq_nx]
      show ∃ h', evSs (RR 149) (dr 8 b0) σ h = .rt (.bl true) h'
      rcases hn with rfl | rfl
      · exact behind (m := 122) F1 (.inl rfl) k2 k1 k3 k4
      · exact behind (m := 124) F2 (.inr rfl) k2 k1 k3 k4
    | _ =>
      exfalso
      have k : ((0 : Nat), (none : Option (Option D)), ([] : DH), (0 : Nat)) = (13, some (some (.ref 1)), bx as 3 [], n + 2) := eA'
      cases k
  obtain ⟨h', hk⟩ := key
  refine ⟨h', ?_⟩
  have fe0 : A.fs[0]? = some ⟨13, 1, b0⟩ := rfl
  have hr : (RR (149 + 1)).fn 0 [.fl (ns.map .int)] [] = runD (RR 149) 13 1 b0 [.fl (ns.map .int)] [] := fn_eq fe0
  show (RR (149 + 1)).fn 0 [.fl (ns.map .int)] [] = _
  rw [hr]
  unfold runD
  rw [if_pos (by rfl), hk]
theorem plain (ns : List Int) (h : ns.length ≤ 63) : ∃ h', (runN A.fs A.fuel A.lvl).fn 0 [.fl (ns.map .int)] [] = .ok (.bl true) h' := law_ok ns
end K27

set_option Elab.async false
set_option linter.all false
set_option maxRecDepth 100000
set_option maxHeartbeats 0
namespace K27
open PySem PySem.Spec PyProof.Rows L2 FD
theorem ok0 : DfOk (tblOf fns gs free Xz) f0 A.g0 := ⟨C8.fnScope_by (by kernel_rfl), rfl, rfl, by kernel_rfl⟩
theorem bi0 : BindOk f0 := fun _ _ _ _ _ _ us hl => match us, hl with | [_], _ => rfl
theorem ok1 : DfOk (tblOf fns gs free Xz) f1 A.g1 := ⟨C8.fnScope_by (by kernel_rfl), rfl, rfl, by kernel_rfl⟩
theorem bi1 : BindOk f1 := fun _ _ _ _ _ _ us hl => match us, hl with | [_, _, _], _ => rfl
theorem ok2 : DfOk (tblOf fns gs free Xz) f2 A.g2 := ⟨C8.fnScope_by (by kernel_rfl), rfl, rfl, by kernel_rfl⟩
theorem bi2 : BindOk f2 := fun _ _ _ _ _ _ us hl => match us, hl with | [_, _], _ => rfl
theorem ok3 : DfOk (tblOf fns gs free Xz) f3 A.g3 := ⟨C8.fnScope_by (by kernel_rfl), rfl, rfl, by kernel_rfl⟩
theorem bi3 : BindOk f3 := fun _ _ _ _ _ _ us hl => match us, hl with | [], _ => rfl
theorem ok4 : DfOk (tblOf fns gs free Xz) f4 A.g4 := ⟨C8.fnScope_by (by kernel_rfl), rfl, rfl, by kernel_rfl⟩
theorem bi4 : BindOk f4 := fun _ _ _ _ _ _ us hl => match us, hl with | [_, _, _], _ => rfl
theorem ok5 : DfOk (tblOf fns gs free Xz) f5 A.g5 := ⟨C8.fnScope_by (by kernel_rfl), rfl, rfl, by kernel_rfl⟩
theorem bi5 : BindOk f5 := fun _ _ _ _ _ _ us hl => match us, hl with | [_, _], _ => rfl
theorem ok6 : DfOk (tblOf fns gs free Xz) f6 A.g6 := ⟨C8.fnScope_by (by kernel_rfl), rfl, rfl, by kernel_rfl⟩
theorem bi6 : BindOk f6 := fun _ _ _ _ _ _ us hl => match us, hl with | [_, _, _], _ => rfl
theorem ok7 : DfOk (tblOf fns gs free Xz) f7 A.g7 := ⟨C8.fnScope_by (by kernel_rfl), rfl, rfl, by kernel_rfl⟩
theorem bi7 : BindOk f7 := fun _ _ _ _ _ _ us hl => match us, hl with | [_], _ => rfl
theorem ok8 : DfOk (tblOf fns gs free Xz) f8 A.g8 := ⟨C8.fnScope_by (by kernel_rfl), rfl, rfl, by kernel_rfl⟩
theorem bi8 : BindOk f8 := fun _ _ _ _ _ _ us hl => match us, hl with | [_, _, _], _ => rfl
theorem ok9 : DfOk (tblOf fns gs free Xz) f9 A.g9 := ⟨C8.fnScope_by (by kernel_rfl), rfl, rfl, by kernel_rfl⟩
theorem bi9 : BindOk f9 := fun _ _ _ _ _ _ us hl => match us, hl with | [_], _ => rfl
theorem ok10 : DfOk (tblOf fns gs free Xz) f10 A.g10 := ⟨C8.fnScope_by (by kernel_rfl), rfl, rfl, by kernel_rfl⟩
theorem bi10 : BindOk f10 := fun _ _ _ _ _ _ us hl => match us, hl with | [_, _], _ => rfl
theorem ok11 : DfOk (tblOf fns gs free Xz) f11 A.g11 := ⟨C8.fnScope_by (by kernel_rfl), rfl, rfl, by kernel_rfl⟩
theorem bi11 : BindOk f11 := fun _ _ _ _ _ _ us hl => match us, hl with | [_, _], _ => rfl
theorem ok12 : DfOk (tblOf fns gs free Xz) f12 A.g12 := ⟨C8.fnScope_by (by kernel_rfl), rfl, rfl, by kernel_rfl⟩
theorem bi12 : BindOk f12 := fun _ _ _ _ _ _ us hl => match us, hl with | [_, _], _ => rfl
theorem ok13 : DfOk (tblOf fns gs free Xz) f13 A.g13 := ⟨C8.fnScope_by (by kernel_rfl), rfl, rfl, by kernel_rfl⟩
theorem bi13 : BindOk f13 := fun _ _ _ _ _ _ us hl => match us, hl with | [_], _ => rfl
theorem ok14 : DfOk (tblOf fns gs free Xz) f14 A.g14 := ⟨C8.fnScope_by (by kernel_rfl), rfl, rfl, by kernel_rfl⟩
theorem bi14 : BindOk f14 := fun _ _ _ _ _ _ us hl => match us, hl with | [_, _, _], _ => rfl
theorem ok15 : DfOk (tblOf fns gs free Xz) f15 A.g15 := ⟨C8.fnScope_by (by kernel_rfl), rfl, rfl, by kernel_rfl⟩
theorem bi15 : BindOk f15 := fun _ _ _ _ _ _ us hl => match us, hl with | [_, _, _], _ => rfl
theorem ok16 : DfOk (tblOf fns gs free Xz) f16 A.g16 := ⟨C8.fnScope_by (by kernel_rfl), rfl, rfl, by kernel_rfl⟩
theorem bi16 : BindOk f16 := fun _ _ _ _ _ _ us hl => match us, hl with | [_], _ => rfl
theorem ok17 : DfOk (tblOf fns gs free Xz) f17 A.g17 := ⟨C8.fnScope_by (by kernel_rfl), rfl, rfl, by kernel_rfl⟩
theorem bi17 : BindOk f17 := fun _ _ _ _ _ _ us hl => match us, hl with | [_], _ => rfl
theorem ok18 : DfOk (tblOf fns gs free Xz) f18 A.g18 := ⟨C8.fnScope_by (by kernel_rfl), rfl, rfl, by kernel_rfl⟩
theorem bi18 : BindOk f18 := fun _ _ _ _ _ _ us hl => match us, hl with | [_, _], _ => rfl
theorem ok19 : DfOk (tblOf fns gs free Xz) f19 A.g19 := ⟨C8.fnScope_by (by kernel_rfl), rfl, rfl, by kernel_rfl⟩
theorem bi19 : BindOk f19 := fun _ _ _ _ _ _ us hl => match us, hl with | [_], _ => rfl
theorem ok20 : DfOk (tblOf fns gs free Xz) f20 A.g20 := ⟨C8.fnScope_by (by kernel_rfl), rfl, rfl, by kernel_rfl⟩
theorem bi20 : BindOk f20 := fun _ _ _ _ _ _ us hl => match us, hl with | [_, _, _], _ => rfl
theorem ok21 : DfOk (tblOf fns gs free Xz) f21 A.g21 := ⟨C8.fnScope_by (by kernel_rfl), rfl, rfl, by kernel_rfl⟩
theorem bi21 : BindOk f21 := fun _ _ _ _ _ _ us hl => match us, hl with | [_], _ => rfl
theorem ok22 : DfOk (tblOf fns gs free Xz) f22 A.g22 := ⟨C8.fnScope_by (by kernel_rfl), rfl, rfl, by kernel_rfl⟩
theorem bi22 : BindOk f22 := fun _ _ _ _ _ _ us hl => match us, hl with | [_], _ => rfl
theorem ok23 : DfOk (tblOf fns gs free Xz) f23 A.g23 := ⟨C8.fnScope_by (by kernel_rfl), rfl, rfl, by kernel_rfl⟩
theorem bi23 : BindOk f23 := fun _ _ _ _ _ _ us hl => match us, hl with | [_], _ => rfl
theorem ok24 : DfOk (tblOf fns gs free Xz) f24 A.g24 := ⟨C8.fnScope_by (by kernel_rfl), rfl, rfl, by kernel_rfl⟩
theorem bi24 : BindOk f24 := fun _ _ _ _ _ _ us hl => match us, hl with | [_], _ => rfl
theorem ok25 : DfOk (tblOf fns gs free Xz) f25 A.g25 := ⟨C8.fnScope_by (by kernel_rfl), rfl, rfl, by kernel_rfl⟩
theorem bi25 : BindOk f25 := fun _ _ _ _ _ _ us hl => match us, hl with | [_, _, _], _ => rfl
theorem ok26 : DfOk (tblOf fns gs free Xz) f26 A.g26 := ⟨C8.fnScope_by (by kernel_rfl), rfl, rfl, by kernel_rfl⟩
theorem bi26 : BindOk f26 := fun _ _ _ _ _ _ us hl => match us, hl with | [_], _ => rfl
theorem ok27 : DfOk (tblOf fns gs free Xz) f27 A.g27 := ⟨C8.fnScope_by (by kernel_rfl), rfl, rfl, by kernel_rfl⟩
theorem bi27 : BindOk f27 := fun _ _ _ _ _ _ us hl => match us, hl with | [_, _], _ => rfl
theorem ok28 : DfOk (tblOf fns gs free Xz) f28 A.g28 := ⟨C8.fnScope_by (by kernel_rfl), rfl, rfl, by kernel_rfl⟩
theorem bi28 : BindOk f28 := fun _ _ _ _ _ _ us hl => match us, hl with | [_, _], _ => rfl
theorem ok29 : DfOk (tblOf fns gs free Xz) f29 A.g29 := ⟨C8.fnScope_by (by kernel_rfl), rfl, rfl, by kernel_rfl⟩
theorem bi29 : BindOk f29 := fun _ _ _ _ _ _ us hl => match us, hl with | [_], _ => rfl
theorem ok30 : DfOk (tblOf fns gs free Xz) f30 A.g30 := ⟨C8.fnScope_by (by kernel_rfl), rfl, rfl, by kernel_rfl⟩
theorem bi30 : BindOk f30 := fun _ _ _ _ _ _ us hl => match us, hl with | [_, _, _], _ => rfl
theorem ok31 : DfOk (tblOf fns gs free Xz) f31 A.g31 := ⟨C8.fnScope_by (by kernel_rfl), rfl, rfl, by kernel_rfl⟩
theorem bi31 : BindOk f31 := fun _ _ _ _ _ _ us hl => match us, hl with | [_], _ => rfl
theorem ok32 : DfOk (tblOf fns gs free Xz) f32 A.g32 := ⟨C8.fnScope_by (by kernel_rfl), rfl, rfl, by kernel_rfl⟩
theorem bi32 : BindOk f32 := fun _ _ _ _ _ _ us hl => match us, hl with | [_], _ => rfl
theorem ok33 : DfOk (tblOf fns gs free Xz) f33 A.g33 := ⟨C8.fnScope_by (by kernel_rfl), rfl, rfl, by kernel_rfl⟩
theorem bi33 : BindOk f33 := fun _ _ _ _ _ _ us hl => match us, hl with | [_, _], _ => rfl
theorem ok34 : DfOk (tblOf fns gs free Xz) f34 A.g34 := ⟨C8.fnScope_by (by kernel_rfl), rfl, rfl, by kernel_rfl⟩
theorem bi34 : BindOk f34 := fun _ _ _ _ _ _ us hl => match us, hl with | [_, _, _], _ => rfl
theorem ok35 : DfOk (tblOf fns gs free Xz) f35 A.g35 := ⟨C8.fnScope_by (by kernel_rfl), rfl, rfl, by kernel_rfl⟩
theorem bi35 : BindOk f35 := fun _ _ _ _ _ _ us hl => match us, hl with | [_, _], _ => rfl
theorem ok36 : DfOk (tblOf fns gs free Xz) f36 A.g36 := ⟨C8.fnScope_by (by kernel_rfl), rfl, rfl, by kernel_rfl⟩
theorem bi36 : BindOk f36 := fun _ _ _ _ _ _ us hl => match us, hl with | [_], _ => rfl
theorem ok37 : DfOk (tblOf fns gs free Xz) f37 A.g37 := ⟨C8.fnScope_by (by kernel_rfl), rfl, rfl, by kernel_rfl⟩
theorem bi37 : BindOk f37 := fun _ _ _ _ _ _ us hl => match us, hl with | [_, _], _ => rfl
theorem ok38 : DfOk (tblOf fns gs free Xz) f38 A.g38 := ⟨C8.fnScope_by (by kernel_rfl), rfl, rfl, by kernel_rfl⟩
theorem bi38 : BindOk f38 := fun _ _ _ _ _ _ us hl => match us, hl with | [_], _ => rfl
theorem ok39 : DfOk (tblOf fns gs free Xz) f39 A.g39 := ⟨C8.fnScope_by (by kernel_rfl), rfl, rfl, by kernel_rfl⟩
theorem bi39 : BindOk f39 := fun _ _ _ _ _ _ us hl => match us, hl with | [_], _ => rfl
theorem ok40 : DfOk (tblOf fns gs free Xz) f40 A.g40 := ⟨C8.fnScope_by (by kernel_rfl), rfl, rfl, by kernel_rfl⟩
theorem bi40 : BindOk f40 := fun _ _ _ _ _ _ us hl => match us, hl with | [_], _ => rfl
theorem ok41 : DfOk (tblOf fns gs free Xz) f41 A.g41 := ⟨C8.fnScope_by (by kernel_rfl), rfl, rfl, by kernel_rfl⟩
theorem bi41 : BindOk f41 := fun _ _ _ _ _ _ us hl => match us, hl with | [_], _ => rfl
theorem ok42 : DfOk (tblOf fns gs free Xz) f42 A.g42 := ⟨C8.fnScope_by (by kernel_rfl), rfl, rfl, by kernel_rfl⟩
theorem bi42 : BindOk f42 := fun _ _ _ _ _ _ us hl => match us, hl with | [_, _, _], _ => rfl
theorem ok43 : DfOk (tblOf fns gs free Xz) f43 A.g43 := ⟨C8.fnScope_by (by kernel_rfl), rfl, rfl, by kernel_rfl⟩
theorem bi43 : BindOk f43 := fun _ _ _ _ _ _ us hl => match us, hl with | [_, _], _ => rfl
theorem ok44 : DfOk (tblOf fns gs free Xz) f44 A.g44 := ⟨C8.fnScope_by (by kernel_rfl), rfl, rfl, by kernel_rfl⟩
theorem bi44 : BindOk f44 := fun _ _ _ _ _ _ us hl => match us, hl with | [_, _], _ => rfl
theorem ok45 : DfOk (tblOf fns gs free Xz) f45 A.g45 := ⟨C8.fnScope_by (by kernel_rfl), rfl, rfl, by kernel_rfl⟩
theorem bi45 : BindOk f45 := fun _ _ _ _ _ _ us hl => match us, hl with | [_, _], _ => rfl
theorem ok46 : DfOk (tblOf fns gs free Xz) f46 A.g46 := ⟨C8.fnScope_by (by kernel_rfl), rfl, rfl, by kernel_rfl⟩
theorem bi46 : BindOk f46 := fun _ _ _ _ _ _ us hl => match us, hl with | [_, _], _ => rfl
theorem ok47 : DfOk (tblOf fns gs free Xz) f47 A.g47 := ⟨C8.fnScope_by (by kernel_rfl), rfl, rfl, by kernel_rfl⟩
theorem bi47 : BindOk f47 := fun _ _ _ _ _ _ us hl => match us, hl with | [_, _, _], _ => rfl
theorem ok48 : DfOk (tblOf fns gs free Xz) f48 A.g48 := ⟨C8.fnScope_by (by kernel_rfl), rfl, rfl, by kernel_rfl⟩
theorem bi48 : BindOk f48 := fun _ _ _ _ _ _ us hl => match us, hl with | [_, _], _ => rfl
theorem ok49 : DfOk (tblOf fns gs free Xz) f49 A.g49 := ⟨C8.fnScope_by (by kernel_rfl), rfl, rfl, by kernel_rfl⟩
theorem bi49 : BindOk f49 := fun _ _ _ _ _ _ us hl => match us, hl with | [_], _ => rfl
theorem ok50 : DfOk (tblOf fns gs free Xz) f50 A.g50 := ⟨C8.fnScope_by (by kernel_rfl), rfl, rfl, by kernel_rfl⟩
theorem bi50 : BindOk f50 := fun _ _ _ _ _ _ us hl => match us, hl with | [_, _, _], _ => rfl
theorem ok51 : DfOk (tblOf fns gs free Xz) f51 A.g51 := ⟨C8.fnScope_by (by kernel_rfl), rfl, rfl, by kernel_rfl⟩
theorem bi51 : BindOk f51 := fun _ _ _ _ _ _ us hl => match us, hl with | [_], _ => rfl
theorem ok52 : DfOk (tblOf fns gs free Xz) f52 A.g52 := ⟨C8.fnScope_by (by kernel_rfl), rfl, rfl, by kernel_rfl⟩
theorem bi52 : BindOk f52 := fun _ _ _ _ _ _ us hl => match us, hl with | [_], _ => rfl
theorem oks : Oks (tblOf fns gs free Xz) ds A.fs := .cons ok0 (.cons ok1 (.cons ok2 (.cons ok3 (.cons ok4 (.cons ok5 (.cons ok6 (.cons ok7 (.cons ok8 (.cons ok9 (.cons ok10 (.cons ok11 (.cons ok12 (.cons ok13 (.cons ok14 (.cons ok15 (.cons ok16 (.cons ok17 (.cons ok18 (.cons ok19 (.cons ok20 (.cons ok21 (.cons ok22 (.cons ok23 (.cons ok24 (.cons ok25 (.cons ok26 (.cons ok27 (.cons ok28 (.cons ok29 (.cons ok30 (.cons ok31 (.cons ok32 (.cons ok33 (.cons ok34 (.cons ok35 (.cons ok36 (.cons ok37 (.cons ok38 (.cons ok39 (.cons ok40 (.cons ok41 (.cons ok42 (.cons ok43 (.cons ok44 (.cons ok45 (.cons ok46 (.cons ok47 (.cons ok48 (.cons ok49 (.cons ok50 (.cons ok51 (.cons ok52 (.nil)))))))))))))))))))))))))))))))))))))))))))))))))))))
theorem binds : ∀ d ∈ ds, BindOk d := List.forall_mem_cons.mpr ⟨bi0, List.forall_mem_cons.mpr ⟨bi1, List.forall_mem_cons.mpr ⟨bi2, List.forall_mem_cons.mpr ⟨bi3, List.forall_mem_cons.mpr ⟨bi4, List.forall_mem_cons.mpr ⟨bi5, List.forall_mem_cons.mpr ⟨bi6, List.forall_mem_cons.mpr ⟨bi7, List.forall_mem_cons.mpr ⟨bi8, List.forall_mem_cons.mpr ⟨bi9, List.forall_mem_cons.mpr ⟨bi10, List.forall_mem_cons.mpr ⟨bi11, List.forall_mem_cons.mpr ⟨bi12, List.forall_mem_cons.mpr ⟨bi13, List.forall_mem_cons.mpr ⟨bi14, List.forall_mem_cons.mpr ⟨bi15, List.forall_mem_cons.mpr ⟨bi16, List.forall_mem_cons.mpr ⟨bi17, List.forall_mem_cons.mpr ⟨bi18, List.forall_mem_cons.mpr ⟨bi19, List.forall_mem_cons.mpr ⟨bi20, List.forall_mem_cons.mpr ⟨bi21, List.forall_mem_cons.mpr ⟨bi22, List.forall_mem_cons.mpr ⟨bi23, List.forall_mem_cons.mpr ⟨bi24, List.forall_mem_cons.mpr ⟨bi25, List.forall_mem_cons.mpr ⟨bi26, List.forall_mem_cons.mpr ⟨bi27, List.forall_mem_cons.mpr ⟨bi28, List.forall_mem_cons.mpr ⟨bi29, List.forall_mem_cons.mpr ⟨bi30, List.forall_mem_cons.mpr ⟨bi31, List.forall_mem_cons.mpr ⟨bi32, List.forall_mem_cons.mpr ⟨bi33, List.forall_mem_cons.mpr ⟨bi34, List.forall_mem_cons.mpr ⟨bi35, List.forall_mem_cons.mpr ⟨bi36, List.forall_mem_cons.mpr ⟨bi37, List.forall_mem_cons.mpr ⟨bi38, List.forall_mem_cons.mpr ⟨bi39, List.forall_mem_cons.mpr ⟨bi40, List.forall_mem_cons.mpr ⟨bi41, List.forall_mem_cons.mpr ⟨bi42, List.forall_mem_cons.mpr ⟨bi43, List.forall_mem_cons.mpr ⟨bi44, List.forall_mem_cons.mpr ⟨bi45, List.forall_mem_cons.mpr ⟨bi46, List.forall_mem_cons.mpr ⟨bi47, List.forall_mem_cons.mpr ⟨bi48, List.forall_mem_cons.mpr ⟨bi49, List.forall_mem_cons.mpr ⟨bi50, List.forall_mem_cons.mpr ⟨bi51, List.forall_mem_cons.mpr ⟨bi52, (fun d hd => by cases hd)⟩⟩⟩⟩⟩⟩⟩⟩⟩⟩⟩⟩⟩⟩⟩⟩⟩⟩⟩⟩⟩⟩⟩⟩⟩⟩⟩⟩⟩⟩⟩⟩⟩⟩⟩⟩⟩⟩⟩⟩⟩⟩⟩⟩⟩⟩⟩⟩⟩⟩⟩⟩⟩
theorem ix0 : IniOk (PySem.W.OpenLaw.row PySem.Challenge.rw_flathold_k27_shops_bounds).prog x0 := fun w K mg base C f fd cc cdv I h1 h2 => ⟨["self", "reason"], ini_reason I (iniS_by (by kernel_rfl)) rfl rfl h2 ⟨_, fun _ => rfl⟩, ini_binds I fun _ _ _ _ _ _ us hl => match us, hl with | [_, _], _ => rfl⟩
theorem ix1 : IniOk (PySem.W.OpenLaw.row PySem.Challenge.rw_flathold_k27_shops_bounds).prog x1 := fun w K mg base C f fd cc cdv I h1 h2 => ⟨["self", "reason"], ini_reason I (iniS_by (by kernel_rfl)) rfl rfl h2 ⟨_, fun _ => rfl⟩, ini_binds I fun _ _ _ _ _ _ us hl => match us, hl with | [_, _], _ => rfl⟩
theorem ix2 : IniOk (PySem.W.OpenLaw.row PySem.Challenge.rw_flathold_k27_shops_bounds).prog x2 := fun w K mg base C f fd cc cdv I h1 h2 => ⟨["self", "place"], ini_place I (iniS_by (by kernel_rfl)) rfl rfl h1 ⟨_, fun _ => rfl⟩, ini_binds I fun _ _ _ _ _ _ us hl => match us, hl with | [_, _], _ => rfl⟩
theorem inis : ∀ x ∈ Xz.xs, IniOk (PySem.W.OpenLaw.row PySem.Challenge.rw_flathold_k27_shops_bounds).prog x := List.forall_mem_cons.mpr ⟨ix0, List.forall_mem_cons.mpr ⟨ix1, List.forall_mem_cons.mpr ⟨ix2, (fun d hd => by cases hd)⟩⟩⟩
end K27
open PySem PySem.W PySem.Calls PyProof.Rows FD
theorem PySem.Challenge.cw_flathold_k27_shops_bounds_holds : PySem.Challenge.rw_flathold_k27_shops_bounds.Holds := by
  w_on; o_law
  refine HandSHeadRun.head_imp (r := OpenLaw.row PySem.Challenge.rw_flathold_k27_shops_bounds) (q := view (OpenLaw.row PySem.Challenge.rw_flathold_k27_shops_bounds).prog [0, 165]) (H := K27.hk) (ob := K27.ob) (M := 40000) (loose := K27.loose) (d := HandSHeadRun.topDef (OpenLaw.row PySem.Challenge.rw_flathold_k27_shops_bounds).prog 165) (kwd := []) K27.ob_eq
    K27.run (by kernel_rfl) (by kernel_rfl) (by kernel_rfl) (by rfl) (by first | assumption | decide +kernel) (by decide +kernel) ⟨rfl, rfl, rfl, rfl, rfl, by decide +kernel⟩ ?hw ?hc
  case hw => w_witness2
  case hc =>
    refine L2.walk_ofE (l := PySem.Challenge.rw_flathold_k27_shops_bounds) (n := 63) (k := K27.A.lvl) (x := "script") (CX := FD.CXn) rfl (by decide) (by kernel_rfl) ⟨rfl, by decide, by decide⟩ ?F (fun _ _ _ _ z => z)
    intro w mg fa h Y G hmg0
    obtain ⟨K, KX, c⟩ := Y
    have hmg : mg ("law" : PySem.Str) = some (.ref fa) := by
      have e : (HandSHeadRun.topDef (OpenLaw.row PySem.Challenge.rw_flathold_k27_shops_bounds).prog 165).name = ("law" : PySem.Str) := by kernel_rfl
      rw [← e]
      exact hmg0
    obtain ⟨fd, hb, hF⟩ := FD.facts_ok (P := (PySem.Challenge.rw_flathold_k27_shops_bounds).prog) (w := w) (fuel := K27.A.fuel) (k := K27.A.lvl) K27.oks K27.binds (by kernel_rfl) (by kernel_rfl) (by kernel_rfl) K27.inis (fun _ => rfl) (by kernel_rfl) K27.lawD rfl rfl rfl KX G hmg c
    exact ⟨K, fd, _, KX, hb, fun H a ns hl hO hS => law_sp hO hS (K27.plain ns hl), fun base hK hN => noX (hF base hK hN)⟩

