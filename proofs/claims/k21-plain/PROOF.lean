import PyProof.Rows.All
import Wide.All
import OpenK.AllK
import Wide.FinOn
import HandS.ForMost
import HandS.Exc
import HandS.TryOnly
import HandS.WordsExc
import HandS.IsInst
import HandS.StrMore
import HandS.ReplaceLit
import HandS.ReplaceList
import HandS.Style
import HandS.Flow
import HandS.TupLe
import HandS.Codes
import HandS.Steps
import KE.IntTextLaws
import HandS.CallSlots
import HandS.Defaults
import KE.KStateDown
import HandS.Ends
import HandS.More
import HandS.Words
import HandS.Head0
import HandS.Head1
import HandS.Head2
import HandS.HeadEnd
import HandS.HeadHook1
import HandS.HeadHook2
import PySem.Challenge.RW_flathold_k21_plain_there_and_back
set_option autoImplicit false
/-! The D layer, 1: a small language of my own, its values, its heap, its evaluator. Plain Lean. -/
namespace FD

/-- values: tuples by content, all that may change by its place in the heap -/
inductive D where
  | non | bl (b : Bool) | int (i : Int) | str (s : List Nat) | tup (xs : List D) | ref (n : Nat)
  /-- a list that is never changed (the script), by content -/
  | fl (xs : List D)
  deriving Inhabited
/-- what stands in the heap -/
inductive O where
  | lst (xs : List D) | dic (kvs : List (D × D))
  deriving Inhabited
abbrev DH := List O
abbrev Fr := List (Option D)
inductive Out (α : Type) where
  | ok (a : α) (h : DH) | exc (c : Nat) (fs : List (List Nat × D)) (h : DH) | bad
def Out.bind {α β : Type} (o : Out α) (f : α → DH → Out β) : Out β := match o with
  | .ok a h => f a h
  | .exc c fs h => .exc c fs h
  | .bad => .bad
/-- no exception is let through -/
def Out.noexc {α : Type} : Out α → Out α
  | .exc _ _ _ => .bad
  | o => o
def Out.opt {α : Type} (o : Option α) (h : DH) : Out α := match o with
  | some a => .ok a h
  | none => .bad
inductive SO where
  | nx (σ : Fr) (h : DH) | rt (d : D) (h : DH) | brk (σ : Fr) (h : DH) | cnt (σ : Fr) (h : DH) | exc (c : Nat) (fs : List (List Nat × D)) (σ : Fr) (h : DH) | bad
def Out.sbind {α : Type} (o : Out α) (σ : Fr) (f : α → DH → SO) : SO := match o with
  | .ok a h => f a h
  | .exc c fs h => .exc c fs σ h
  | .bad => .bad
def SL : Nat := 16777216

/-! ### values -/
mutual
def D.eqv : D → D → Bool
  | .non, .non => true
  | .bl a, .bl b => a == b
  | .bl a, .int j => (if a then 1 else 0) == j
  | .int i, .bl b => i == (if b then 1 else 0)
  | .int i, .int j => i == j
  | .str x, .str y => x == y
  | .tup xs, .tup ys => D.eqvs xs ys
  | _, _ => false
def D.eqvs : List D → List D → Bool
  | [], [] => true
  | x :: xs, y :: ys => D.eqv x y && D.eqvs xs ys
  | _, _ => false
end
mutual
/-- no reference in it; texts of right signs; at most n tuples one in another -/
def D.shp : Nat → D → Bool
  | _, .non | _, .bl _ | _, .int _ => true
  | _, .str s => s.all (· < 0x110000)
  | 0, .tup _ => false
  | n + 1, .tup xs => D.shps n xs
  | _, .ref _ | _, .fl _ => false
def D.shps : Nat → List D → Bool
  | _, [] => true
  | n, x :: xs => D.shp n x && D.shps n xs
end
mutual
/-- all references are below n -/
def D.blw (n : Nat) : D → Bool
  | .non | .bl _ | .int _ | .str _ => true
  | .tup xs | .fl xs => D.blws n xs
  | .ref k => decide (k < n)
def D.blws (n : Nat) : List D → Bool
  | [] => true
  | x :: xs => D.blw n x && D.blws n xs
end
def O.blw (n : Nat) : O → Bool
  | .lst xs => D.blws n xs
  | .dic kvs => D.blws n (kvs.map (·.1)) && D.blws n (kvs.map (·.2))
def D.flat : D → Bool
  | .non | .bl _ | .int _ | .str _ => true
  | _ => false
/-- the scalars that == tells apart by being the same -/
def D.scal : D → D → Bool
  | .non, .non | .non, .int _ | .int _, .non | .non, .bl _ | .bl _, .non | .non, .str _ | .str _, .non => true
  | .int _, .int _ | .bl _, .bl _ | .str _, .str _ | .int _, .str _ | .str _, .int _ | .bl _, .str _ | .str _, .bl _ => true
  | _, _ => false

/-! ### the language -/
inductive BOp where | add | sub | mul | fdiv | mod | pow
  deriving DecidableEq
inductive COp where | eq | ne | lt | le | gt | ge | in_ | nin
  deriving DecidableEq
inductive Ty where | int | str | tuple | bool | list
  deriving DecidableEq
/-- what `is` asks for -/
inductive Si where | non | tr | fl
  deriving DecidableEq
inductive Bi where | len | int | str | tuple
  deriving DecidableEq
/-- of a fresh list -/
inductive Bl where | tuple | len | all | any
  deriving DecidableEq
inductive Mt where | append | find2 | find3 | join
  deriving DecidableEq
inductive Ml where | join
  deriving DecidableEq

mutual
inductive E where
  | sl (i : Nat) | c (d : D)
  | bin (o : BOp) (a b : E)
  | neg (a : E)
  | cmp (o : COp) (a b : E)
  | is_ (pos : Bool) (a : E) (s : Si)
  | and_ (a b : E) | or_ (a b : E) | not_ (a : E) | ite (t a b : E)
  | tup (es : Es) | ofL (l : L)
  | ix (a b : E) | ixL (l : L) (b : E)
  | sli (a : E) (lo hi : Oe)
  | call (f : Nat) (es : Es)
  | isi (a : E) (t : Ty)
  | bi (b : Bi) (a : E) | biL (b : Bl) (l : L)
  | mt (m : Mt) (o : E) (es : Es) | mtL (m : Ml) (o : E) (l : L)
  | repl (c : List Nat) (o : E) (ps : List (Nat × List Nat))
inductive L where
  | disp (es : Es)
  | comp (elt : E) (vs : List Nat) (tg : T) (it : It) (cond : Oe)
inductive It where
  | e (a : E) | l (l : L) | r1 (a : E) | r2 (a b : E)
inductive T where
  | sl (i : Nat) | tup (ts : Ts) | sub (a b : E)
inductive Ts where | nil | cons (t : T) (ts : Ts)
inductive Es where | nil | cons (e : E) (es : Es)
inductive Oe where | none | some (e : E)
end
mutual
inductive S where
  | asg (t : T) (e : E) | aug (i : Nat) (o : BOp) (e : E) | ex (e : E) | ret (e : E) | retN
  | ite (t : E) (a b : Ss) | whl (t : E) (b : Ss) | fr (t : T) (it : It) (b : Ss)
  | brk | cnt | pass | never
inductive Ss where | nil | cons (s : S) (ss : Ss)
end

/-! ### operations on values -/
def sIx (n d : Nat) : Option Int → Nat
  | none => d
  | some v => if v < 0 then (v + (n : Int)).toNat else min v.toNat n
def cut {α : Type} (xs : List α) (lo hi : Option Int) : List α := (xs.drop (sIx xs.length 0 lo)).take (sIx xs.length xs.length hi - sIx xs.length 0 lo)
def ixN (n : Nat) (i : Int) : Option Nat := if 0 ≤ i then (if i < n then some i.toNat else none) else if -(n : Int) ≤ i then some (i + n).toNat else none
def atI {α : Type} (xs : List α) (i : Int) : Option α := (ixN xs.length i).bind fun j => xs[j]?
def lget (h : DH) (n : Nat) : Option (List D) := match h[n]? with
  | some (.lst xs) => some xs
  | _ => none
def big : Int := 18446744073709551616
def binD (h : DH) : BOp → D → D → Out D
  | .add, .int i, .int j => .ok (.int (i + j)) h
  | .add, .str a, .str b => if a.length + b.length ≤ SL then .ok (.str (a ++ b)) h else .bad
  | .add, .ref n, .ref m => match lget h n, lget h m with
    | some a, some b => if a.length + b.length ≤ SL then .ok (.ref h.length) (h ++ [.lst (a ++ b)]) else .bad
    | _, _ => .bad
  | .sub, .int i, .int j => .ok (.int (i - j)) h
  | .mul, .int i, .int j => if (-big < i ∧ i < big) ∨ (-big < j ∧ j < big) then .ok (.int (i * j)) h else .bad
  | .fdiv, .int i, .int j => if j ≠ 0 ∧ j.natAbs < 1073741824 then .ok (.int (i.fdiv j)) h else .bad
  | .mod, .int i, .int j => if j ≠ 0 then .ok (.int (i.fmod j)) h else .bad
  | .pow, .int i, .int j => if 0 ≤ j ∧ j ≤ 1000000 ∧ i.natAbs < 18446744073709551616 then .ok (.int (i ^ j.toNat)) h else .bad
  | _, _, _ => .bad
/-- name op= value -/
def augD (h : DH) : BOp → D → D → Out D
  | .add, .int i, .int j => .ok (.int (i + j)) h
  | .sub, .int i, .int j => .ok (.int (i - j)) h
  | .add, .str a, .str b => if a.length + b.length ≤ SL then .ok (.str (a ++ b)) h else .bad
  | _, _, _ => .bad
def ltS (a b : List Nat) : Bool := decide (a < b)
/-- == -/
def eqD (h : DH) (x y : D) : Option Bool := match x, y with
  | .ref n, .ref m => match h[n]?, h[m]? with
    | some (.lst a), some (.lst b) => if D.shps 63 a && D.shps 63 b then some (D.eqvs a b) else none
    | _, _ => none
  | .ref _, _ | _, .ref _ => none
  | x, y => if D.scal x y || (D.shp 64 x && D.shp 64 y) then some (D.eqv x y) else none
def inD (h : DH) (x y : D) : Option Bool := match x, y with
  | .str [], .str _ => some true
  | .str [c], .str s => some (s.contains c)
  | x, .tup ys => if x.flat && ys.all D.flat then some (ys.any fun y => D.eqv y x) else none
  | x, .ref n => match lget h n with
    | some ys => if x.flat && ys.all D.flat then some (ys.any fun y => D.eqv y x) else none
    | none => none
  | _, _ => none
def cmpD (h : DH) : COp → D → D → Option Bool
  | .eq, x, y => eqD h x y
  | .ne, x, y => (eqD h x y).map (!·)
  | .lt, .int i, .int j => some (decide (i < j))
  | .le, .int i, .int j => some (decide (i ≤ j))
  | .gt, .int i, .int j => some (decide (j < i))
  | .ge, .int i, .int j => some (decide (j ≤ i))
  | .lt, .str a, .str b => some (ltS a b)
  | .le, .str a, .str b => some (!ltS b a)
  | .gt, .str a, .str b => some (ltS b a)
  | .ge, .str a, .str b => some (!ltS a b)
  | .in_, x, y => inD h x y
  | .nin, x, y => (inD h x y).map (!·)
  | _, _, _ => none
def isD (x : D) : Si → Bool
  | .non => match x with | .non => true | _ => false
  | .tr => match x with | .bl true => true | _ => false
  | .fl => match x with | .bl false => true | _ => false
def truD (h : DH) : D → Option Bool
  | .non => some false
  | .bl b => some b
  | .int i => some (i != 0)
  | .str s => if s.length ≤ SL then some (!s.isEmpty) else none
  | .tup xs => some (!xs.isEmpty)
  | .ref n => match h[n]? with
    | some (.lst xs) => some (!xs.isEmpty)
    | _ => none
  | .fl _ => none
def ixD (h : DH) (x i : D) : Option D := match x, i with
  | .tup xs, .int i | .fl xs, .int i => atI xs i
  | .str s, .int i => if s.length ≤ SL then (atI s i).map fun c => .str [c] else none
  | .ref n, .int i => (lget h n).bind fun xs => atI xs i
  | _, _ => none
def sliD (h : DH) (x : D) (l u : Option Int) : Out D := match x with
  | .str s => if s.length ≤ SL then .ok (.str (cut s l u)) h else .bad
  | .ref n => match h[n]? with
    | some (.lst xs) => .ok (.ref h.length) (h ++ [.lst (cut xs l u)])
    | _ => .bad
  | _ => .bad
def digit? (c : Nat) : Option Nat := if 48 ≤ c ∧ c ≤ 57 then some (c - 48) else none
def natOf : Nat → List Nat → Option Nat
  | acc, [] => some acc
  | acc, c :: r => match digit? c with
    | some k => natOf (acc * 10 + k) r
    | none => none
/-- digits, or a minus and digits -/
def intOf : List Nat → Option Int
  | [] => none
  | 45 :: r => if r = [] then none else (natOf 0 r).map fun (n : Nat) => -(n : Int)
  | l => (natOf 0 l).map fun (n : Nat) => (n : Int)
def strOf (i : Int) : List Nat := (toString i).toList.map Char.toNat
def biD (h : DH) : Bi → D → Option D
  | .len, .str s => if s.length ≤ SL then some (.int s.length) else none
  | .len, .tup xs | .len, .fl xs => some (.int xs.length)
  | .len, .ref n => match lget h n with
    | some xs => some (.int xs.length)
    | none => none
  | .int, .int i => some (.int i)
  | .int, .bl b => some (.int (if b then 1 else 0))
  | .int, .str s => if s.length ≤ 640 then (intOf s).map .int else none
  | .str, .int i => if i.natAbs.log2 < 1920 then some (.str (strOf i)) else none
  | .tuple, .tup xs => some (.tup xs)
  | .tuple, .ref n => (lget h n).map .tup
  | _, _ => none
def boolsOf : List D → Option (List Bool)
  | [] => some []
  | .bl b :: r => (boolsOf r).map (b :: ·)
  | _ => none
def blD : Bl → List D → Option D
  | .tuple, xs => some (.tup xs)
  | .len, xs => some (.int xs.length)
  | .all, xs => (boolsOf xs).map fun bs => .bl (bs.all id)
  | .any, xs => (boolsOf xs).map fun bs => .bl (bs.any id)
def isiD (h : DH) (x : D) (t : Ty) : Option Bool := match x with
  | .non => some false
  | .bl _ => some (t = .int ∨ t = .bool)
  | .int _ => some (t = .int)
  | .str _ => some (t = .str)
  | .tup _ => some (t = .tuple)
  | .ref n => match h[n]? with
    | some (.lst _) => some (t = .list)
    | _ => none
  | .fl _ => none
/-- the first place of a sign in xs, places counted from k -/
def fndL (c : Nat) : List Nat → Nat → Option Nat
  | [], _ => none
  | x :: r, k => if x = c then some k else fndL c r (k + 1)
def fromIx (len : Nat) (i : Int) : Nat := (max 0 (if i < 0 then i + len else i)).toNat
/-- the place of a sign from lo on, ahead of hi -/
def fnd (s : List Nat) (c lo hi : Nat) : Int := match fndL c ((s.take hi).drop lo) lo with
  | some k => (k : Int)
  | none => -1
def appD (h : DH) (x : D) (es : List D) : Out D := match x, es with
  | .ref n, [y] => match h[n]? with
    | some (.lst xs) => if xs.length < SL then .ok .non (h.set n (.lst (xs ++ [y]))) else .bad
    | _ => .bad
  | _, _ => .bad
def fnd2D (h : DH) (x : D) (es : List D) : Out D := match x, es with
  | .str s, [.str [c], .int i] => .ok (.int (fnd s c (fromIx s.length i) s.length)) h
  | _, _ => .bad
def fnd3D (h : DH) (x : D) (es : List D) : Out D := match x, es with
  | .str s, [.str [c], .int i, .int j] => if 0 ≤ j then .ok (.int (fnd s c (fromIx s.length i) (min j.toNat s.length))) h else .bad
  | _, _ => .bad
def strsOf : List D → Option (List (List Nat))
  | [] => some []
  | .str s :: r => (strsOf r).map (s :: ·)
  | _ => none
def joinS (a : List Nat) : List (List Nat) → List Nat
  | [] => []
  | [x] => x
  | x :: r => x ++ a ++ joinS a r
def mlD : Ml → D → List D → Option D
  | .join, .str a, xs => match strsOf xs with
    | some ys => if (ys.map (·.length)).sum + ys.length * a.length ≤ SL then some (.str (joinS a ys)) else none
    | none => none
  | _, _, _ => none
def joiD (h : DH) (x : D) (es : List D) : Out D := match x, es with
  | .str s, [.ref n] => match h[n]? with
    | some (.lst xs) => .opt (mlD .join (.str s) xs) h
    | _ => .bad
  | _, _ => .bad
def mtD (h : DH) : Mt → D → List D → Out D
  | .append => appD h
  | .find2 => fnd2D h
  | .find3 => fnd3D h
  | .join => joiD h
/-- the receiver's kind -/
def mtK (h : DH) : Mt → D → Bool
  | .append, .ref n => (lget h n).isSome
  | .find2, .str _ => true
  | .find3, .str _ => true
  | .join, .str _ => true
  | _, _ => false
def mlK : Ml → D → Bool
  | .join, .str _ => true
  | _, _ => false
def rep1 (c : Nat) (z l : List Nat) : List Nat := l.flatMap fun x => if x = c then z else [x]
def replD : List (Nat × List Nat) → List Nat → Option (List Nat)
  | [], s => some s
  | (c, z) :: r, s => if s.length + (s.length + 1) * z.length ≤ SL then replD r (rep1 c z s) else none
def wipeF (σ : Fr) : List Nat → Fr
  | [] => σ
  | v :: vs => (wipeF σ vs).set v none
/-- what is walked: items that stand, or a list of the heap -/
inductive Src where
  | items (xs : List D) | dyn (n : Nat)
def srcD (h : DH) : D → Option Src
  | .tup xs => some (.items xs)
  | .ref n => (lget h n).map fun _ => .dyn n
  | _ => none
def rngL (lo : Int) : Nat → List D
  | 0 => []
  | n + 1 => .int lo :: rngL (lo + 1) n
def lim : Int := 4611686018427387904
/-- what the evaluator leans on: the defs, how many turns a loop has at most -/
structure Cn where
  fn : Nat → List D → DH → Out D
  fuel : Nat

def Ts.len : Ts → Nat
  | .nil => 0
  | .cons _ ts => Ts.len ts + 1

/-! ### comprehensions -/
def compI (f : D → DH → Out (Option D)) : List D → List D → DH → Out (List D)
  | [], acc, h => .ok acc h
  | d :: r, acc, h => (f d h).bind fun o h => match o with
    | some y => if acc.length < SL then compI f r (acc ++ [y]) h else .bad
    | none => compI f r acc h
def compN (f : D → DH → Out (Option D)) (n : Nat) : Nat → Nat → List D → DH → Out (List D)
  | 0, _, _, _ => .bad
  | k + 1, i, acc, h => match lget h n with
    | none => .bad
    | some xs => match xs[i]? with
      | none => .ok acc h
      | some d => (f d h).bind fun o h => match o with
        | some y => if acc.length < SL then compN f n k (i + 1) (acc ++ [y]) h else .bad
        | none => compN f n k (i + 1) acc h
def compS (fuel : Nat) (f : D → DH → Out (Option D)) (s : Src) (h : DH) : Out (List D) := match s with
  | .items xs => compI f xs [] h
  | .dyn n => compN f n fuel 0 [] h

/-- an expression's value, its truth as a test -/
structure EvP where
  v : Fr → DH → Out D
  t : Fr → DH → Out Bool
def tst (v : Fr → DH → Out D) : EvP := ⟨v, fun σ h => (v σ h).bind fun x h => .opt (truD h x) h⟩
def cmpT (elt : Fr → DH → Out D) (tg : D → Fr → DH → Out Fr) (cond : Fr → DH → Out Bool) (σ : Fr) (d : D) (h : DH) : Out (Option D) :=
  (tg d σ h).bind fun σ' h => (cond σ' h).bind fun b h => if b then (elt σ' h).bind fun y h => .ok (some y) h else .ok none h
mutual
def ev (C : Cn) : E → EvP
  | .sl i => tst fun σ h => match σ[i]? with
    | some (some d) => .ok d h
    | _ => .bad
  | .c d => tst fun _ h => .ok d h
  | .bin o a b => tst fun σ h => ((ev C a).v σ h).bind fun x h => ((ev C b).v σ h).bind fun y h => binD h o x y
  | .neg a => tst fun σ h => ((ev C a).v σ h).bind fun x h => match x with
    | .int i => .ok (.int (-i)) h
    | _ => .bad
  | .cmp o a b => tst fun σ h => ((ev C a).v σ h).bind fun x h => ((ev C b).v σ h).bind fun y h => .opt ((cmpD h o x y).map .bl) h
  | .is_ p a s => tst fun σ h => ((ev C a).v σ h).bind fun x h => .ok (.bl (p == isD x s)) h
  | .and_ a b => ⟨fun σ h => ((ev C a).v σ h).bind fun x h => match truD h x with
      | some true => (ev C b).v σ h
      | some false => .ok x h
      | none => .bad,
    fun σ h => ((ev C a).t σ h).bind fun c h => if c then (ev C b).t σ h else .ok false h⟩
  | .or_ a b => ⟨fun σ h => ((ev C a).v σ h).bind fun x h => match truD h x with
      | some true => .ok x h
      | some false => (ev C b).v σ h
      | none => .bad,
    fun σ h => ((ev C a).t σ h).bind fun c h => if c then .ok true h else (ev C b).t σ h⟩
  | .not_ a => ⟨fun σ h => ((ev C a).v σ h).bind fun x h => .opt ((truD h x).map fun b => .bl (!b)) h, fun σ h => ((ev C a).t σ h).bind fun c h => .ok (!c) h⟩
  | .ite t a b => ⟨fun σ h => ((ev C t).t σ h).bind fun c h => if c then (ev C a).v σ h else (ev C b).v σ h,
    fun σ h => ((ev C t).t σ h).bind fun c h => if c then (ev C a).t σ h else (ev C b).t σ h⟩
  | .tup es => tst fun σ h => (evs C es σ h).bind fun xs h => if xs.length ≤ SL then .ok (.tup xs) h else .bad
  | .ofL l => tst fun σ h => (evL C l σ h).bind fun xs h => .ok (.ref h.length) (h ++ [.lst xs])
  | .ix a b => tst fun σ h => ((ev C a).v σ h).bind fun x h => ((ev C b).v σ h).bind fun y h => .opt (ixD h x y) h
  | .ixL l b => tst fun σ h => (evL C l σ h).bind fun xs h => ((ev C b).v σ h).bind fun y h => match y with
    | .int i => .opt (atI xs i) h
    | _ => .bad
  | .sli a lo hi => tst fun σ h => ((ev C a).v σ h).bind fun x h => (evO C lo σ h).bind fun l h => (evO C hi σ h).bind fun u h => sliD h x l u
  | .call f es => tst fun σ h => (evs C es σ h).bind fun xs h => C.fn f xs h
  | .isi a t => tst fun σ h => ((ev C a).v σ h).bind fun x h => .opt ((isiD h x t).map .bl) h
  | .bi b a => tst fun σ h => ((ev C a).v σ h).bind fun x h => .opt (biD h b x) h
  | .biL b l => tst fun σ h => (evL C l σ h).bind fun xs h => .opt (blD b xs) h
  | .mt m o es => tst fun σ h => ((ev C o).v σ h).bind fun x h => if mtK h m x then (evs C es σ h).bind fun ys h => mtD h m x ys else .bad
  | .mtL m o l => tst fun σ h => ((ev C o).v σ h).bind fun x h => if mlK m x then (evL C l σ h).bind fun ys h => .opt (mlD m x ys) h else .bad
  | .repl c o ps => tst fun σ h => ((ev C o).v σ h).bind fun x h => match x with
    | .str s => match replD ps s with
      | some r => if c.length + r.length ≤ SL then .ok (.str (c ++ r)) h else .bad
      | none => .bad
    | _ => .bad
def evs (C : Cn) : Es → Fr → DH → Out (List D)
  | .nil => fun _ h => .ok [] h
  | .cons e es => fun σ h => ((ev C e).v σ h).bind fun x h => (evs C es σ h).bind fun xs h => .ok (x :: xs) h
def evO (C : Cn) : Oe → Fr → DH → Out (Option Int)
  | .none => fun _ h => .ok none h
  | .some e => fun σ h => ((ev C e).v σ h).bind fun x h => match x with
    | .int i => .ok (some i) h
    | _ => .bad
def evL (C : Cn) : L → Fr → DH → Out (List D)
  | .disp es => fun σ h => (evs C es σ h).bind fun xs h => if xs.length ≤ SL then .ok xs h else .bad
  | .comp elt vs tg it cond => fun σ h => (evI C it σ h).bind fun s h => (compS C.fuel (cmpT (ev C elt).v (asT C tg) (tsO C cond) (wipeF σ vs)) s h).noexc
def evI (C : Cn) : It → Fr → DH → Out Src
  | .e a => fun σ h => ((ev C a).v σ h).bind fun x h => .opt (srcD h x) h
  | .l l => fun σ h => (evL C l σ h).bind fun xs h => .ok (.items xs) h
  | .r1 a => fun σ h => ((ev C a).v σ h).bind fun x h => match x with
    | .int j => if -lim ≤ j ∧ j < lim then .ok (.items (rngL 0 j.toNat)) h else .bad
    | _ => .bad
  | .r2 a b => fun σ h => ((ev C a).v σ h).bind fun x h => ((ev C b).v σ h).bind fun y h => match x, y with
    | .int i, .int j => if -lim ≤ i ∧ i < lim ∧ -lim ≤ j ∧ j < lim then .ok (.items (rngL i (j - i).toNat)) h else .bad
    | _, _ => .bad
def asT (C : Cn) : T → D → Fr → DH → Out Fr
  | .sl i => fun d σ h => .ok (σ.set i (some d)) h
  | .tup ts => fun d σ h => match d with
    | .tup xs => if xs.length = ts.len then asTs C ts xs σ h else .bad
    | .ref n => match lget h n with
      | some xs => if xs.length = ts.len then asTs C ts xs σ h else .bad
      | none => .bad
    | _ => .bad
  | .sub a b => fun d σ h => ((ev C a).v σ h).bind fun x h => ((ev C b).v σ h).bind fun y h => match x, y with
    | .ref n, .int i => match h[n]? with
      | some (.lst xs) => match ixN xs.length i with
        | some j => .ok σ (h.set n (.lst (xs.set j d)))
        | none => .bad
      | _ => .bad
    | _, _ => .bad
def asTs (C : Cn) : Ts → List D → Fr → DH → Out Fr
  | .nil => fun xs σ h => match xs with
    | [] => .ok σ h
    | _ => .bad
  | .cons t ts => fun xs σ h => match xs with
    | x :: xs => (asT C t x σ h).bind fun σ h => (asTs C ts xs σ h).noexc
    | [] => .bad
def tsO (C : Cn) : Oe → Fr → DH → Out Bool
  | .none => fun _ h => .ok true h
  | .some e => (ev C e).t
end

/-! ### statements -/
/-- a turn's end -/
def SO.loop (o : SO) (k : Fr → DH → SO) : SO := match o with
  | .nx σ h => k σ h
  | .cnt σ h => k σ h
  | .brk σ h => .nx σ h
  | .rt d h => .rt d h
  | .exc c fs σ h => .exc c fs σ h
  | .bad => .bad
def SO.seq (o : SO) (k : Fr → DH → SO) : SO := match o with
  | .nx σ h => k σ h
  | .cnt σ h => .cnt σ h
  | .brk σ h => .brk σ h
  | .rt d h => .rt d h
  | .exc c fs σ h => .exc c fs σ h
  | .bad => .bad
def frI (f : D → Fr → DH → SO) : List D → Fr → DH → SO
  | [], σ, h => .nx σ h
  | d :: r, σ, h => (f d σ h).loop (frI f r)
def frN (f : D → Fr → DH → SO) (n : Nat) : Nat → Nat → Fr → DH → SO
  | 0, _, _, _ => .bad
  | k + 1, i, σ, h => match lget h n with
    | none => .bad
    | some xs => match xs[i]? with
      | none => .nx σ h
      | some d => (f d σ h).loop (frN f n k (i + 1))
def frS (fuel : Nat) (f : D → Fr → DH → SO) (s : Src) (σ : Fr) (h : DH) : SO := match s with
  | .items xs => frI f xs σ h
  | .dyn n => frN f n fuel 0 σ h
def whl (t : Fr → DH → Out Bool) (b : Fr → DH → SO) : Nat → Fr → DH → SO
  | 0, _, _ => .bad
  | k + 1, σ, h => (t σ h).sbind σ fun c h => if c then (b σ h).loop (whl t b k) else .nx σ h
mutual
def evS (C : Cn) : S → Fr → DH → SO
  | .asg t e => fun σ h => ((ev C e).v σ h).sbind σ fun d h => (asT C t d σ h).sbind σ fun σ h => .nx σ h
  | .aug i o e => fun σ h => match σ[i]? with
    | some (some x) => ((ev C e).v σ h).sbind σ fun y h => (augD h o x y).sbind σ fun z h => .nx (σ.set i (some z)) h
    | _ => .bad
  | .ex e => fun σ h => ((ev C e).v σ h).sbind σ fun _ h => .nx σ h
  | .ret e => fun σ h => ((ev C e).v σ h).sbind σ fun d h => .rt d h
  | .retN => fun _ h => .rt .non h
  | .ite t a b => fun σ h => ((ev C t).t σ h).sbind σ fun c h => if c then evSs C a σ h else evSs C b σ h
  | .whl t b => fun σ h => whl (ev C t).t (evSs C b) C.fuel σ h
  | .fr t it b => fun σ h => (evI C it σ h).sbind σ fun s h => frS C.fuel (fun d σ h => (asT C t d σ h).sbind σ fun σ h => evSs C b σ h) s σ h
  | .brk => fun σ h => .brk σ h
  | .cnt => fun σ h => .cnt σ h
  | .pass => fun σ h => .nx σ h
  | .never => fun _ _ => .bad
def evSs (C : Cn) : Ss → Fr → DH → SO
  | .nil => fun σ h => .nx σ h
  | .cons s ss => fun σ h => (evS C s σ h).seq (evSs C ss)
end
mutual
/-- the slots that a target sets -/
def T.slots : T → List Nat
  | .sl i => [i]
  | .tup ts => Ts.slots ts
  | .sub _ _ => []
def Ts.slots : Ts → List Nat
  | .nil => []
  | .cons t ts => T.slots t ++ Ts.slots ts
end
/-- a def's frame: the arguments, the other names without a value -/
def frame (n : Nat) (xs : List D) : Fr := xs.map some ++ List.replicate (n - xs.length) none
/-- a call: n names in all, np parameters -/
def runD (C : Cn) (n np : Nat) (b : Ss) (xs : List D) (h : DH) : Out D :=
  if xs.length = np then match evSs C b (frame n xs) h with
    | .nx _ h => .ok .non h
    | .rt d h => .ok d h
    | .exc c fs _ h => .exc c fs h
    | _ => .bad
  else .bad
/-- a def: how many names, how many parameters, its body -/
structure Fn where
  n : Nat
  np : Nat
  b : Ss
/-- the program with k calls one in another -/
def runN (fs : List Fn) (fuel : Nat) : Nat → Cn
  | 0 => ⟨fun _ _ _ => .bad, fuel⟩
  | k + 1 => ⟨fun f xs h => match fs[f]? with
    | some d => runD (runN fs fuel k) d.n d.np d.b xs h
    | none => .bad, fuel⟩
end FD

set_option Elab.async false
set_option linter.all false
set_option maxRecDepth 100000
set_option maxHeartbeats 1000000
/-! The D layer, 2: how its values and heap stand for the layer's (HandS). -/
namespace FD
open PySem PySem.Spec PyProof.Rows L2

abbrev toS (s : List Nat) : Str := ⟨s.toArray⟩
theorem toS_cps (x : Str) : toS x.cps.toList = x := by cases x; simp [toS]
theorem toS_length (s : List Nat) : (toS s).length = s.length := by simp [toS, Str.length]
theorem toS_list (s : List Nat) : (toS s).cps.toList = s := by simp [toS]
theorem toS_inj {s t : List Nat} (h : toS s = toS t) : s = t := by have := congrArg (fun x : Str => x.cps.toList) h; simpa [toS] using this
theorem SL_eq : sizeLine = SL := by rw [sizeLine_eq]; rfl

/-- a list that is never changed -/
def FzL (K : PySem.W.Frag) (H : Hp) (a : Addr) (vs : List V) : Prop := (∃ o, H a = some (.frz o (.lst vs))) ∨
  ∃ (o : Obj) (its : Array Value) (n : Nat), K.lookup a = some o ∧ o.cls = .type "list" ∧ o.dict = none ∧ o.data = .seq its n ∧ its.size ≤ sizeLine ∧ Vals vs its.toList
theorem FzL.sql {K : PySem.W.Frag} {H : Hp} {a : Addr} {vs : List V} (h : FzL K H a vs) : SqL K H a vs := by
  rcases h with ⟨o, h⟩ | h
  · exact .inl (.inr ⟨o, h⟩)
  · exact .inr h
section
variable (K : PySem.W.Frag) (α : List Addr) (H : Hp)
mutual
def VR : D → V → Prop
  | .non, v => v = .non
  | .bl b, v => v = .bl b
  | .int i, v => v = .int i
  | .str s, v => v = .str (toS s)
  | .tup xs, v => ∃ a vs, v = .ref a ∧ SqT K H a vs ∧ VRs xs vs
  | .ref n, v => ∃ a, α[n]? = some a ∧ v = .ref a
  | .fl xs, v => ∃ a vs, v = .ref a ∧ FzL K H a vs ∧ VRs xs vs
def VRs : List D → List V → Prop
  | [], vs => vs = []
  | x :: xs, vs => ∃ v r, vs = v :: r ∧ VR x v ∧ VRs xs r
end
def OR (a : Addr) : O → Prop
  | .lst xs => ∃ vs, H a = some (.lst vs) ∧ VRs K α H xs vs
  | .dic _ => False
end
structure RepH (K : PySem.W.Frag) (α : List Addr) (H : Hp) (h : DH) : Prop where
  len : α.length = h.length
  nd : α.Nodup
  ob : ∀ (n : Nat) (o : O), h[n]? = some o → ∃ a, α[n]? = some a ∧ OR K α H a o
structure RepF (K : PySem.W.Frag) (α : List Addr) (H : Hp) (σ : L2.St) (δ : Fr) : Prop where
  len : σ.length = δ.length
  sl : ∀ (i : Nat) (d : D), δ[i]? = some (some d) → ∃ v, σ[i]? = some (some v) ∧ VR K α H d v
/-- what never changes -/
structure Ext0 (α : List Addr) (H : Hp) (α' : List Addr) (H' : Hp) : Prop where
  pre : α <+: α'
  tp : ∀ a vs, H a = some (.tup vs) → H' a = some (.tup vs)
  fz : ∀ a o u, H a = some (.frz o u) → H' a = some (.frz o u)
structure Ext (α : List Addr) (H : Hp) (α' : List Addr) (H' : Hp) : Prop where
  pre : α <+: α'
  new : ∀ a ∈ α', a ∉ α → H a = none
  keep : ∀ a u, H a = some u → a ∉ α → H' a = some u
  tp : ∀ a vs, H a = some (.tup vs) → H' a = some (.tup vs)
  fz : ∀ a o u, H a = some (.frz o u) → H' a = some (.frz o u)
theorem Ext.e0 {α α' : List Addr} {H H' : Hp} (e : Ext α H α' H') : Ext0 α H α' H' := ⟨e.pre, e.tp, e.fz⟩

section
variable {K : PySem.W.Frag} {α α1 α2 : List Addr} {H H1 H2 : Hp} {h : DH} {σ : L2.St} {δ : Fr}
theorem Ext.refl : Ext α H α H := ⟨List.prefix_rfl, fun _ h n => absurd h n, fun _ _ h _ => h, fun _ _ h => h, fun _ _ _ h => h⟩
theorem Ext.trans (a : Ext α H α1 H1) (b : Ext α1 H1 α2 H2) : Ext α H α2 H2 where
  pre := a.pre.trans b.pre
  new := fun x hx hn => by
    by_cases h1 : x ∈ α1
    · exact a.new x h1 hn
    · cases q : H x with
      | none => rfl
      | some u =>
        have := a.keep x u q hn
        rw [b.new x hx h1] at this; cases this
  keep := fun x u q hn => by
    refine b.keep x u (a.keep x u q hn) fun h1 => ?_
    rw [a.new x h1 hn] at q; cases q
  tp := fun x vs q => b.tp x vs (a.tp x vs q)
  fz := fun x o u q => b.fz x o u (a.fz x o u q)
theorem Ext0.get (e : Ext0 α H α1 H1) {n : Nat} {a : Addr} (h : α[n]? = some a) : α1[n]? = some a := by
  obtain ⟨t, rfl⟩ := e.pre
  have hl : n < α.length := by
    rcases Nat.lt_or_ge n α.length with z | z
    · exact z
    · rw [List.getElem?_eq_none z] at h; cases h
  rw [List.getElem?_append_left hl]; exact h
theorem Ext0.sqT (e : Ext0 α H α1 H1) {a : Addr} {vs : List V} (h : SqT K H a vs) : SqT K H1 a vs := by
  rcases h with (h | ⟨o, h⟩) | h
  · exact .inl (.inl (e.tp a vs h))
  · exact .inl (.inr ⟨o, e.fz _ _ _ h⟩)
  · exact .inr h
theorem Ext0.fzL (e : Ext0 α H α1 H1) {a : Addr} {vs : List V} (h : FzL K H a vs) : FzL K H1 a vs := by
  rcases h with ⟨o, h⟩ | h
  · exact .inl ⟨o, e.fz _ _ _ h⟩
  · exact .inr h
mutual
theorem VR.ext0 (e : Ext0 α H α1 H1) : ∀ {d : D} {v : V}, VR K α H d v → VR K α1 H1 d v
  | .non, _, h => h
  | .bl _, _, h => h
  | .int _, _, h => h
  | .str _, _, h => h
  | .tup xs, v, h => by
    unfold VR at h ⊢
    obtain ⟨a, vs, e1, h1, h2⟩ := h
    exact ⟨a, vs, e1, e.sqT h1, VRs.ext0 e h2⟩
  | .ref n, v, h => by
    unfold VR at h ⊢
    obtain ⟨a, h1, h2⟩ := h
    exact ⟨a, e.get h1, h2⟩
  | .fl xs, v, h => by
    unfold VR at h ⊢
    obtain ⟨a, vs, e1, h1, h2⟩ := h
    exact ⟨a, vs, e1, e.fzL h1, VRs.ext0 e h2⟩
theorem VRs.ext0 (e : Ext0 α H α1 H1) : ∀ {ds : List D} {vs : List V}, VRs K α H ds vs → VRs K α1 H1 ds vs
  | [], _, h => h
  | x :: xs, vs, h => by
    unfold VRs at h ⊢
    obtain ⟨v, r, e1, h1, h2⟩ := h
    exact ⟨v, r, e1, VR.ext0 e h1, VRs.ext0 e h2⟩
end
theorem VR.ext (e : Ext α H α1 H1) {d : D} {v : V} (h : VR K α H d v) : VR K α1 H1 d v := VR.ext0 e.e0 h
theorem VRs.ext (e : Ext α H α1 H1) {ds : List D} {vs : List V} (h : VRs K α H ds vs) : VRs K α1 H1 ds vs := VRs.ext0 e.e0 h
theorem VRs.length : ∀ {ds : List D} {vs : List V}, VRs K α H ds vs → vs.length = ds.length
  | [], _, h => by unfold VRs at h; subst h; rfl
  | x :: xs, vs, h => by
    unfold VRs at h
    obtain ⟨v, r, rfl, _, h2⟩ := h
    simp [VRs.length h2]
theorem VRs.append : ∀ {ds es : List D} {vs us : List V}, VRs K α H ds vs → VRs K α H es us → VRs K α H (ds ++ es) (vs ++ us)
  | [], _, _, _, h, h' => by unfold VRs at h; subst h; exact h'
  | x :: xs, es, vs, us, h, h' => by
    unfold VRs at h
    obtain ⟨v, r, rfl, h1, h2⟩ := h
    show VRs K α H (x :: (xs ++ es)) (v :: (r ++ us))
    unfold VRs
    exact ⟨v, _, rfl, h1, VRs.append h2 h'⟩
theorem VRs.one {d : D} {v : V} (h : VR K α H d v) : VRs K α H [d] [v] := ⟨v, [], rfl, h, rfl⟩
theorem VRs.get : ∀ {ds : List D} {vs : List V} {i : Nat} {d : D}, VRs K α H ds vs → ds[i]? = some d → ∃ v, vs[i]? = some v ∧ VR K α H d v
  | [], _, _, _, _, e => by simp at e
  | x :: xs, vs, 0, d, h, e => by
    unfold VRs at h
    obtain ⟨v, r, rfl, h1, h2⟩ := h
    simp at e; subst e
    exact ⟨v, rfl, h1⟩
  | x :: xs, vs, i + 1, d, h, e => by
    unfold VRs at h
    obtain ⟨v, r, rfl, h1, h2⟩ := h
    obtain ⟨u, e1, e2⟩ := VRs.get (i := i) (d := d) h2 (by simpa using e)
    exact ⟨u, by simpa using e1, e2⟩
theorem VRs.set : ∀ {ds : List D} {vs : List V} (i : Nat) {d : D} {v : V}, VRs K α H ds vs → VR K α H d v → VRs K α H (ds.set i d) (vs.set i v)
  | [], _, _, _, _, h, _ => by unfold VRs at h; subst h; exact rfl
  | x :: xs, vs, 0, d, v, h, e => by
    unfold VRs at h
    obtain ⟨u, r, rfl, h1, h2⟩ := h
    exact ⟨v, r, rfl, e, h2⟩
  | x :: xs, vs, i + 1, d, v, h, e => by
    unfold VRs at h
    obtain ⟨u, r, rfl, h1, h2⟩ := h
    exact ⟨u, _, rfl, h1, VRs.set i h2 e⟩
theorem VRs.drop : ∀ {ds : List D} {vs : List V} (n : Nat), VRs K α H ds vs → VRs K α H (ds.drop n) (vs.drop n)
  | _, _, 0, h => h
  | [], _, n + 1, h => by unfold VRs at h; subst h; exact rfl
  | x :: xs, vs, n + 1, h => by
    unfold VRs at h
    obtain ⟨u, r, rfl, h1, h2⟩ := h
    exact VRs.drop n h2
theorem VRs.take : ∀ {ds : List D} {vs : List V} (n : Nat), VRs K α H ds vs → VRs K α H (ds.take n) (vs.take n)
  | _, _, 0, h => rfl
  | [], _, n + 1, h => by unfold VRs at h; subst h; exact rfl
  | x :: xs, vs, n + 1, h => by
    unfold VRs at h
    obtain ⟨u, r, rfl, h1, h2⟩ := h
    exact ⟨u, _, rfl, h1, VRs.take n h2⟩
theorem RepF.ext0 (e : Ext0 α H α1 H1) (r : RepF K α H σ δ) : RepF K α1 H1 σ δ := ⟨r.len, fun i d h => by
  obtain ⟨v, h1, h2⟩ := r.sl i d h
  exact ⟨v, h1, h2.ext0 e⟩⟩
theorem RepF.ext (e : Ext α H α1 H1) (r : RepF K α H σ δ) : RepF K α1 H1 σ δ := r.ext0 e.e0
theorem RepF.set (r : RepF K α H σ δ) (i : Nat) {d : D} {v : V} (h : VR K α H d v) : RepF K α H (σ.set i (some v)) (δ.set i (some d)) := by
  refine ⟨by simp [r.len], fun j e hj => ?_⟩
  by_cases z : i = j
  · subst z
    by_cases hl : i < δ.length
    · rw [List.getElem?_set_self hl] at hj
      cases hj
      exact ⟨v, by rw [List.getElem?_set_self (by rw [r.len]; exact hl)], h⟩
    · rw [List.getElem?_eq_none (by simpa using hl)] at hj; cases hj
  · rw [List.getElem?_set_ne z] at hj ⊢
    exact r.sl j e hj
theorem wipeF_length : ∀ (δ : Fr) (vs : List Nat), (wipeF δ vs).length = δ.length
  | _, [] => rfl
  | δ, v :: vs => by unfold wipeF; rw [List.length_set, wipeF_length δ vs]
theorem RepF.none (r : RepF K α H σ δ) (i : Nat) : RepF K α H (σ.set i none) (δ.set i none) := by
  refine ⟨by simp [r.len], fun j e hj => ?_⟩
  by_cases z : i = j
  · subst z
    by_cases hl : i < δ.length
    · rw [List.getElem?_set_self hl] at hj; cases hj
    · rw [List.getElem?_eq_none (by simpa using hl)] at hj; cases hj
  · rw [List.getElem?_set_ne z] at hj ⊢
    exact r.sl j e hj
theorem RepF.wipe (r : RepF K α H σ δ) : ∀ vs : List Nat, RepF K α H (wipe σ vs) (wipeF δ vs)
  | [] => r
  | v :: vs => by unfold L2.wipe wipeF; exact (RepF.wipe r vs).none v

/-! ### the heap grows, the heap changes -/
theorem RepH.at (r : RepH K α H h) {n : Nat} {o : O} (q : h[n]? = some o) : ∃ a, α[n]? = some a ∧ OR K α H a o := r.ob n o q
theorem RepH.list (r : RepH K α H h) {n : Nat} {xs : List D} (q : h[n]? = some (.lst xs)) : ∃ a vs, α[n]? = some a ∧ H a = some (.lst vs) ∧ VRs K α H xs vs := by
  obtain ⟨a, h1, vs, h2, h3⟩ := r.ob n _ q
  exact ⟨a, vs, h1, h2, h3⟩
theorem or_some {a : Addr} {o : O} (h : OR K α H a o) : ∃ u, H a = Option.some u := by
  cases o with
  | lst xs => obtain ⟨vs, h1, _⟩ := h; exact ⟨_, h1⟩
  | dic _ => exact h.elim
theorem or_mut {a : Addr} {o : O} (h : OR K α H a o) : (∀ vs : List V, H a ≠ Option.some (.tup vs)) ∧ ∀ (ob : Obj) (u : HO), H a ≠ Option.some (.frz ob u) := by
  cases o with
  | lst xs => obtain ⟨vs, h1, _⟩ := h; exact ⟨fun vs z => (by rw [h1] at z; cases z), fun ob u z => (by rw [h1] at z; cases z)⟩
  | dic _ => exact h.elim
theorem RepH.mem (r : RepH K α H h) {a : Addr} (ha : a ∈ α) : ∃ (n : Nat) (o : O), α[n]? = Option.some a ∧ h[n]? = Option.some o ∧ OR K α H a o := by
  obtain ⟨n, hn, e⟩ := List.mem_iff_getElem.mp ha
  have hn' : n < h.length := by rw [← r.len]; exact hn
  obtain ⟨b, h1, h2⟩ := r.ob n h[n] (List.getElem?_eq_getElem hn')
  have e1 : α[n]? = Option.some a := by rw [List.getElem?_eq_getElem hn, e]
  rw [e1] at h1; cases h1
  exact ⟨n, _, e1, List.getElem?_eq_getElem hn', h2⟩
theorem RepH.free (r : RepH K α H h) {p : Addr} (hp : H p = none) : p ∉ α := fun ha => by
  obtain ⟨n, o, _, _, h2⟩ := r.mem ha
  obtain ⟨u, h3⟩ := or_some h2
  rw [hp] at h3; cases h3
theorem Ext.laid {p : Addr} {o : HO} (hp : H p = none) : Ext α H α (upd H p o) :=
  ⟨List.prefix_rfl, fun _ h n => absurd h n, fun a u q _ => by rw [upd_ne (ne_of_none q hp)]; exact q, fun a vs q => by rw [upd_ne (ne_of_none q hp)]; exact q, fun a ob u q => by rw [upd_ne (ne_of_none q hp)]; exact q⟩
/-- a tracked object that was new to the outer heap is told of, too -/
theorem Ext.take (e : Ext α H α1 H1) {p : Addr} (hp : H p = none) (h1 : p ∉ α1) : Ext α H (α1 ++ [p]) H1 :=
  ⟨e.pre.trans (List.prefix_append _ _), fun a ha hn => by
    rcases List.mem_append.mp ha with z | z
    · exact e.new a z hn
    · rw [List.mem_singleton.mp z]; exact hp, e.keep, e.tp, e.fz⟩
theorem Ext.grow {p : Addr} (hp : p ∉ α) : (∀ {n : Nat} {a : Addr}, α[n]? = some a → (α ++ [p])[n]? = some a) := fun {n a} e => by
  have hl : n < α.length := by
    rcases Nat.lt_or_ge n α.length with z | z
    · exact z
    · rw [List.getElem?_eq_none z] at e; cases e
  rw [List.getElem?_append_left hl]; exact e
mutual
/-- more names, the same heap -/
theorem VR.more {p : Addr} : ∀ {d : D} {v : V}, VR K α H d v → VR K (α ++ [p]) H d v
  | .non, _, h => h
  | .bl _, _, h => h
  | .int _, _, h => h
  | .str _, _, h => h
  | .tup xs, v, h => by
    unfold VR at h ⊢
    obtain ⟨a, vs, e1, h1, h2⟩ := h
    exact ⟨a, vs, e1, h1, VRs.more h2⟩
  | .ref n, v, h => by
    unfold VR at h ⊢
    obtain ⟨a, h1, h2⟩ := h
    have hl : n < α.length := by
      rcases Nat.lt_or_ge n α.length with z | z
      · exact z
      · rw [List.getElem?_eq_none z] at h1; cases h1
    exact ⟨a, by rw [List.getElem?_append_left hl]; exact h1, h2⟩
  | .fl xs, v, h => by
    unfold VR at h ⊢
    obtain ⟨a, vs, e1, h1, h2⟩ := h
    exact ⟨a, vs, e1, h1, VRs.more h2⟩
theorem VRs.more {p : Addr} : ∀ {ds : List D} {vs : List V}, VRs K α H ds vs → VRs K (α ++ [p]) H ds vs
  | [], _, h => h
  | x :: xs, vs, h => by
    unfold VRs at h ⊢
    obtain ⟨v, r, e1, h1, h2⟩ := h
    exact ⟨v, r, e1, VR.more h1, VRs.more h2⟩
end
theorem or_more {p a : Addr} {o : O} (h : OR K α H a o) : OR K (α ++ [p]) H a o := by
  cases o with
  | lst xs => obtain ⟨vs, h1, h2⟩ := h; exact ⟨vs, h1, h2.more⟩
  | dic _ => exact h.elim
theorem or_ext (e : Ext0 α H α1 H1) {a : Addr} {o : O} (h : OR K α H a o) (k : ∀ u, H a = some u → H1 a = some u) : OR K α1 H1 a o := by
  cases o with
  | lst xs =>
    obtain ⟨vs, h1, h2⟩ := h
    exact ⟨vs, k _ h1, h2.ext0 e⟩
  | dic _ => exact h.elim
/-- nothing tracked has changed -/
theorem RepH.same (r : RepH K α H h) (e : Ext0 α H α H1) (k : ∀ a ∈ α, ∀ u, H a = some u → H1 a = some u) : RepH K α H1 h :=
  ⟨r.len, r.nd, fun n o q => by
    obtain ⟨a, h1, h2⟩ := r.ob n o q
    exact ⟨a, h1, or_ext e h2 (k a (List.mem_of_getElem? h1))⟩⟩
theorem RepH.laid (r : RepH K α H h) {p : Addr} {o : HO} (hp : H p = none) : RepH K α (upd H p o) h :=
  r.same (Ext.laid hp).e0 fun a _ u q => by rw [upd_ne (ne_of_none q hp)]; exact q
/-- one more object -/
theorem RepH.add (r : RepH K α H h) {p : Addr} {o : O} (hn : p ∉ α) (ho : OR K α H p o) : RepH K (α ++ [p]) H (h ++ [o]) := by
  refine ⟨by simp [r.len], ?_, fun n o' q => ?_⟩
  · rw [List.nodup_append]
    exact ⟨r.nd, by simp, fun a ha b hb => by rw [List.mem_singleton.mp hb]; exact fun z => hn (z ▸ ha)⟩
  · by_cases hl : n < h.length
    · rw [List.getElem?_append_left hl] at q
      obtain ⟨a, h1, h2⟩ := r.ob n o' q
      have hl' : n < α.length := by rw [r.len]; exact hl
      exact ⟨a, by rw [List.getElem?_append_left hl']; exact h1, or_more h2⟩
    · rw [List.getElem?_append_right (by omega)] at q
      have hn' : n = h.length := by
        rcases Nat.eq_or_lt_of_le (Nat.le_of_not_lt hl) with z | z
        · exact z.symm
        · rw [List.getElem?_eq_none (by simp; omega)] at q; cases q
      subst hn'
      simp at q; subst q
      exact ⟨p, by rw [← r.len]; simp, or_more ho⟩
/-- the object at n changes -/
theorem Ext.write (r : RepH K α H h) {n : Nat} {a : Addr} {u : HO} (ha : α[n]? = some a) : Ext α H α (upd H a u) := by
  have hm : a ∈ α := List.mem_of_getElem? ha
  obtain ⟨m, o, e1, e2, e3⟩ := r.mem hm
  refine ⟨List.prefix_rfl, fun _ h n => absurd h n, fun b v q hb => ?_, fun b vs q => ?_, fun b ob v q => ?_⟩
  · rw [upd_ne (fun z : b = a => hb (by rw [z]; exact hm))]; exact q
  · rw [upd_ne (fun z : b = a => (or_mut e3).1 vs (by rw [← z]; exact q))]; exact q
  · rw [upd_ne (fun z : b = a => (or_mut e3).2 ob v (by rw [← z]; exact q))]; exact q
theorem RepH.write (r : RepH K α H h) {n : Nat} {a : Addr} {u : HO} {o : O} (ha : α[n]? = some a) (ho : OR K α (upd H a u) a o) : RepH K α (upd H a u) (h.set n o) := by
  have e := Ext.write (u := u) r ha
  refine ⟨by simp [r.len], r.nd, fun m o' q => ?_⟩
  by_cases z : n = m
  · subst z
    have hl : n < h.length := by
      rcases Nat.lt_or_ge n h.length with z | z
      · exact z
      · rw [List.getElem?_eq_none (by simpa using z)] at q; cases q
    rw [List.getElem?_set_self hl] at q
    cases q
    exact ⟨a, ha, ho⟩
  · rw [List.getElem?_set_ne z] at q
    obtain ⟨b, h1, h2⟩ := r.ob m o' q
    refine ⟨b, h1, or_ext e.e0 h2 fun v hv => ?_⟩
    rw [upd_ne]
    · exact hv
    · intro eb
      subst eb
      have hn : n < α.length := (List.getElem?_eq_some_iff.mp ha).1
      have hm : m < α.length := (List.getElem?_eq_some_iff.mp h1).1
      exact z ((List.getElem?_inj hn r.nd).mp (ha.trans h1.symm))
end

/-! ### what is wanted behind an evaluation -/
/-- what an exception is at D's level: cls tells each class's address -/
def XR (K : PySem.W.Frag) (cls : Nat → Option Addr) (c : Nat) (fs : List (List Nat × D)) (α : List Addr) (H : Hp) (cv : Value) (dd : Option Addr) : Prop :=
  ∃ C d gs, cls c = some C ∧ cv = .ref C ∧ dd = some d ∧ H d = some (.xd gs) ∧ gs.map (·.1) = fs.map (fun p => toS p.1) ∧ VRs K α H (fs.map (·.2)) (gs.map (·.2))
def Post {β : Type} (K : PySem.W.Frag) (cls : Nat → Option Addr) (W : WX) (σ : L2.St) (α : List Addr) (H : Hp) (o : Out β) (Z : β → List Addr → Hp → DH → Prop) : Prop := match o with
  | .ok b h' => ∀ α' H', Ext α H α' H' → RepH K α' H' h' → Z b α' H' h'
  | .exc c fs h' => ∀ α' H' cv dd, Ext α H α' H' → RepH K α' H' h' → XR K cls c fs α' H' cv dd → W cv dd σ H'
  | .bad => False
section
variable {K : PySem.W.Frag} {cls : Nat → Option Addr} {W : WX} {σ : L2.St} {α α1 : List Addr} {H H1 : Hp} {β γ : Type}
theorem Post.mono {o : Out β} {Z Z' : β → List Addr → Hp → DH → Prop} (p : Post K cls W σ α H o Z) (h : ∀ b α' H' h', Ext α H α' H' → RepH K α' H' h' → Z b α' H' h' → Z' b α' H' h') : Post K cls W σ α H o Z' := by
  cases o with
  | ok b h' => exact fun α' H' e r => h _ _ _ _ e r (p α' H' e r)
  | exc c fs h' => exact p
  | bad => exact p
theorem Post.from {o : Out β} {Z : β → List Addr → Hp → DH → Prop} (p : Post K cls W σ α H o Z) (e : Ext α H α1 H1) : Post K cls W σ α1 H1 o Z := by
  cases o with
  | ok b h' => exact fun α' H' e' r => p α' H' (e.trans e') r
  | exc c fs h' => exact fun α' H' cv dd e' r => p α' H' cv dd (e.trans e') r
  | bad => exact p
theorem Post.of_bind {o : Out β} {f : β → DH → Out γ} {Z : γ → List Addr → Hp → DH → Prop} (p : Post K cls W σ α H (o.bind f) Z) : Post K cls W σ α H o fun b α' H' h' => Post K cls W σ α' H' (f b h') Z := by
  cases o with
  | ok b h' => exact fun α' H' e _ => Post.from p e
  | exc c fs h' => exact p
  | bad => exact p
theorem Post.ok {b : β} {h : DH} {Z : β → List Addr → Hp → DH → Prop} (p : Post K cls W σ α H (.ok b h) Z) (r : RepH K α H h) : Z b α H h := p α H Ext.refl r
theorem Post.opt {x : Option β} {h : DH} {Z : β → List Addr → Hp → DH → Prop} (p : Post K cls W σ α H (.opt x h) Z) (r : RepH K α H h) : ∃ b, x = some b ∧ Z b α H h := by
  cases x with
  | none => exact p.elim
  | some b => exact ⟨b, rfl, p α H Ext.refl r⟩
end

/-! ### readings -/
/-- but for the slots is nothing is set -/
structure Agree (is : List Nat) (σ σ' : L2.St) : Prop where
  len : σ'.length = σ.length
  at_ : ∀ i, i ∉ is → σ'[i]? = σ[i]?
theorem Agree.wipe {is vs : List Nat} {σ σ' : L2.St} (a : Agree is σ σ') (h : ∀ i ∈ is, i ∈ vs) : L2.wipe σ' vs = L2.wipe σ vs := by
  refine List.ext_getElem? fun i => ?_
  have key : ∀ (us : List Nat) (τ : L2.St), (L2.wipe τ us)[i]? = if i ∈ us ∧ i < τ.length then some none else τ[i]? := by
    intro us
    induction us with
    | nil => intro τ; simp [L2.wipe]
    | cons u us ih =>
      intro τ
      unfold L2.wipe
      rw [List.getElem?_set, wipe_length, ih τ]
      by_cases z : u = i
      · subst z
        by_cases hl : u < τ.length
        · simp [hl]
        · simp only [List.mem_cons, true_or, hl, and_false, if_true, if_false]
          rw [List.getElem?_eq_none (Nat.le_of_not_lt hl)]
      · rw [if_neg z]
        have : i ∈ u :: us ↔ i ∈ us := by simp [Ne.symm z]
        simp only [this]
  rw [key, key, a.len]
  by_cases hi : i ∈ vs
  · by_cases hl : i < σ.length
    · rw [if_pos ⟨hi, hl⟩, if_pos ⟨hi, hl⟩]
    · rw [if_neg (fun z => hl z.2), if_neg (fun z => hl z.2), List.getElem?_eq_none (by rw [a.len]; omega), List.getElem?_eq_none (by omega)]
  · rw [if_neg (fun z => hi z.1), if_neg (fun z => hi z.1)]
    exact a.at_ i fun z => hi (h i z)
theorem Agree.refl {is : List Nat} {σ : L2.St} : Agree is σ σ := ⟨rfl, fun _ _ => rfl⟩
theorem Agree.trans {is js : List Nat} {σ σ1 σ2 : L2.St} (a : Agree is σ σ1) (b : Agree js σ1 σ2) : Agree (is ++ js) σ σ2 :=
  ⟨b.len.trans a.len, fun i hi => (b.at_ i fun z => hi (List.mem_append_right _ z)).trans (a.at_ i fun z => hi (List.mem_append_left _ z))⟩
theorem Agree.set {σ : L2.St} {i : Nat} {v : Option V} : Agree [i] σ (σ.set i v) := ⟨by simp, fun j hj => by
  rw [List.getElem?_set_ne]
  intro e
  exact hj (by simp [e])⟩
section
variable (K : PySem.W.Frag) (cls : Nat → Option Addr) (W : WX)
def rdE (f : Fr → DH → Out D) : TE := fun σ H Q => ∃ α δ h, RepH K α H h ∧ RepF K α H σ δ ∧ Post K cls W σ α H (f δ h) fun d α' H' _ => ∀ v, VR K α' H' d v → Q v H'
def rdT (f : Fr → DH → Out Bool) : TT := fun σ H Q => ∃ α δ h, RepH K α H h ∧ RepF K α H σ δ ∧ Post K cls W σ α H (f δ h) fun b _ H' _ => Q b H'
def rdEs (f : Fr → DH → Out (List D)) : TA := fun σ H Q => ∃ α δ h, RepH K α H h ∧ RepF K α H σ δ ∧ Post K cls W σ α H (f δ h) fun ds α' H' _ => ∀ vs, VRs K α' H' ds vs → Q vs H'
/-- a fresh list that nothing else leads to -/
def rdL (f : Fr → DH → Out (List D)) : TE := fun σ H Q => ∃ α δ h, RepH K α H h ∧ RepF K α H σ δ ∧ Post K cls W σ α H (f δ h) fun ds α' H' _ =>
  ∀ p vs, H p = none → p ∉ α' → H' p = some (.lst vs) → VRs K α' H' ds vs → Q (.ref p) H'
def rdO (f : Fr → DH → Out (Option Int)) : TO := fun σ H Q => ∃ α δ h, RepH K α H h ∧ RepF K α H σ δ ∧ Post K cls W σ α H (f δ h) fun o _ H' _ => Q o H'
/-- a target: the value is given by what stands for it -/
def rdG (is : List Nat) (f : D → Fr → DH → Out Fr) : TG := fun v σ H Q => ∃ α δ h d, RepH K α H h ∧ RepF K α H σ δ ∧ VR K α H d v ∧ Post K cls W σ α H (f d δ h) fun δ' α' H' _ => ∀ σ', RepF K α' H' σ' δ' → Agree is σ σ' → Q σ' H'
def rdGs (is : List Nat) (f : List D → Fr → DH → Out Fr) : TGs := fun vs σ H Q => ∃ α δ h ds, RepH K α H h ∧ RepF K α H σ δ ∧ VRs K α H ds vs ∧ Post K cls W σ α H (f ds δ h) fun δ' α' H' _ => ∀ σ', RepF K α' H' σ' δ' → Agree is σ σ' → Q σ' H'
def PostS (α : List Addr) (H : Hp) (o : SO) (D : Ends) : Prop := match o with
  | .nx δ' h' => ∀ α' σ' H', Ext α H α' H' → RepH K α' H' h' → RepF K α' H' σ' δ' → D.nx σ' H'
  | .rt d h' => ∀ α' H' v, Ext α H α' H' → RepH K α' H' h' → VR K α' H' d v → D.rt v H'
  | .brk δ' h' => ∀ α' σ' H', Ext α H α' H' → RepH K α' H' h' → RepF K α' H' σ' δ' → D.bk σ' H'
  | .cnt δ' h' => ∀ α' σ' H', Ext α H α' H' → RepH K α' H' h' → RepF K α' H' σ' δ' → D.ct σ' H'
  | .exc c fs δ' h' => ∀ α' σ' H' cv dd, Ext α H α' H' → RepH K α' H' h' → RepF K α' H' σ' δ' → XR K cls c fs α' H' cv dd → W cv dd σ' H'
  | .bad => False
def rdS (f : Fr → DH → SO) : TS := fun D σ H => ∃ α δ h, RepH K α H h ∧ RepF K α H σ δ ∧ PostS K cls W α H (f δ h) D
end
end FD

set_option Elab.async false
set_option linter.all false
set_option maxRecDepth 100000
set_option maxHeartbeats 1000000
/-! The D layer, 3: operations on values. -/
namespace FD
open PySem PySem.Spec PyProof.Rows L2

section
variable {K : PySem.W.Frag} {α α1 : List Addr} {H H1 : Hp} {h : DH} {X : Cx}
/-! ### inversion -/
theorem vr_non {v : V} (h : VR K α H .non v) : v = .non := h
theorem vr_bl {b : Bool} {v : V} (h : VR K α H (.bl b) v) : v = .bl b := h
theorem vr_int {i : Int} {v : V} (h : VR K α H (.int i) v) : v = .int i := h
theorem vr_str {s : List Nat} {v : V} (h : VR K α H (.str s) v) : v = .str (toS s) := h
theorem vr_tup {xs : List D} {v : V} (h : VR K α H (.tup xs) v) : ∃ a vs, v = .ref a ∧ SqT K H a vs ∧ VRs K α H xs vs := h
theorem vr_fl {xs : List D} {v : V} (h : VR K α H (.fl xs) v) : ∃ a vs, v = .ref a ∧ FzL K H a vs ∧ VRs K α H xs vs := h
theorem vr_ref {n : Nat} {v : V} (h : VR K α H (.ref n) v) : ∃ a, α[n]? = some a ∧ v = .ref a := h
theorem RepH.ref (r : RepH K α H h) {n : Nat} {v : V} (hv : VR K α H (.ref n) v) {xs : List D} (q : h[n]? = some (.lst xs)) : ∃ a vs, α[n]? = some a ∧ v = .ref a ∧ H a = some (.lst vs) ∧ VRs K α H xs vs := by
  obtain ⟨a, h1, rfl⟩ := vr_ref hv
  obtain ⟨b, vs, h2, h3, h4⟩ := r.list q
  rw [h1] at h2; cases h2
  exact ⟨a, vs, h1, rfl, h3, h4⟩
theorem lget_some {n : Nat} {xs : List D} (q : lget h n = some xs) : h[n]? = some (.lst xs) := by
  unfold lget at q
  split at q
  · rename_i e; cases q; exact e
  · cases q

/-! ### data -/
mutual
def toPy : D → PyData
  | .non => .none
  | .bl b => .bool b
  | .int i => .int i
  | .str s => .str (toS s)
  | .tup xs => .tuple (toPys xs)
  | .ref _ | .fl _ => .none
def toPys : List D → List PyData
  | [] => []
  | x :: xs => toPy x :: toPys xs
end
mutual
theorem dp_of : ∀ (n : Nat) (d : D) (v : V), D.shp n d = true → VR K α H d v → Dp K H v (toPy d)
  | _, .non, v, _, h => by rw [vr_non h]; exact .non
  | _, .bl b, v, _, h => by rw [vr_bl h]; exact .bl b
  | _, .int i, v, _, h => by rw [vr_int h]; exact .int i
  | _, .str s, v, _, h => by rw [vr_str h]; exact .str _
  | 0, .tup xs, v, s, _ => by simp [D.shp] at s
  | n + 1, .tup xs, v, s, h => by
    obtain ⟨a, vs, rfl, h1, h2⟩ := vr_tup h
    exact .tup h1 (dps_of n xs vs (by simpa [D.shp] using s) h2)
  | _, .ref _, v, s, _ => by simp [D.shp] at s
  | _, .fl _, v, s, _ => by simp [D.shp] at s
theorem dps_of : ∀ (n : Nat) (ds : List D) (vs : List V), D.shps n ds = true → VRs K α H ds vs → DpAll K H vs (toPys ds)
  | _, [], vs, _, h => by unfold VRs at h; subst h; exact .nil
  | n, x :: xs, vs, s, h => by
    unfold VRs at h
    obtain ⟨v, r, rfl, h1, h2⟩ := h
    simp only [D.shps, Bool.and_eq_true] at s
    exact .cons (dp_of n x v s.1 h1) (dps_of n xs r s.2 h2)
end
mutual
theorem can_of : ∀ (n : Nat) (d : D), D.shp n d = true → (toPy d).canLay0 = true ∧ (toPy d).depth ≤ n
  | _, .non, _ => by simp [toPy, PyData.canLay0, PyData.depth]
  | _, .bl b, _ => by simp [toPy, PyData.canLay0, PyData.depth]
  | _, .int i, _ => by simp [toPy, PyData.canLay0, PyData.depth]
  | _, .str s, h => by
    simp only [D.shp] at h
    refine ⟨?_, by simp [toPy, PyData.depth]⟩
    simp only [toPy, PyData.canLay0, PyData.strOk, toS]
    simpa using h
  | 0, .tup xs, s => by simp [D.shp] at s
  | n + 1, .tup xs, s => by
    have := cans_of n xs (by simpa [D.shp] using s)
    simp only [toPy, PyData.canLay0, PyData.depth]
    exact ⟨this.1, Nat.succ_le_succ this.2⟩
  | _, .ref _, s => by simp [D.shp] at s
  | _, .fl _, s => by simp [D.shp] at s
theorem cans_of : ∀ (n : Nat) (ds : List D), D.shps n ds = true → PyData.canLayAll0 (toPys ds) = true ∧ PyData.depthAll (toPys ds) ≤ n
  | _, [], _ => by simp [toPys, PyData.canLayAll0, PyData.depthAll]
  | n, x :: xs, s => by
    simp only [D.shps, Bool.and_eq_true] at s
    have h1 := can_of n x s.1
    have h2 := cans_of n xs s.2
    simp only [toPys, PyData.canLayAll0, PyData.depthAll, Bool.and_eq_true]
    exact ⟨⟨h1.1, h2.1⟩, Nat.max_le.mpr ⟨h1.2, h2.2⟩⟩
end
theorem shaped_of {n : Nat} {d : D} (hn : n ≤ 64) (h : D.shp n d = true) : SeqAt.shaped (toPy d) = true := by
  have := can_of n d h
  unfold SeqAt.shaped
  simp only [this.1, Bool.true_and, decide_eq_true_eq]
  omega
theorem str_beq {s t : List Nat} : (toS s == toS t) = (s == t) := by
  rw [Bool.eq_iff_iff]
  simp only [beq_iff_eq]
  exact ⟨toS_inj, fun e => by rw [e]⟩
mutual
theorem eqv_py : ∀ (d e : D) (n m : Nat), D.shp n d = true → D.shp m e = true → PyData.eqv (toPy d) (toPy e) = D.eqv d e
  | .non, e, n, m, h1, h2 => by cases e <;> simp_all [toPy, PyData.eqv, D.eqv, D.shp]
  | .bl a, e, n, m, h1, h2 => by cases e <;> simp_all [toPy, PyData.eqv, D.eqv, D.shp]
  | .int a, e, n, m, h1, h2 => by cases e <;> simp_all [toPy, PyData.eqv, D.eqv, D.shp]
  | .str s, e, n, m, h1, h2 => by
    cases e with
    | str t => simp only [toPy, PyData.eqv, D.eqv]; exact str_beq
    | _ => simp_all [toPy, PyData.eqv, D.eqv, D.shp]
  | .tup xs, e, n, m, h1, h2 => by
    cases e with
    | tup ys =>
      cases n with
      | zero => simp [D.shp] at h1
      | succ n =>
        cases m with
        | zero => simp [D.shp] at h2
        | succ m =>
          simp only [toPy, PyData.eqv, D.eqv]
          exact eqvs_py xs ys n m (by simpa [D.shp] using h1) (by simpa [D.shp] using h2)
    | _ => simp_all [toPy, PyData.eqv, D.eqv, D.shp]
  | .ref _, _, _, _, h1, _ => by simp [D.shp] at h1
  | .fl _, _, _, _, h1, _ => by simp [D.shp] at h1
theorem eqvs_py : ∀ (ds es : List D) (n m : Nat), D.shps n ds = true → D.shps m es = true → PyData.eqvAll (toPys ds) (toPys es) = D.eqvs ds es
  | [], [], _, _, _, _ => by simp [toPys, PyData.eqvAll, D.eqvs]
  | [], _ :: _, _, _, _, _ => by simp [toPys, PyData.eqvAll, D.eqvs]
  | _ :: _, [], _, _, _, _ => by simp [toPys, PyData.eqvAll, D.eqvs]
  | x :: xs, y :: ys, n, m, h1, h2 => by
    simp only [D.shps, Bool.and_eq_true] at h1 h2
    simp only [toPys, PyData.eqvAll, D.eqvs]
    rw [eqv_py x y n m h1.1 h2.1, eqvs_py xs ys n m h1.2 h2.2]
end

/-! ### operators -/
/-- what comes of it, without an exception -/
def rD2 (K : PySem.W.Frag) (f : DH → D → D → Out D) : R2 := fun x y H Q => ∃ α h d e r h', RepH K α H h ∧ VR K α H d x ∧ VR K α H e y ∧ f h d e = .ok r h' ∧
  ∀ α' H', Ext α H α' H' → RepH K α' H' h' → ∀ v, VR K α' H' r v → Q v H'
def toOp : BOp → Operator
  | .add => .Add | .sub => .Sub | .mul => .Mult | .fdiv => .FloorDiv | .mod => .Mod | .pow => .Pow
def toCmp : COp → CmpOp
  | .eq => .Eq | .ne => .NotEq | .lt => .Lt | .le => .LtE | .gt => .Gt | .ge => .GtE | .in_ => .In | .nin => .NotIn
theorem OpR.imp {f : Value → Value → Sem Value} {r r' : R2} (h : OpR X f r) (i : ∀ x y H Q, r' x y H Q → r x y H Q) : OpR X f r' := fun pins s σ H x y v u Q I rx ry q => h pins s σ H x y v u Q I rx ry (i _ _ _ _ q)
/-- a rule by cases: where it holds at each point -/
theorem OpR.at {f : Value → Value → Sem Value} {r' : R2} (h : ∀ x y H Q, r' x y H Q → ∃ r, OpR X f r ∧ r x y H Q) : OpR X f r' := fun pins s σ H x y v u Q I rx ry q => by
  obtain ⟨r, h1, h2⟩ := h _ _ _ _ q
  exact h1 pins s σ H x y v u Q I rx ry h2
theorem imod {X : Cx} : OpR X (binaryOp .Mod) (rI (fun _ j => j ≠ 0) fun i j => .int (i.fmod j)) := op_modN
theorem two_big {i : Int} (h : -big < i ∧ i < big) : -(2 ^ 64) < i ∧ i < 2 ^ 64 := by
  have e : (2 : Int) ^ 64 = big := by decide
  rw [e]; exact h
/-- the end of an operation that leaves the heap -/
theorem fin0 {r : D} {h' : DH} {Q : VK} {v : V} (q : ∀ α' H', Ext α H α' H' → RepH K α' H' h' → ∀ v, VR K α' H' r v → Q v H') (rp : RepH K α H h') (hv : VR K α H r v) : Q v H := q α H Ext.refl rp v hv
/-- .. and of one that lays a list -/
theorem fin1 {h' : DH} {zs : List D} {Q : VK} {vs : List V} {p : Addr} (q : ∀ α' H', Ext α H α' H' → RepH K α' H' (h' ++ [.lst zs]) → ∀ v, VR K α' H' (.ref h'.length) v → Q v H') (rp : RepH K α H h') (hp : H p = none) (hv : VRs K α H zs vs) : Q (.ref p) (upd H p (.lst vs)) := by
  have hn := rp.free hp
  have e1 : Ext α H α (upd H p (.lst vs)) := Ext.laid hp
  refine q (α ++ [p]) _ (e1.take hp hn) ((rp.laid hp).add hn ⟨vs, upd_same, hv.ext e1⟩) _ ⟨p, ?_, rfl⟩
  rw [← rp.len]; simp
theorem bin_ok : ∀ o : BOp, OpR X (binaryOp (toOp o)) (rD2 X.K fun h => binD h o)
  | .add => OpR.at fun x y H Q q => by
    obtain ⟨α, h, d, e, r, h', rp, hd, he, hf, q⟩ := q
    cases d <;> cases e <;> simp only [binD] at hf <;> try contradiction
    · cases hf
      rw [vr_int hd, vr_int he]
      exact ⟨_, op_add, _, _, rfl, rfl, fin0 q rp rfl⟩
    · rename_i a b
      split at hf
      · cases hf
        rename_i hz
        rw [vr_str hd, vr_str he]
        refine ⟨_, op_add_str, _, _, rfl, rfl, by rw [toS_length, toS_length, SL_eq]; exact hz, fin0 q rp ?_⟩
        show V.str _ = V.str _
        congr 1
        simp only [toS]
        show Str.append _ _ = _
        simp [Str.append]
      · cases hf
    · rename_i n m
      split at hf
      · rename_i a b ha hb
        split at hf
        · rename_i hz
          cases hf
          obtain ⟨p, vs, h1, rfl, h2, h3⟩ := rp.ref hd (lget_some ha)
          obtain ⟨p', vs', h1', rfl, h2', h3'⟩ := rp.ref he (lget_some hb)
          exact ⟨_, op_cat, _, _, _, _, rfl, rfl, h2, h2', by rw [h3.length, h3'.length, SL_eq]; exact hz, fun l hl => fin1 q rp hl (h3.append h3')⟩
        · cases hf
      · cases hf
  | .sub => OpR.at fun x y H Q q => by
    obtain ⟨α, h, d, e, r, h', rp, hd, he, hf, q⟩ := q
    cases d <;> cases e <;> simp only [binD] at hf <;> try contradiction
    cases hf
    rw [vr_int hd, vr_int he]
    exact ⟨_, op_sub, _, _, rfl, rfl, fin0 q rp rfl⟩
  | .mul => OpR.at fun x y H Q q => by
    obtain ⟨α, h, d, e, r, h', rp, hd, he, hf, q⟩ := q
    cases d <;> cases e <;> simp only [binD] at hf <;> try contradiction
    split at hf
    · rename_i hz
      cases hf
      rw [vr_int hd, vr_int he]
      exact ⟨_, op_mul, _, _, rfl, rfl, hz.imp two_big two_big, fin0 q rp rfl⟩
    · cases hf
  | .fdiv => OpR.at fun x y H Q q => by
    obtain ⟨α, h, d, e, r, h', rp, hd, he, hf, q⟩ := q
    cases d <;> cases e <;> simp only [binD] at hf <;> try contradiction
    split at hf
    · rename_i hz
      cases hf
      rw [vr_int hd, vr_int he]
      exact ⟨_, op_fdivN, _, _, rfl, rfl, hz, fin0 q rp rfl⟩
    · cases hf
  | .mod => OpR.at fun x y H Q q => by
    obtain ⟨α, h, d, e, r, h', rp, hd, he, hf, q⟩ := q
    cases d <;> cases e <;> simp only [binD] at hf <;> try contradiction
    split at hf
    · rename_i hz
      cases hf
      rw [vr_int hd, vr_int he]
      exact ⟨_, imod, _, _, rfl, rfl, hz, fin0 q rp rfl⟩
    · cases hf
  | .pow => OpR.at fun x y H Q q => by
    obtain ⟨α, h, d, e, r, h', rp, hd, he, hf, q⟩ := q
    cases d <;> cases e <;> simp only [binD] at hf <;> try contradiction
    split at hf
    · rename_i hz
      cases hf
      rw [vr_int hd, vr_int he]
      exact ⟨_, op_pow, _, _, rfl, rfl, ⟨hz.1, hz.2.1, by have := hz.2.2; omega⟩, fin0 q rp rfl⟩
    · cases hf
/-! ### comparisons -/
/-- a value without a heap's change -/
def rB2 (K : PySem.W.Frag) (f : DH → D → D → Option Bool) : R2 := fun x y H Q => ∃ α h d e b, RepH K α H h ∧ VR K α H d x ∧ VR K α H e y ∧ f h d e = some b ∧ Q (.bl b) H
theorem toS_nil : toS [] = (⟨#[]⟩ : Str) := rfl
theorem scal_vr {d e : D} {x y : V} (hs : D.scal d e = true) (hd : VR K α H d x) (he : VR K α H e y) : scal x y = true ∧ decide (x = y) = D.eqv d e := by
  cases d <;> cases e <;> (try (simp [D.scal] at hs; done)) <;> (unfold VR at hd he; subst hd he) <;> refine ⟨rfl, ?_⟩ <;> (try simp [D.eqv])
  · rename_i a b; rw [Bool.eq_iff_iff]; simp
  · rename_i a b; rw [Bool.eq_iff_iff]; simp
  · rename_i a b
    rw [Bool.eq_iff_iff]; simp
theorem shaped_lst {xs : List PyData} (s : PyData.canLayAll0 xs = true ∧ PyData.depthAll xs ≤ 63) : SeqAt.shaped (.list xs) = true := by
  have e1 : (PyData.list xs).canLay0 = true := by simp only [PyData.canLay0]; exact s.1
  have e2 : (PyData.list xs).depth ≤ 64 := by simp only [PyData.depth]; exact Nat.succ_le_succ s.2
  unfold SeqAt.shaped
  rw [e1, decide_eq_true e2]
  rfl
theorem lst_eq {xs ys : List D} : D.eqvs xs ys = D.eqv (.tup xs) (.tup ys) := by simp [D.eqv]
theorem eq_ok (hu : X.A.units + 64 < cLine) : OpR X (compareOp .Eq) (rB2 X.K eqD) := OpR.at fun x y H Q q => by
  obtain ⟨α, h, d, e, b, rp, hd, he, hf, q⟩ := q
  unfold eqD at hf
  split at hf
  · rename_i n m
    split at hf
    · rename_i xs ys h1 h2
      split at hf
      · rename_i hs
        cases hf
        simp only [Bool.and_eq_true] at hs
        obtain ⟨p, vs, _, rfl, g2, g3⟩ := rp.ref hd h1
        obtain ⟨p', vs', _, rfl, g2', g3'⟩ := rp.ref he h2
        have s1 := cans_of 63 xs hs.1
        have s2 := cans_of 63 ys hs.2
        refine ⟨_, op_eqD hu, .list (toPys xs), .list (toPys ys), .lst (SqL.of g2) (dps_of 63 _ _ hs.1 g3), .lst (SqL.of g2') (dps_of 63 _ _ hs.2 g3'), ?_, ?_, ?_⟩
        · exact shaped_lst s1
        · exact shaped_lst s2
        · simp only [PyData.eqv]; rw [eqvs_py _ _ 63 63 hs.1 hs.2]; exact q
      · cases hf
    · cases hf
  · cases hf
  · cases hf
  · split at hf
    · rename_i hs
      cases hf
      by_cases hc : D.scal d e = true
      · obtain ⟨z1, z2⟩ := scal_vr hc hd he
        exact ⟨_, op_eq, z1, by rw [z2]; exact q⟩
      · have hs' : D.shp 64 d = true ∧ D.shp 64 e = true := by simpa [hc] using hs
        exact ⟨_, op_eqD hu, _, _, dp_of 64 _ _ hs'.1 hd, dp_of 64 _ _ hs'.2 he, shaped_of (Nat.le_refl _) hs'.1, shaped_of (Nat.le_refl _) hs'.2, by rw [eqv_py _ _ 64 64 hs'.1 hs'.2]; exact q⟩
    · cases hf
theorem ne_ok (hu : X.A.units + 64 < cLine) : OpR X (compareOp .NotEq) (rB2 X.K fun h d e => (eqD h d e).map (!·)) := OpR.at fun x y H Q q => by
  obtain ⟨α, h, d, e, b, rp, hd, he, hf, q⟩ := q
  obtain ⟨c, hf0, rfl⟩ := Option.map_eq_some_iff.mp hf
  clear hf
  have hf := hf0
  clear hf0
  unfold eqD at hf
  split at hf
  · rename_i n m
    split at hf
    · rename_i xs ys h1 h2
      split at hf
      · rename_i hs
        cases hf
        simp only [Bool.and_eq_true] at hs
        obtain ⟨p, vs, _, rfl, g2, g3⟩ := rp.ref hd h1
        obtain ⟨p', vs', _, rfl, g2', g3'⟩ := rp.ref he h2
        have s1 := cans_of 63 xs hs.1
        have s2 := cans_of 63 ys hs.2
        refine ⟨_, op_neD hu, .list (toPys xs), .list (toPys ys), .lst (SqL.of g2) (dps_of 63 _ _ hs.1 g3), .lst (SqL.of g2') (dps_of 63 _ _ hs.2 g3'), ?_, ?_, ?_⟩
        · exact shaped_lst s1
        · exact shaped_lst s2
        · simp only [PyData.eqv]; rw [eqvs_py _ _ 63 63 hs.1 hs.2]; exact q
      · cases hf
    · cases hf
  · cases hf
  · cases hf
  · split at hf
    · rename_i hs
      cases hf
      by_cases hc : D.scal d e = true
      · obtain ⟨z1, z2⟩ := scal_vr hc hd he
        exact ⟨_, op_ne, z1, by rw [z2]; exact q⟩
      · have hs' : D.shp 64 d = true ∧ D.shp 64 e = true := by simpa [hc] using hs
        exact ⟨_, op_neD hu, _, _, dp_of 64 _ _ hs'.1 hd, dp_of 64 _ _ hs'.2 he, shaped_of (Nat.le_refl _) hs'.1, shaped_of (Nat.le_refl _) hs'.2, by rw [eqv_py _ _ 64 64 hs'.1 hs'.2]; exact q⟩
    · cases hf
theorem flat_vr {d : D} {v : V} (hf : d.flat = true) (h : VR K α H d v) : flatV v = true := by
  cases d <;> (try (simp [D.flat] at hf; done)) <;> (unfold VR at h; subst h; rfl)
theorem flats_vr : ∀ {ds : List D} {vs : List V}, ds.all D.flat = true → VRs K α H ds vs → vs.all flatV = true
  | [], vs, _, h => by unfold VRs at h; subst h; rfl
  | x :: xs, vs, hf, h => by
    unfold VRs at h
    obtain ⟨v, r, rfl, h1, h2⟩ := h
    simp only [List.all_cons, Bool.and_eq_true] at hf ⊢
    exact ⟨flat_vr hf.1 h1, flats_vr hf.2 h2⟩
theorem eqV_vr {d e : D} {x y : V} (hd' : d.flat = true) (he' : e.flat = true) (hd : VR K α H d x) (he : VR K α H e y) : eqV x y = D.eqv d e := by
  cases d <;> (try (simp [D.flat] at hd'; done)) <;> cases e <;> (try (simp [D.flat] at he'; done)) <;> (unfold VR at hd he; subst hd he) <;> simp [eqV, D.eqv]
  rename_i s t
  exact str_beq
theorem inV_vr {d : D} {x : V} (hd' : d.flat = true) (hd : VR K α H d x) : ∀ {ds : List D} {vs : List V}, ds.all D.flat = true → VRs K α H ds vs → inV x vs = ds.any fun y => D.eqv y d
  | [], vs, _, h => by unfold VRs at h; subst h; rfl
  | y :: ys, vs, hf, h => by
    unfold VRs at h
    obtain ⟨v, r, rfl, h1, h2⟩ := h
    simp only [List.all_cons, Bool.and_eq_true] at hf
    have := inV_vr hd' hd hf.2 h2
    unfold inV at this ⊢
    simp only [List.any_cons]
    rw [this, eqV_vr hf.1 hd' h1 hd]
theorem mem_dec {c : Nat} {s : List Nat} : decide (c ∈ s) = s.contains c := by rw [Bool.eq_iff_iff]; simp
theorem in_nil (s : Str) : (!(Builtin.Str.occurrences s ⟨#[]⟩ 0 s.length 1).isEmpty) = true :=
  (StrLaws.found_iff s ⟨#[]⟩).mpr ⟨0, by simp [Str.length], by simp [Builtin.Str.subAt, Str.length]⟩
theorem in_ok : OpR X (compareOp .In) (rB2 X.K inD) := OpR.at fun x y H Q q => by
  obtain ⟨α, h, d, e, b, rp, hd, he, hf, q⟩ := q
  unfold inD at hf
  split at hf
  · cases hf
    rw [vr_str hd, vr_str he]
    exact ⟨_, op_in_str, _, _, rfl, rfl, by rw [show toS [] = (⟨#[]⟩ : Str) from rfl, in_nil]; exact q⟩
  · cases hf
    rw [vr_str hd, vr_str he]
    refine ⟨_, op_in_sign, _, _, rfl, rfl, ?_⟩
    rw [toS_list]
    rw [mem_dec]
    exact q
  · split at hf
    · rename_i hz
      cases hf
      simp only [Bool.and_eq_true] at hz
      obtain ⟨a, vs, rfl, h1, h2⟩ := vr_tup he
      exact ⟨_, op_in_seq, a, vs, rfl, .inr h1, flat_vr hz.1 hd, flats_vr hz.2 h2, by rw [if_neg (by decide), inV_vr hz.1 hd hz.2 h2]; exact q⟩
    · cases hf
  · split at hf
    · rename_i hl
      split at hf
      · rename_i hz
        cases hf
        simp only [Bool.and_eq_true] at hz
        obtain ⟨a, vs, _, rfl, h1, h2⟩ := rp.ref he (lget_some hl)
        exact ⟨_, op_in_seq, a, vs, rfl, .inl (SqL.of h1), flat_vr hz.1 hd, flats_vr hz.2 h2, by rw [if_neg (by decide), inV_vr hz.1 hd hz.2 h2]; exact q⟩
      · cases hf
    · cases hf
  · cases hf
theorem nin_ok : OpR X (compareOp .NotIn) (rB2 X.K fun h d e => (inD h d e).map (!·)) := OpR.at fun x y H Q q => by
  obtain ⟨α, h, d, e, b, rp, hd, he, hf, q⟩ := q
  obtain ⟨c, hf0, rfl⟩ := Option.map_eq_some_iff.mp hf
  clear hf
  have hf := hf0
  clear hf0
  unfold inD at hf
  split at hf
  · cases hf
    rw [vr_str hd, vr_str he]
    exact ⟨_, op_notin_str, _, _, rfl, rfl, by rw [show toS [] = (⟨#[]⟩ : Str) from rfl, in_nil]; exact q⟩
  · cases hf
    rw [vr_str hd, vr_str he]
    refine ⟨_, op_notIn_sign, _, _, rfl, rfl, ?_⟩
    rw [toS_list]
    rw [mem_dec]
    exact q
  · split at hf
    · rename_i hz
      cases hf
      simp only [Bool.and_eq_true] at hz
      obtain ⟨a, vs, rfl, h1, h2⟩ := vr_tup he
      exact ⟨_, op_notIn_seq, a, vs, rfl, .inr h1, flat_vr hz.1 hd, flats_vr hz.2 h2, by rw [if_pos rfl, inV_vr hz.1 hd hz.2 h2]; exact q⟩
    · cases hf
  · split at hf
    · rename_i hl
      split at hf
      · rename_i hz
        cases hf
        simp only [Bool.and_eq_true] at hz
        obtain ⟨a, vs, _, rfl, h1, h2⟩ := rp.ref he (lget_some hl)
        exact ⟨_, op_notIn_seq, a, vs, rfl, .inl (SqL.of h1), flat_vr hz.1 hd, flats_vr hz.2 h2, by rw [if_pos rfl, inV_vr hz.1 hd hz.2 h2]; exact q⟩
      · cases hf
    · cases hf
  · cases hf
theorem cmp_ok (hu : X.A.units + 64 < cLine) : ∀ o : COp, OpR X (compareOp (toCmp o)) (rB2 X.K fun h => cmpD h o)
  | .eq => OpR.imp (eq_ok hu) fun _ _ _ _ q => q
  | .ne => OpR.imp (ne_ok hu) fun _ _ _ _ q => q
  | .in_ => OpR.imp in_ok fun x y _ _ ⟨α, h, d, e, b, rp, hd, he, hf, q⟩ => ⟨α, h, d, e, b, rp, hd, he, by cases d <;> exact hf, q⟩
  | .nin => OpR.imp nin_ok fun x y _ _ ⟨α, h, d, e, b, rp, hd, he, hf, q⟩ => ⟨α, h, d, e, b, rp, hd, he, by cases d <;> exact hf, q⟩
  | .lt => OpR.at fun x y H Q q => by
    obtain ⟨α, h, d, e, b, rp, hd, he, hf, q⟩ := q
    cases d <;> cases e <;> simp only [cmpD] at hf <;> try contradiction
    · cases hf; rw [vr_int hd, vr_int he]; exact ⟨_, op_lt, _, _, rfl, rfl, q⟩
    · cases hf; rw [vr_str hd, vr_str he]; exact ⟨_, op_lt_str, _, _, rfl, rfl, by rw [toS_list, toS_list]; exact q⟩
  | .le => OpR.at fun x y H Q q => by
    obtain ⟨α, h, d, e, b, rp, hd, he, hf, q⟩ := q
    cases d <;> cases e <;> simp only [cmpD] at hf <;> try contradiction
    · cases hf; rw [vr_int hd, vr_int he]; exact ⟨_, op_le, _, _, rfl, rfl, q⟩
    · cases hf; rw [vr_str hd, vr_str he]; exact ⟨_, op_le_str, _, _, rfl, rfl, by rw [toS_list, toS_list]; exact q⟩
  | .gt => OpR.at fun x y H Q q => by
    obtain ⟨α, h, d, e, b, rp, hd, he, hf, q⟩ := q
    cases d <;> cases e <;> simp only [cmpD] at hf <;> try contradiction
    · cases hf; rw [vr_int hd, vr_int he]; exact ⟨_, op_gt, _, _, rfl, rfl, q⟩
    · cases hf; rw [vr_str hd, vr_str he]; exact ⟨_, op_gt_str, _, _, rfl, rfl, by rw [toS_list, toS_list]; exact q⟩
  | .ge => OpR.at fun x y H Q q => by
    obtain ⟨α, h, d, e, b, rp, hd, he, hf, q⟩ := q
    cases d <;> cases e <;> simp only [cmpD] at hf <;> try contradiction
    · cases hf; rw [vr_int hd, vr_int he]; exact ⟨_, op_ge, _, _, rfl, rfl, q⟩
    · cases hf; rw [vr_str hd, vr_str he]; exact ⟨_, op_ge_str, _, _, rfl, rfl, by rw [toS_list, toS_list]; exact q⟩
end
end FD

set_option Elab.async false
set_option linter.all false
set_option maxRecDepth 100000
set_option maxHeartbeats 1000000
/-! The D layer, 4: more operations on values. -/
namespace FD
open PySem PySem.Spec PyProof.Rows L2
section
variable {K : PySem.W.Frag} {α α1 : List Addr} {H H1 : Hp} {h : DH} {X : Cx}
/-! ### is -/
def siV : Si → V
  | .non => .non
  | .tr => .bl true
  | .fl => .bl false
theorem isD_vr {d : D} {v : V} (hv : VR K α H d v) (s : Si) : decide (v = siV s) = isD d s := by
  cases d <;> cases s <;> (first | (unfold VR at hv; subst hv; simp [siV, isD]; done) | (obtain ⟨a, vs, rfl, _⟩ := vr_tup hv; simp [siV, isD]; done) | (obtain ⟨a, _, rfl⟩ := vr_ref hv; simp [siV, isD]; done) | (obtain ⟨a, vs, rfl, _⟩ := vr_fl hv; simp [siV, isD]; done) | (rename_i b; unfold VR at hv; subst hv; cases b <;> simp [siV, isD]; done))
theorem is_b {M : Model} {A : Around} {E : Value → Shared → Prop} {s : Shared} {Q : Value → Shared → Prop} {x : V} {v : Value} {b : Bool} (r : RelV x v) (h : Q (.bool (decide (x = .bl b))) s) : wpAny M A (compareOp .Is v (.bool b)) Q E s := by
  have e : (v == Value.bool b) = decide (x = .bl b) := by
    cases x <;> (first | (cases r; simp; done) | (obtain ⟨t, rfl⟩ := r; simp; done) | (cases r; rw [Bool.eq_iff_iff]; simp; done) | skip)
  rw [← e] at h
  cases x <;> (first | (cases r; exact wpAny_pure h) | (obtain ⟨t, rfl⟩ := r; exact wpAny_pure h))
theorem isn_b {M : Model} {A : Around} {E : Value → Shared → Prop} {s : Shared} {Q : Value → Shared → Prop} {x : V} {v : Value} {b : Bool} (r : RelV x v) (h : Q (.bool (!decide (x = .bl b))) s) : wpAny M A (compareOp .IsNot v (.bool b)) Q E s := by
  have e : (v == Value.bool b) = decide (x = .bl b) := by
    cases x <;> (first | (cases r; simp; done) | (obtain ⟨t, rfl⟩ := r; simp; done) | (cases r; rw [Bool.eq_iff_iff]; simp; done) | skip)
  rw [← e] at h
  cases x <;> (first | (cases r; exact wpAny_pure h) | (obtain ⟨t, rfl⟩ := r; exact wpAny_pure h))
theorem is_ok (s : Si) : OpR X (compareOp .Is) (fun x y H Q => y = siV s ∧ Q (.bl (decide (x = siV s))) H) := by
  intro pins st σ H x y v u Q I rx ry hq
  obtain ⟨rfl, q⟩ := hq
  cases s with
  | non => exact op_isN pins st σ H x _ v u Q I rx ry ⟨rfl, q⟩
  | tr => cases ry; exact is_b rx (fin_bl I q rfl)
  | fl => cases ry; exact is_b rx (fin_bl I q rfl)
theorem isnot_ok (s : Si) : OpR X (compareOp .IsNot) (fun x y H Q => y = siV s ∧ Q (.bl (!decide (x = siV s))) H) := by
  intro pins st σ H x y v u Q I rx ry hq
  obtain ⟨rfl, q⟩ := hq
  cases s with
  | non => exact op_notN pins st σ H x _ v u Q I rx ry ⟨rfl, q⟩
  | tr => cases ry; exact isn_b rx (fin_bl I q rfl)
  | fl => cases ry; exact isn_b rx (fin_bl I q rfl)

/-! ### truth -/
theorem emp_vrs {ds : List D} {vs : List V} (h : VRs K α H ds vs) : vs.isEmpty = ds.isEmpty := by
  have := h.length
  cases ds <;> cases vs <;> simp_all
theorem tru_vr (rp : RepH K α H h) {d : D} {v : V} (hv : VR K α H d v) {b : Bool} (e : truD h d = some b) : TruV K v H b := by
  cases d with
  | non => cases e; rw [vr_non hv]; rfl
  | bl k => cases e; rw [vr_bl hv]; rfl
  | int i => cases e; rw [vr_int hv]; rfl
  | str s =>
    rw [vr_str hv]
    simp only [truD] at e
    split at e
    · rename_i hz
      cases e
      refine ⟨by rw [toS_length, SL_eq]; exact hz, ?_⟩
      rw [toS_length]
      cases s with
      | nil => rfl
      | cons a r => simp; omega
    · cases e
  | tup xs =>
    cases e
    obtain ⟨a, vs, rfl, h1, h2⟩ := vr_tup hv
    exact .inr (.inl ⟨vs, h1, by rw [emp_vrs h2]⟩)
  | ref n =>
    simp only [truD] at e
    split at e
    · rename_i xs hl
      cases e
      obtain ⟨a, vs, _, rfl, h1, h2⟩ := rp.ref hv hl
      exact .inl ⟨vs, SqL.of h1, by rw [emp_vrs h2]⟩
    · cases e
  | fl xs => cases e

/-! ### subscripts -/
theorem atI_vrs {ds : List D} {vs : List V} {i : Int} {d : D} (h : VRs K α H ds vs) (e : FD.atI ds i = some d) : ∃ v, L2.atI vs i = some v ∧ VR K α H d v := by
  unfold FD.atI at e
  obtain ⟨j, e1, e2⟩ := Option.bind_eq_some_iff.mp e
  obtain ⟨v, h1, h2⟩ := h.get e2
  refine ⟨v, ?_, h2⟩
  unfold L2.atI
  rw [h.length]
  have e1' : L2.ixN ds.length i = some j := e1
  rw [e1']
  exact h1
/-- x[i] -/
def rIx (K : PySem.W.Frag) : R2 := fun x y H Q => ∃ α h d e r, RepH K α H h ∧ VR K α H d x ∧ VR K α H e y ∧ ixD h d e = some r ∧ ∀ v, VR K α H r v → Q v H
theorem IxR.at {r' : R2} (h : ∀ x y H Q, r' x y H Q → ∃ r, IxR X r ∧ r x y H Q) : IxR X r' := fun value slice pins s σ H x y v u Q I rx ry q => by
  obtain ⟨r, h1, h2⟩ := h _ _ _ _ q
  exact h1 value slice pins s σ H x y v u Q I rx ry h2
theorem ix_ok : IxR X (rIx X.K) := IxR.at fun x y H Q q => by
  obtain ⟨α, h, d, e, r, rp, hd, he, hf, q⟩ := q
  unfold ixD at hf
  split at hf
  · obtain ⟨a, vs, rfl, h1, h2⟩ := vr_tup hd
    obtain ⟨v, e1, e2⟩ := atI_vrs h2 hf
    rw [vr_int he]
    exact ⟨_, ix_tup, _, _, _, _, rfl, rfl, h1, e1, q v e2⟩
  · obtain ⟨a, vs, rfl, h1, h2⟩ := vr_fl hd
    obtain ⟨v, e1, e2⟩ := atI_vrs h2 hf
    rw [vr_int he]
    exact ⟨_, ix_list, _, _, _, _, rfl, rfl, h1.sql, e1, q v e2⟩
  · split at hf
    · rename_i hz
      obtain ⟨c, hc, rfl⟩ := Option.map_eq_some_iff.mp hf
      rw [vr_str hd, vr_int he]
      refine ⟨_, ix_str, _, _, c, rfl, rfl, by rw [toS_length, SL_eq]; exact hz, ?_, q _ rfl⟩
      rw [toS_list]; exact hc
    · cases hf
  · obtain ⟨xs, hl, hf⟩ := Option.bind_eq_some_iff.mp hf
    obtain ⟨a, vs, _, rfl, h1, h2⟩ := rp.ref hd (lget_some hl)
    obtain ⟨v, e1, e2⟩ := atI_vrs h2 hf
    rw [vr_int he]
    exact ⟨_, ix_list, _, _, _, _, rfl, rfl, SqL.of h1, e1, q v e2⟩
  · cases hf

/-! ### slices -/
theorem cut_vrs {ds : List D} {vs : List V} (h : VRs K α H ds vs) (lo hi : Option Int) : VRs K α H (cut ds lo hi) (cutV vs lo hi) := by
  unfold cut cutV
  have e : ∀ n d o, HT.sIx n d o = sIx n d o := fun _ _ o => by cases o <;> rfl
  rw [e, e, h.length]
  exact (h.drop _).take _
/-- x[lo:hi] -/
def rSli (K : PySem.W.Frag) : V → Option Int → Option Int → Hp → VK → Prop := fun x lo hi H Q => ∃ α h d r h', RepH K α H h ∧ VR K α H d x ∧ sliD h d lo hi = .ok r h' ∧
  ∀ α' H', Ext α H α' H' → RepH K α' H' h' → ∀ v, VR K α' H' r v → Q v H'
theorem cutS_toS (s : List Nat) (lo hi : Option Int) : cutS (toS s) lo hi = toS (cut s lo hi) := by
  unfold cutS cut toS
  have e : ∀ n d o, HT.sIx n d o = sIx n d o := fun _ _ o => by cases o <;> rfl
  have l : (⟨s.toArray⟩ : Str).length = s.length := toS_length s
  rw [l, e, e]
theorem SlR.at {r' : V → Option Int → Option Int → Hp → VK → Prop} (h : ∀ x lo hi H Q, r' x lo hi H Q → ∃ r, SlR X r ∧ r x lo hi H Q) : SlR X r' := fun pins s σ H x v vl vu lo hi sl Q I rx hs pl pu q => by
  obtain ⟨r, h1, h2⟩ := h _ _ _ _ _ q
  exact h1 pins s σ H x v vl vu lo hi sl Q I rx hs pl pu h2
theorem sli_ok : SlR X (rSli X.K) := SlR.at fun x lo hi H Q q => by
  obtain ⟨α, h, d, r, h', rp, hd, hf, q⟩ := q
  unfold sliD at hf
  split at hf
  · split at hf
    · rename_i hz
      cases hf
      rw [vr_str hd]
      refine ⟨_, sl_str, _, rfl, by rw [toS_length, SL_eq]; exact hz, ?_⟩
      rw [cutS_toS]
      exact fin0 q rp rfl
    · cases hf
  · split at hf
    · rename_i hl
      cases hf
      obtain ⟨a, vs, _, rfl, h1, h2⟩ := rp.ref hd hl
      exact ⟨_, sl_list, _, _, rfl, SqL.of h1, fun p hp => fin1 q rp hp (cut_vrs h2 lo hi)⟩
    · cases hf
  · cases hf

/-! ### built-ins -/
theorem CallR.at {f : Value} {r' : List V → Hp → VK → Prop} (h : ∀ xs H Q, r' xs H Q → ∃ r, CallR X f r ∧ r xs H Q) : CallR X f r' := fun pins s σ H xs us Q I rx q => by
  obtain ⟨r, h1, h2⟩ := h _ _ _ q
  exact h1 pins s σ H xs us Q I rx h2
theorem digit_of' {c k : Nat} (h : digit? c = some k) : (48 ≤ c ∧ c ≤ 57) ∧ k = c - 48 := by
  unfold digit? at h
  split at h
  · rename_i hc
    cases h
    exact ⟨hc, rfl⟩
  · cases h
theorem natOf_val : ∀ {l : List Nat} {acc n : Nat}, natOf acc l = some n → NumText.AllDigits l ∧ n = l.foldl (fun acc c => acc * 10 + (c - 48)) acc
  | [], acc, n, h => by cases h; exact ⟨fun _ h => (by cases h), rfl⟩
  | c :: r, acc, n, h => by
    unfold natOf at h
    split at h
    · rename_i k hk
      obtain ⟨h1, rfl⟩ := digit_of' hk
      obtain ⟨h2, h3⟩ := natOf_val h
      refine ⟨fun d hd => ?_, h3⟩
      rcases List.mem_cons.mp hd with rfl | hd
      · exact h1
      · exact h2 d hd
    · cases h
theorem intOf_text {s : List Nat} {n : Int} (hl : s.length ≤ 640) (h : intOf s = some n) : PySem.intText? (toS s) = some n := by
  unfold intOf at h
  split at h
  · cases h
  · rename_i r
    split at h
    · cases h
    · rename_i hr
      obtain ⟨k, hk, rfl⟩ := Option.map_eq_some_iff.mp h
      obtain ⟨h1, h2⟩ := natOf_val hk
      have := PySem.intText_neg (x := toS (45 :: r)) (cs := r) (toS_list _) h1 hr (by rw [toS_length]; omega)
      rw [this, h2]
      rfl
  · rename_i hne _
    obtain ⟨k, hk, rfl⟩ := Option.map_eq_some_iff.mp h
    obtain ⟨h1, h2⟩ := natOf_val hk
    have := PySem.intText_digits (x := toS s) (by rw [toS_list]; exact h1) (by rw [toS_list]; intro e; exact hne e) (by rw [toS_length]; omega)
    rw [this, h2, toS_list]
    rfl
theorem strOf_eq (i : Int) : (toString i : Str) = toS (strOf i) := by
  show Str.ofString _ = _
  rw [Str.ofString_eq_toList]
  rfl
def rBi (K : PySem.W.Frag) (b : Bi) : List V → Hp → VK → Prop := fun xs H Q => ∃ α h d x r, xs = [x] ∧ RepH K α H h ∧ VR K α H d x ∧ biD h b d = some r ∧ ∀ α' H', Ext α H α' H' → RepH K α' H' h → ∀ v, VR K α' H' r v → Q v H'
theorem len_ok : CallR X (.builtin "len") (rBi X.K .len) := CallR.at fun xs H Q q => by
  obtain ⟨α, h, d, x, r, rfl, rp, hd, hf, q⟩ := q
  cases d <;> simp only [biD] at hf <;> try contradiction
  · split at hf
    · rename_i hz
      cases hf
      rw [vr_str hd]
      exact ⟨_, call_len, _, _, rfl, ⟨by rw [toS_length, SL_eq]; exact hz, rfl⟩, q _ _ Ext.refl rp _ (by rw [toS_length]; rfl)⟩
    · cases hf
  · cases hf
    obtain ⟨a, vs, rfl, h1, h2⟩ := vr_tup hd
    exact ⟨_, call_len, _, _, rfl, .inr ⟨vs, h1, rfl⟩, q _ _ Ext.refl rp _ (by rw [h2.length]; rfl)⟩
  · split at hf
    · rename_i hl
      cases hf
      obtain ⟨a, vs, _, rfl, h1, h2⟩ := rp.ref hd (lget_some hl)
      exact ⟨_, call_len, _, _, rfl, .inl ⟨vs, SqL.of h1, rfl⟩, q _ _ Ext.refl rp _ (by rw [h2.length]; rfl)⟩
    · cases hf
  · cases hf
    obtain ⟨a, vs, rfl, h1, h2⟩ := vr_fl hd
    exact ⟨_, call_len, _, _, rfl, .inl ⟨vs, h1.sql, rfl⟩, q _ _ Ext.refl rp _ (by rw [h2.length]; rfl)⟩
theorem int_ok : CallR X (.type "int") (rBi X.K .int) := CallR.at fun xs H Q q => by
  obtain ⟨α, h, d, x, r, rfl, rp, hd, hf, q⟩ := q
  cases d <;> simp only [biD] at hf <;> try contradiction
  · cases hf
    rw [vr_bl hd]
    exact ⟨_, call_int1, .inr ⟨_, rfl, q _ _ Ext.refl rp _ rfl⟩⟩
  · cases hf
    rw [vr_int hd]
    exact ⟨_, call_int1, .inl ⟨_, rfl, q _ _ Ext.refl rp _ rfl⟩⟩
  · split at hf
    · rename_i hz
      obtain ⟨n, hn, rfl⟩ := Option.map_eq_some_iff.mp hf
      rw [vr_str hd]
      exact ⟨_, call_int_str, _, n, rfl, intOf_text hz hn, by rw [toS_length]; exact hz, q _ _ Ext.refl rp _ rfl⟩
    · cases hf
theorem str_ok : CallR X (.type "str") (rBi X.K .str) := CallR.at fun xs H Q q => by
  obtain ⟨α, h, d, x, r, rfl, rp, hd, hf, q⟩ := q
  cases d <;> simp only [biD] at hf <;> try contradiction
  split at hf
  · rename_i hz
    cases hf
    rw [vr_int hd]
    exact ⟨_, call_str_int, _, rfl, hz, q _ _ Ext.refl rp _ (by rw [strOf_eq]; rfl)⟩
  · cases hf
theorem tup_ok : CallR X (.type "tuple") (rBi X.K .tuple) := CallR.at fun xs H Q q => by
  obtain ⟨α, h, d, x, r, rfl, rp, hd, hf, q⟩ := q
  cases d <;> simp only [biD] at hf <;> try contradiction
  · cases hf
    obtain ⟨a, vs, rfl, h1, h2⟩ := vr_tup hd
    exact ⟨_, call_tuple_of, _, _, rfl, .inr ⟨h1, q _ _ Ext.refl rp _ hd⟩⟩
  · obtain ⟨ys, hl, rfl⟩ := Option.map_eq_some_iff.mp hf
    obtain ⟨a, vs, _, rfl, h1, h2⟩ := rp.ref hd (lget_some hl)
    refine ⟨_, call_tuple_of, _, _, rfl, .inl ⟨SqL.of h1, fun l hl => ?_⟩⟩
    have e := Ext.laid (α := α) (o := .tup vs) hl
    exact q _ _ e (rp.laid hl) _ ⟨l, vs, rfl, SqT.of upd_same, h2.ext e⟩
end
end FD

set_option Elab.async false
set_option linter.all false
set_option maxRecDepth 100000
set_option maxHeartbeats 1000000
/-! The D layer, 5: isinstance, fresh lists, methods of texts and lists. -/
namespace FD
open PySem PySem.Spec PyProof.Rows L2
section
variable {K : PySem.W.Frag} {α α1 : List Addr} {H H1 : Hp} {h : DH} {X : Cx}
/-! ### isinstance -/
def tyN : Ty → String
  | .int => "int" | .str => "str" | .tuple => "tuple" | .bool => "bool" | .list => "list"
theorem kit_all : ∀ t : Ty, kitB "NoneType" (tyN t) = some false ∧ kitB "bool" (tyN t) = some (decide (t = .int ∨ t = .bool)) ∧ kitB "int" (tyN t) = some (decide (t = .int)) ∧ kitB "str" (tyN t) = some (decide (t = .str)) ∧
    kitB "tuple" (tyN t) = some (decide (t = .tuple)) ∧ kitB "list" (tyN t) = some (decide (t = .list))
  | .int => by decide +kernel
  | .str => by decide +kernel
  | .tuple => by decide +kernel
  | .bool => by decide +kernel
  | .list => by decide +kernel
theorem isi_vr (rp : RepH K α H h) {d : D} {v : V} (hv : VR K α H d v) {t : Ty} {b : Bool} (e : isiD h d t = some b) : ∃ T : String, TyX K H v (.type T) ∧ PySem.W.kitOne K (.type T) (.type (tyN t)) = some b := by
  obtain ⟨k1, k2, k3, k4, k5, k6⟩ := kit_all t
  cases d with
  | non => cases e; rw [vr_non hv]; exact ⟨_, .base .non, kit_ty k1⟩
  | bl k => cases e; rw [vr_bl hv]; exact ⟨_, .base (.bl _), kit_ty k2⟩
  | int i => cases e; rw [vr_int hv]; exact ⟨_, .base (.int _), kit_ty k3⟩
  | str s => cases e; rw [vr_str hv]; exact ⟨_, .base (.str _), kit_ty k4⟩
  | tup xs =>
    cases e
    obtain ⟨a, vs, rfl, (h1 | ⟨o, h1⟩) | ⟨o, its, n, h1, h2, _⟩, _⟩ := vr_tup hv
    · exact ⟨_, .base (.tup h1), kit_ty k5⟩
    · exact ⟨_, .fTuple h1, kit_ty k5⟩
    · exact ⟨_, .kTuple h1 h2, kit_ty k5⟩
  | ref n =>
    simp only [isiD] at e
    split at e
    · rename_i xs hl
      cases e
      obtain ⟨a, vs, _, rfl, h1, _⟩ := rp.ref hv hl
      exact ⟨_, .base (.lst h1), kit_ty k6⟩
    · cases e
  | fl xs => cases e

/-! ### built-ins of a fresh list -/
theorem bools_vr : ∀ {ds : List D} {vs : List V} {bs : List Bool}, boolsOf ds = some bs → VRs K α H ds vs → vs = bs.map V.bl
  | [], vs, bs, e, h => by cases e; exact h
  | d :: r, vs, bs, e, h => by
    unfold VRs at h
    obtain ⟨v, us, rfl, h1, h2⟩ := h
    cases d <;> simp only [boolsOf] at e <;> try contradiction
    obtain ⟨cs, hc, rfl⟩ := Option.map_eq_some_iff.mp e
    rw [vr_bl h1, bools_vr hc h2]
    rfl
/-- at p a list that nothing leads to -/
def rBl (K : PySem.W.Frag) (b : Bl) : List V → Hp → VK → Prop := fun xs H Q => ∃ α h ds p vs r, xs = [.ref p] ∧ RepH K α H h ∧ H p = some (.lst vs) ∧ p ∉ α ∧ VRs K α H ds vs ∧ blD b ds = some r ∧
  ∀ α' H', Ext α H α' H' → RepH K α' H' h → ∀ v, VR K α' H' r v → Q v H'
theorem blen_ok : CallR X (.builtin "len") (rBl X.K .len) := CallR.at fun xs H Q q => by
  obtain ⟨α, h, ds, p, vs, r, rfl, rp, hp, hn, hv, hf, q⟩ := q
  cases hf
  exact ⟨_, call_len, _, _, rfl, .inl ⟨vs, SqL.of hp, rfl⟩, q _ _ Ext.refl rp _ (by rw [hv.length]; rfl)⟩
theorem btup_ok : CallR X (.type "tuple") (rBl X.K .tuple) := CallR.at fun xs H Q q => by
  obtain ⟨α, h, ds, p, vs, r, rfl, rp, hp, hn, hv, hf, q⟩ := q
  cases hf
  refine ⟨_, call_tuple_of, _, _, rfl, .inl ⟨SqL.of hp, fun l hl => ?_⟩⟩
  have e := Ext.laid (α := α) (o := .tup vs) hl
  exact q _ _ e (rp.laid hl) _ ⟨l, vs, rfl, SqT.of upd_same, hv.ext e⟩
theorem ball_ok (hc : X.calm = true) : CallR X (.builtin "all") (rBl X.K .all) := CallR.at fun xs H Q q => by
  obtain ⟨α, h, ds, p, vs, r, rfl, rp, hp, hn, hv, hf, q⟩ := q
  obtain ⟨bs, hb, rfl⟩ := Option.map_eq_some_iff.mp hf
  rw [bools_vr hb hv] at hp
  exact ⟨_, cr_all hc, _, _, rfl, SqL.of hp, q _ _ Ext.refl rp _ rfl⟩
theorem bany_ok (hc : X.calm = true) : CallR X (.builtin "any") (rBl X.K .any) := CallR.at fun xs H Q q => by
  obtain ⟨α, h, ds, p, vs, r, rfl, rp, hp, hn, hv, hf, q⟩ := q
  obtain ⟨bs, hb, rfl⟩ := Option.map_eq_some_iff.mp hf
  rw [bools_vr hb hv] at hp
  exact ⟨_, cr_any hc, _, _, rfl, SqL.of hp, q _ _ Ext.refl rp _ rfl⟩

/-! ### find -/
theorem fndL_none {c : Nat} : ∀ {l : List Nat} {k : Nat}, fndL c l k = none → ∀ m : Nat, l[m]? ≠ some c
  | [], k, _, m => by simp
  | x :: r, k, h, m => by
    unfold fndL at h
    split at h
    · cases h
    · rename_i hx
      cases m with
      | zero => simp; exact hx
      | succ m => simpa using fndL_none h m
theorem fndL_some {c : Nat} : ∀ {l : List Nat} {k j : Nat}, fndL c l k = some j → k ≤ j ∧ l[j - k]? = some c ∧ ∀ m : Nat, m < j - k → l[m]? ≠ some c
  | [], k, j, h => by cases h
  | x :: r, k, j, h => by
    unfold fndL at h
    split at h
    · rename_i hx
      cases h
      exact ⟨Nat.le_refl _, by simp [hx], fun m hm => by omega⟩
    · rename_i hx
      obtain ⟨h1, h2, h3⟩ := fndL_some h
      refine ⟨by omega, ?_, fun m hm => ?_⟩
      · have e : j - k = (j - (k + 1)) + 1 := by omega
        rw [e]; simpa using h2
      · cases m with
        | zero => simp; exact hx
        | succ m => simpa using h3 m (by omega)
theorem occ_head_in (x y : Str) (lo hi limit : Nat) (hl : 1 ≤ limit) :
    (Builtin.Str.occurrences x y lo hi limit = [] ∧ ∀ i, lo ≤ i → ¬ StrLaws.At x y hi i) ∨
    ∃ i r, Builtin.Str.occurrences x y lo hi limit = i :: r ∧ lo ≤ i ∧ StrLaws.At x y hi i ∧ ∀ k, lo ≤ k → k < i → ¬ StrLaws.At x y hi k := by
  rw [StrLaws.occ_eq]
  rcases StrLaws.occ_first x y hi limit hl (List.range' lo (hi + 1 - lo)) lo (fun i hi => by have := List.mem_range'_1.mp hi; omega) with ⟨h0, hn⟩ | ⟨pre, a, post, e, h0, ha, hn⟩
  · refine .inl ⟨by rw [h0], fun i hlo hi => ?_⟩
    exact hn i (by have := hi.1; rw [List.mem_range'_1]; omega) hi
  · have hs := StrLaws.range'_split_from e
    refine .inr ⟨a, ((forIn (List.range' lo (hi + 1 - lo)) ((#[] : Array Nat), lo) (StrLaws.occBody x y hi limit)).run.fst.toList).tail, ?_, hs.1, ha, fun k hk0 hk => hn k (hs.2 k hk0 hk)⟩
    generalize (forIn (List.range' lo (hi + 1 - lo)) ((#[] : Array Nat), lo) (StrLaws.occBody x y hi limit)).run.fst = arr at h0
    have h1 : arr.toList[0]? = some a := by simpa using h0
    cases hL : arr.toList with
    | nil => rw [hL] at h1; cases h1
    | cons b t => rw [hL] at h1; simp at h1; rw [h1]; rfl
theorem at_one {s : List Nat} {c hi i : Nat} : StrLaws.At (toS s) ⟨#[c]⟩ hi i ↔ i + 1 ≤ hi ∧ s[i]? = some c := by
  unfold StrLaws.At
  rw [StrLaws.subAt_eq, toS_list]
  show i + 1 ≤ hi ∧ ((s.drop i).take 1 == [c]) = true ↔ _
  rw [StrLaws.take1_drop]
theorem td_get {s : List Nat} {hi lo m : Nat} : ((s.take hi).drop lo)[m]? = if lo + m < hi then s[lo + m]? else none := by
  rw [List.getElem?_drop, List.getElem?_take]
theorem fnd_eq (s : List Nat) (c lo hi : Nat) : (match Builtin.Str.occurrences (toS s) ⟨#[c]⟩ lo hi 1 with | k :: _ => (k : Int) | [] => -1) = fnd s c lo hi := by
  unfold fnd
  rcases occ_head_in (toS s) ⟨#[c]⟩ lo hi 1 (Nat.le_refl 1) with ⟨h0, hn⟩ | ⟨i, r, h0, hlo, ha, hn⟩
  · rw [h0]
    cases e : fndL c ((s.take hi).drop lo) lo with
    | none => rfl
    | some j =>
      exfalso
      obtain ⟨h1, h2, _⟩ := fndL_some e
      rw [td_get] at h2
      split at h2
      · rename_i hlt
        exact hn (lo + (j - lo)) (by omega) (at_one.mpr ⟨by omega, h2⟩)
      · cases h2
  · rw [h0]
    obtain ⟨a1, a2⟩ := at_one.mp ha
    cases e : fndL c ((s.take hi).drop lo) lo with
    | none =>
      exfalso
      refine fndL_none e (i - lo) ?_
      rw [td_get, if_pos (by omega), show lo + (i - lo) = i by omega]
      exact a2
    | some j =>
      obtain ⟨h1, h2, h3⟩ := fndL_some e
      rw [td_get] at h2
      split at h2
      · rename_i hlt
        have ej : lo + (j - lo) = j := by omega
        rw [ej] at h2
        rcases Nat.lt_trichotomy i j with z | z | z
        · exfalso
          refine h3 (i - lo) (by omega) ?_
          rw [td_get, if_pos (by omega), show lo + (i - lo) = i by omega]
          exact a2
        · rw [z]
        · exact absurd (at_one.mpr ⟨by omega, h2⟩) (hn j h1 z)
      · cases h2

/-! ### methods -/
def rMt (K : PySem.W.Frag) (m : Mt) : V → List V → Hp → VK → Prop := fun x xs H Q => ∃ α h d es r h', RepH K α H h ∧ VR K α H d x ∧ VRs K α H es xs ∧ mtD h m d es = .ok r h' ∧
  ∀ α' H', Ext α H α' H' → RepH K α' H' h' → ∀ v, VR K α' H' r v → Q v H'
theorem MtR.at {id : String} {r' : V → List V → Hp → VK → Prop} (h : ∀ x xs H Q, r' x xs H Q → ∃ r, MtR X id r ∧ r x xs H Q) : MtR X id r' := fun pins s σ H x xs v us Q I rx rs q => by
  obtain ⟨r, h1, h2⟩ := h _ _ _ _ q
  exact h1 pins s σ H x xs v us Q I rx rs h2
theorem append_ok : MtR X "list.append" (rMt X.K .append) := MtR.at fun x xs H Q q => by
  obtain ⟨α, h, d, es, r, h', rp, hd, he, hf, q⟩ := q
  simp only [mtD] at hf
  unfold appD at hf
  split at hf
  · split at hf
    · rename_i n y _ xs' hl
      split at hf
      · rename_i hz
        cases hf
        obtain ⟨a, vs, ha, rfl, h1, h2⟩ := rp.ref hd hl
        unfold VRs at he
        obtain ⟨w', us, rfl, g1, g2⟩ := he
        unfold VRs at g2
        subst g2
        refine ⟨_, mt_append, a, vs, w', rfl, rfl, h1, by rw [h2.length, SL_eq]; exact hz, ?_⟩
        have e := Ext.write (u := .lst (vs ++ [w'])) rp ha
        exact q _ _ e (rp.write ha ⟨_, upd_same, (h2.ext e).append (VRs.one (g1.ext e))⟩) _ rfl
      · cases hf
    · cases hf
  · cases hf
theorem vrs1 {d : D} {vs : List V} (h : VRs K α H [d] vs) : ∃ v, vs = [v] ∧ VR K α H d v := by
  unfold VRs at h
  obtain ⟨v, us, rfl, h1, h2⟩ := h
  unfold VRs at h2
  subst h2
  exact ⟨v, rfl, h1⟩
theorem vrs2 {d e : D} {vs : List V} (h : VRs K α H [d, e] vs) : ∃ v u, vs = [v, u] ∧ VR K α H d v ∧ VR K α H e u := by
  unfold VRs at h
  obtain ⟨v, us, rfl, h1, h2⟩ := h
  obtain ⟨u, rfl, h3⟩ := vrs1 h2
  exact ⟨v, u, rfl, h1, h3⟩
theorem vrs3 {d e f : D} {vs : List V} (h : VRs K α H [d, e, f] vs) : ∃ v u w, vs = [v, u, w] ∧ VR K α H d v ∧ VR K α H e u ∧ VR K α H f w := by
  unfold VRs at h
  obtain ⟨v, us, rfl, h1, h2⟩ := h
  obtain ⟨u, w, rfl, h3, h4⟩ := vrs2 h2
  exact ⟨v, u, w, rfl, h1, h3, h4⟩
theorem find3_eq (s : List Nat) (c : Nat) (i : Int) : Txt.find3 (toS s) ⟨#[c]⟩ i = fnd s c (fromIx s.length i) s.length := by
  rw [← fnd_eq, ← toS_length s]
  unfold Txt.find3
  rfl
theorem find4_eq (s : List Nat) (c : Nat) (i j : Int) (hj : 0 ≤ j) : Txt.findIn (toS s) ⟨#[c]⟩ i j = fnd s c (fromIx s.length i) (min j.toNat s.length) := by
  have e : toIndexW (toS s).length j = min j.toNat s.length := by
    unfold toIndexW
    rw [if_neg (by omega), toS_length]
    have : max 0 j = j := by omega
    rw [this]
  rw [← fnd_eq, ← e]
  unfold Txt.findIn
  rw [toS_length]
  rfl
theorem find2_ok : MtR X "str.find" (rMt X.K .find2) := MtR.at fun x xs H Q q => by
  obtain ⟨α, h, d, es, r, h', rp, hd, he, hf, q⟩ := q
  simp only [mtD] at hf
  unfold fnd2D at hf
  split at hf
  · cases hf
    obtain ⟨v, u, rfl, h1, h2⟩ := vrs2 he
    rw [vr_str hd, vr_str h1, vr_int h2]
    refine ⟨_, mt_find3, _, _, _, rfl, rfl, ?_⟩
    rw [show toS [_] = (⟨#[_]⟩ : Str) from rfl, find3_eq]
    exact fin0 q rp rfl
  · cases hf
theorem find3_ok : MtR X "str.find" (rMt X.K .find3) := MtR.at fun x xs H Q q => by
  obtain ⟨α, h, d, es, r, h', rp, hd, he, hf, q⟩ := q
  simp only [mtD] at hf
  unfold fnd3D at hf
  split at hf
  · split at hf
    · rename_i hj
      cases hf
      obtain ⟨v, u, w, rfl, h1, h2, h3⟩ := vrs3 he
      rw [vr_str hd, vr_str h1, vr_int h2, vr_int h3]
      refine ⟨_, mt_find4, _, _, _, _, rfl, rfl, ?_⟩
      rw [show toS [_] = (⟨#[_]⟩ : Str) from rfl, find4_eq _ _ _ _ hj]
      exact fin0 q rp rfl
    · cases hf
  · cases hf

/-! ### join -/
theorem strs_vr : ∀ {ds : List D} {vs : List V} {ss : List (List Nat)}, strsOf ds = some ss → VRs K α H ds vs → vs = (ss.map toS).map V.str
  | [], vs, ss, e, h => by cases e; exact h
  | d :: r, vs, ss, e, h => by
    unfold VRs at h
    obtain ⟨v, us, rfl, h1, h2⟩ := h
    cases d <;> simp only [strsOf] at e <;> try contradiction
    obtain ⟨cs, hc, rfl⟩ := Option.map_eq_some_iff.mp e
    rw [vr_str h1, strs_vr hc h2]
    rfl
theorem app_toS (a b : List Nat) : toS a ++ toS b = toS (a ++ b) := by
  show Str.append _ _ = _
  simp [Str.append, toS]
theorem join_toS (a : List Nat) : ∀ ss : List (List Nat), Str.join (toS a) (ss.map toS) = toS (joinS a ss)
  | [] => rfl
  | [x] => rfl
  | x :: y :: r => by
    have ih := join_toS a (y :: r)
    show toS x ++ toS a ++ Str.join (toS a) ((y :: r).map toS) = toS (x ++ a ++ joinS a (y :: r))
    rw [ih, app_toS, app_toS]
/-- sep.join of a list that nothing leads to -/
def rMl (K : PySem.W.Frag) (m : Ml) : V → List V → Hp → VK → Prop := fun x xs H Q => ∃ α h d ds p vs r, xs = [.ref p] ∧ RepH K α H h ∧ VR K α H d x ∧ H p = some (.lst vs) ∧ VRs K α H ds vs ∧ mlD m d ds = some r ∧ ∀ v, VR K α H r v → Q v H
theorem join_ok : MtR X "str.join" (rMl X.K .join) := MtR.at fun x xs H Q q => by
  obtain ⟨α, h, d, ds, p, vs, r, rfl, rp, hd, hp, hv, hf, q⟩ := q
  unfold mlD at hf
  split at hf
  · split at hf
    · rename_i ys hy
      split at hf
      · rename_i hz
        cases hf
        rw [vr_str hd]
        rw [strs_vr hy hv] at hp
        refine ⟨_, mt_join, _, p, ys.map toS, rfl, rfl, .inl (SqL.of hp), ?_, ?_⟩
        · rw [toS_length, List.length_map, List.map_map]
          have e : (List.map ((fun x => x.length) ∘ toS) ys) = ys.map (·.length) := by
            refine List.map_congr_left fun s _ => ?_
            exact toS_length s
          rw [e]
          exact hz
        · rw [show Txt.join (toS _) (ys.map toS) = Str.join (toS _) (ys.map toS) from _root_.TL.join_eq _ _, join_toS]
          exact q _ rfl
      · cases hf
    · cases hf
  · rename_i h1 _ _ _ _
    cases hf

theorem joinR_ok : MtR X "str.join" (rMt X.K .join) := fun pins s σ H x xs v us Q I rx rs q => by
  obtain ⟨α, h, d, es, r, h', rp, hd, he, hf, q⟩ := q
  simp only [mtD] at hf
  unfold joiD at hf
  split at hf
  · split at hf
    · rename_i n _ ds hn
      cases hm : mlD .join (.str _) ds with
      | none => rw [hm] at hf; cases hf
      | some r' =>
        rw [hm] at hf
        cases hf
        obtain ⟨v1, rfl, h1⟩ := vrs1 he
        obtain ⟨a, vs, _, rfl, h2, h3⟩ := rp.ref h1 hn
        exact join_ok pins s σ H x _ v us Q I rx rs ⟨α, h, _, ds, a, vs, r, rfl, rp, hd, h2, h3, hm, fun v hv => q _ _ Ext.refl rp v hv⟩
    · cases hf
  · cases hf

/-! ### replace -/
theorem rep1_eq (c : Nat) (z : List Nat) : ∀ l : List Nat, StrLaws.replL [c] z l = rep1 c z l
  | [] => by rw [StrLaws.replL_nil]; rfl
  | x :: r => by
    unfold rep1
    rw [List.flatMap_cons]
    by_cases h : x = c
    · rw [StrLaws.replL_hit (by simp) (by simp [h]), if_pos h]
      show z ++ StrLaws.replL [c] z r = _
      rw [rep1_eq c z r]
      rfl
    · rw [StrLaws.replL_miss (by simp [h]), if_neg h, rep1_eq c z r]
      rfl
theorem repl_eq (c : Nat) (z l : List Nat) : Txt.replace (toS l) (toS [c]) (toS z) = toS (rep1 c z l) := by
  have e := StrLaws.replace_list (x := toS l) (y := toS [c]) (z := toS z) (by simp [Str.length, toS])
  rw [toS_list, toS_list, toS_list, rep1_eq] at e
  rw [← toS_cps (Txt.replace (toS l) (toS [c]) (toS z)), e]
end
end FD

set_option Elab.async false
set_option linter.all false
set_option maxRecDepth 100000
set_option maxHeartbeats 1000000
/-! The D layer, 6: what is walked, loops, comprehensions. -/
namespace FD
open PySem PySem.Spec PyProof.Rows L2
/-! ### the readings by a weaker one -/
section
variable {X : Cx}
theorem pe_imp {e : Expr} {t t' : TE} (h : PE X e t) (i : ∀ σ H Q, t' σ H Q → t σ H Q) : PE X e t' := ⟨fun pins s σ H Q I q => h.run pins s σ H Q I (i _ _ _ q)⟩
theorem pt_imp {e : Expr} {t t' : TT} (h : PT X e t) (i : ∀ σ H Q, t' σ H Q → t σ H Q) : PT X e t' := ⟨fun pins s σ H Q I q => h.run pins s σ H Q I (i _ _ _ q)⟩
theorem pts_imp {e : List Expr} {t t' : TT} (h : PTs X e t) (i : ∀ σ H Q, t' σ H Q → t σ H Q) : PTs X e t' := ⟨fun pins s σ H Q I q => h.run pins s σ H Q I (i _ _ _ q)⟩
theorem pw_imp {e : Expr} {t t' : TT} (h : PW X e t) (i : ∀ σ H Q, t' σ H Q → t σ H Q) : PW X e t' := ⟨fun wh pins s σ H Q I q => h.run wh pins s σ H Q I (i _ _ _ q)⟩
theorem pa_imp {es : List Expr} {t t' : TA} (h : PA X es t) (i : ∀ σ H Q, t' σ H Q → t σ H Q) : PA X es t' := ⟨fun pos pins s σ H Q I q => h.run pos pins s σ H Q I (i _ _ _ q)⟩
theorem ps_imp {st : Stmt} {t t' : TS} (h : PS X st t) (i : ∀ D σ H, t' D σ H → t D σ H) : PS X st t' := ⟨fun pins s σ H D I q => h.run pins s σ H D I (i _ _ _ q)⟩
theorem pss_imp {st : List Stmt} {t t' : TS} (h : PSs X st t) (i : ∀ D σ H, t' D σ H → t D σ H) : PSs X st t' := ⟨fun pins s σ H D I q => h.run pins s σ H D I (i _ _ _ q)⟩
theorem pg_imp {e : Expr} {t t' : TG} (h : PG X e t) (i : ∀ v σ H Q, t' v σ H Q → t v σ H Q) : PG X e t' := ⟨fun pins s σ H v u Q I r q => h.run pins s σ H v u Q I r (i _ _ _ _ q)⟩
theorem pgs_imp {es : List Expr} {t t' : TGs} (h : PGs X es t) (i : ∀ v σ H Q, t' v σ H Q → t v σ H Q) : PGs X es t' := ⟨fun pins s σ H v u Q I r q => h.run pins s σ H v u Q I r (i _ _ _ _ q)⟩
theorem pi_imp {tg it : Expr} {t t' : TI} (h : PI X tg it t) (i : ∀ σ H R, t' σ H R → t σ H R) : PI X tg it t' := ⟨fun pins s σ H R I q => h.run pins s σ H R I (i _ _ _ q)⟩
end

/-! ### walks -/
/-- from (α, H) on J walks what s says -/
def Wk (K : PySem.W.Frag) (α : List Addr) (H : Hp) (J : L2.It) : Src → Prop
  | .items ds => ∀ (i : Nat) (α2 : List Addr) (H2 : Hp), Ext α H α2 H2 → (ds.length ≤ i → J.stop i H2) ∧ ∀ d, ds[i]? = some d → J.go i H2 ∧ ∀ x H', J.yld i H2 x H' → H' = H2 ∧ VR K α2 H2 d x
  | .dyn n => ∀ (i : Nat) (α2 : List Addr) (H2 : Hp) (h2 : DH) (ds : List D), Ext α H α2 H2 → RepH K α2 H2 h2 → lget h2 n = some ds → (ds.length ≤ i → J.stop i H2) ∧ ∀ d, ds[i]? = some d → J.go i H2 ∧ ∀ x H', J.yld i H2 x H' → H' = H2 ∧ VR K α2 H2 d x
def rdI (K : PySem.W.Frag) (cls : Nat → Option Addr) (W : WX) (f : Fr → DH → Out Src) : TI := fun σ H R => ∃ α δ h, RepH K α H h ∧ RepF K α H σ δ ∧ Post K cls W σ α H (f δ h) fun s α' H' _ => ∀ J, Wk K α' H' J s → R J H'
section
variable {K : PySem.W.Frag} {α α1 : List Addr} {H H1 : Hp} {h : DH} {X : Cx} {cls : Nat → Option Addr} {W : WX}
theorem wk_tup {a : Addr} {vs : List V} {ds : List D} (h1 : SqT K H a vs) (h2 : VRs K α H ds vs) : Wk K α H (Itt K a) (.items ds) := fun i α2 H2 e => by
  have q1 := e.e0.sqT h1
  have q2 := h2.ext e
  refine ⟨fun hi => ⟨vs, q1, by rw [h2.length]; exact hi⟩, fun d hd => ?_⟩
  obtain ⟨v, g1, g2⟩ := q2.get hd
  refine ⟨⟨vs, v, q1, g1⟩, fun x H' hy => ⟨hy.1, ?_⟩⟩
  have := hy.2 vs q1
  rw [g1] at this
  cases this
  exact g2
/-- a list that nothing leads to -/
theorem wk_hid {a : Addr} {vs : List V} {ds : List D} (h1 : H a = some (.lst vs)) (hn : a ∉ α) (h2 : VRs K α H ds vs) : Wk K α H (Itl K a) (.items ds) := fun i α2 H2 e => by
  have q1 : SqL K H2 a vs := SqL.of (e.keep _ _ h1 hn)
  have u1 : ∀ xs, SqL K H2 a xs → H2 a = some (.lst vs) := fun _ _ => e.keep _ _ h1 hn
  have q2 := h2.ext e
  refine ⟨fun hi => ⟨vs, q1, by rw [h2.length]; exact hi⟩, fun d hd => ?_⟩
  obtain ⟨v, g1, g2⟩ := q2.get hd
  refine ⟨⟨vs, v, q1, g1⟩, fun x H' hy => ⟨hy.1, ?_⟩⟩
  have := hy.2 vs q1
  rw [g1] at this
  cases this
  exact g2
theorem wk_dyn {a : Addr} {n : Nat} (ha : α[n]? = some a) : Wk K α H (Itl K a) (.dyn n) := fun i α2 H2 h2 ds e rp hl => by
  obtain ⟨b, vs, g1, g2, g3⟩ := rp.list (lget_some hl)
  have := e.e0.get ha
  rw [g1] at this
  cases this
  refine ⟨fun hi => ⟨vs, SqL.of g2, by rw [g3.length]; exact hi⟩, fun d hd => ?_⟩
  obtain ⟨v, k1, k2⟩ := g3.get hd
  refine ⟨⟨vs, v, SqL.of g2, k1⟩, fun x H' hy => ⟨hy.1, ?_⟩⟩
  have := hy.2 vs (SqL.of g2)
  rw [k1] at this
  cases this
  exact k2
theorem rngL_get : ∀ (n : Nat) (lo : Int) (i : Nat) (d : D), (rngL lo n)[i]? = some d → i < n ∧ d = .int (lo + i)
  | 0, lo, i, d, e => by simp [rngL] at e
  | n + 1, lo, 0, d, e => by simp [rngL] at e; exact ⟨Nat.succ_pos _, by rw [← e]; simp⟩
  | n + 1, lo, i + 1, d, e => by
    simp only [rngL, List.getElem?_cons_succ] at e
    obtain ⟨h1, h2⟩ := rngL_get n (lo + 1) i d e
    exact ⟨by omega, by rw [h2]; congr 1; omega⟩
theorem rngL_length : ∀ (n : Nat) (lo : Int), (rngL lo n).length = n
  | 0, _ => rfl
  | n + 1, lo => by simp [rngL, rngL_length n]
theorem wk_rng (lo : Int) (n : Nat) : Wk K α H (Itr lo n) (.items (rngL lo n)) := fun i α2 H2 e => by
  refine ⟨fun hi => by rw [rngL_length] at hi; exact hi, fun d hd => ?_⟩
  obtain ⟨h1, rfl⟩ := rngL_get _ _ _ _ hd
  exact ⟨h1, fun x H' hy => ⟨hy.1, hy.2⟩⟩
/-- a list or a tuple, walked -/
theorem pi_dyn {tg l : Expr} {tl : TE} (hl : PE X l tl) : PI X tg l (fun σ H R => tl σ H fun x H1 => (∃ a, x = .ref a ∧ (∃ xs, SqL X.K H1 a xs) ∧ R (Itl X.K a) H1) ∨ ∃ a, x = .ref a ∧ (∃ xs, SqT X.K H1 a xs) ∧ R (Itt X.K a) H1) := by
  refine ⟨fun pins s σ H R I h => ?_⟩
  refine thn (hl.run pins s σ H _ I h) fun v s1 ⟨x, H1, I1, r1, q1⟩ => ?_
  rcases q1 with ⟨a, e, ⟨xs, hq⟩, q⟩ | ⟨a, e, ⟨xs, hq⟩, q⟩
  · subst e
    cases r1
    obtain ⟨its, rv, p, hz⟩ := I1.list hq
    refine wpAny_pyIter_list p.isList ?_
    refine ⟨s1.heap.objs.size, [s1.heap.objs.size], _, _, H1, rfl, I1.kept (t' := s1.toks) fun b o e => Heap.get?_push_of_some _ e, turn_list a _, ⟨_, Heap.get?_push_size _ rfl, rfl, rfl⟩, fun b hb => ?_, q⟩
    have e : b = s1.heap.objs.size := by simpa using hb
    subst e
    exact I1.fpOk (Nat.le_refl _) (I1.hok.fresh (Nat.le_refl _))
  · subst e
    cases r1
    obtain ⟨its, rv, p, hz⟩ := I1.tuple hq
    refine wpAny_pyIter_tuple (show s1.heap.IsTuple a its.toArray from p) ?_
    refine ⟨s1.heap.objs.size, [s1.heap.objs.size], _, _, H1, rfl, I1.kept (t' := s1.toks) fun b o e => Heap.get?_push_of_some _ e, turn_tuple a _, ⟨_, Heap.get?_push_size _ rfl, rfl, rfl⟩, fun b hb => ?_, q⟩
    have e : b = s1.heap.objs.size := by simpa using hb
    subst e
    exact I1.fpOk (Nat.le_refl _) (I1.hok.fresh (Nat.le_refl _))

/-! ### statements: helpers -/
theorem PostS.from {o : SO} {D : Ends} (p : PostS K cls W α H o D) (e : Ext α H α1 H1) : PostS K cls W α1 H1 o D := by
  cases o with
  | nx δ h' => exact fun α' σ' H' e' r f => p α' σ' H' (e.trans e') r f
  | rt d h' => exact fun α' H' v e' r f => p α' H' v (e.trans e') r f
  | brk δ h' => exact fun α' σ' H' e' r f => p α' σ' H' (e.trans e') r f
  | cnt δ h' => exact fun α' σ' H' e' r f => p α' σ' H' (e.trans e') r f
  | exc c fs δ h' => exact fun α' σ' H' cv dd e' r f => p α' σ' H' cv dd (e.trans e') r f
  | bad => exact p
theorem PostS.of_sbind {β : Type} {o : Out β} {δ : Fr} {σ : L2.St} {f : β → DH → SO} {D : Ends} (p : PostS K cls W α H (o.sbind δ f) D) (hf : RepF K α H σ δ) :
    Post K cls W σ α H o fun b α' H' h' => PostS K cls W α' H' (f b h') D := by
  cases o with
  | ok b h' => exact fun α' H' e _ => PostS.from p e
  | exc c fs h' => exact fun α' H' cv dd e r x => p α' σ H' cv dd e r (hf.ext e) x
  | bad => exact p
theorem PostS.of_seq {o : SO} {k : Fr → DH → SO} {D : Ends} (p : PostS K cls W α H (o.seq k) D) : PostS K cls W α H o { D with nx := rdS K cls W k D } := by
  cases o with
  | nx δ h' => exact fun α' σ' H' e r f => ⟨α', δ, h', r, f, PostS.from p e⟩
  | rt d h' => exact p
  | brk δ h' => exact p
  | cnt δ h' => exact p
  | exc c fs δ h' => exact p
  | bad => exact p
/-- a turn of a loop: N is wanted behind it -/
theorem PostS.of_loop {o : SO} {k : Fr → DH → SO} {D : Ends} {N : L2.St → Hp → Prop} (p : PostS K cls W α H (o.loop k) D)
    (hN : ∀ δ' h' α' σ' H', Ext α H α' H' → RepH K α' H' h' → RepF K α' H' σ' δ' → PostS K cls W α' H' (k δ' h') D → N σ' H') : PostS K cls W α H o { D with nx := N, ct := N, bk := D.nx } := by
  cases o with
  | nx δ h' => exact fun α' σ' H' e r f => hN _ _ _ _ _ e r f (PostS.from p e)
  | cnt δ h' => exact fun α' σ' H' e r f => hN _ _ _ _ _ e r f (PostS.from p e)
  | rt d h' => exact p
  | brk δ h' => exact p
  | exc c fs δ h' => exact p
  | bad => exact p

/-! ### for -/
theorem for_rd {fuel : Nat} {fI : Fr → DH → Out Src} {is : List Nat} {g : D → Fr → DH → Out Fr} {b : Fr → DH → SO} {D : Ends} {σ : L2.St}
    (q : rdS K cls W (fun δ h => (fI δ h).sbind δ fun s h => frS fuel (fun d δ h => (g d δ h).sbind δ fun δ h => b δ h) s δ h) D σ H) :
    tFor (rdI K cls W fI) (rdG K cls W is g) (rdS K cls W b) D σ H := by
  obtain ⟨α, δ, h, rp, rf, p⟩ := q
  refine ⟨α, δ, h, rp, rf, (PostS.of_sbind p rf).mono fun s α1 H1 h1 e1 rp1 p1 J wk => ?_⟩
  have rf1 := rf.ext e1
  cases s with
  | items ds =>
    refine ⟨fun i m σ2 H2 => m = ds.length - i ∧ ∃ α2 δ2 h2, Ext α1 H1 α2 H2 ∧ RepH K α2 H2 h2 ∧ RepF K α2 H2 σ2 δ2 ∧ PostS K cls W α2 H2 (frI (fun d δ h => (g d δ h).sbind δ fun δ h => b δ h) (ds.drop i) δ2 h2) D,
      ⟨_, rfl, α1, δ, h1, Ext.refl, rp1, rf1, p1⟩, ?_⟩
    rintro i m σ2 H2 ⟨rfl, α2, δ2, h2, e2, rp2, rf2, p2⟩
    obtain ⟨w1, w2⟩ := wk i α2 H2 e2
    rcases Nat.lt_or_ge i ds.length with hi | hi
    · refine .inr ?_
      have hd : ds[i]? = some ds[i] := List.getElem?_eq_getElem hi
      obtain ⟨go, y⟩ := w2 _ hd
      refine ⟨go, _, fun σ' H' z => z, fun x H' hy => ?_⟩
      obtain ⟨rfl, hx⟩ := y x H' hy
      rw [List.drop_eq_getElem_cons hi] at p2
      refine ⟨α2, δ2, h2, _, rp2, rf2, hx, ?_⟩
      have p3 : PostS K cls W α2 H' (((g ds[i] δ2 h2).sbind δ2 fun δ h => b δ h).loop (frI (fun d δ h => (g d δ h).sbind δ fun δ h => b δ h) (ds.drop (i + 1)))) D := p2
      clear p2
      cases hg : g ds[i] δ2 h2 with
      | bad => rw [hg] at p3; exact p3.elim
      | exc c fs h' => rw [hg] at p3; exact fun α' H' cv dd e r xr => p3 α' σ2 H' cv dd e r (rf2.ext e) xr
      | ok δ3 h3 =>
        rw [hg] at p3
        intro α3 H3 e3 rp3 σ3 rf3 _
        refine ⟨α3, δ3, h3, rp3, rf3, ?_⟩
        refine PostS.of_loop (PostS.from p3 e3) fun δ4 h4 α4 σ4 H4 e4 rp4 rf4 p4 => ?_
        exact ⟨ds.length - (i + 1), by omega, rfl, α4, δ4, h4, e2.trans (e3.trans e4), rp4, rf4, p4⟩
    · refine .inl ⟨w1 hi, ?_⟩
      rw [List.drop_eq_nil_of_le hi] at p2
      exact p2 α2 σ2 H2 Ext.refl rp2 rf2
  | dyn n =>
    refine ⟨fun i m σ2 H2 => ∃ α2 δ2 h2, Ext α1 H1 α2 H2 ∧ RepH K α2 H2 h2 ∧ RepF K α2 H2 σ2 δ2 ∧ PostS K cls W α2 H2 (frN (fun d δ h => (g d δ h).sbind δ fun δ h => b δ h) n m i δ2 h2) D,
      ⟨_, α1, δ, h1, Ext.refl, rp1, rf1, p1⟩, ?_⟩
    rintro i m σ2 H2 ⟨α2, δ2, h2, e2, rp2, rf2, p2⟩
    cases m with
    | zero => exact p2.elim
    | succ m =>
      unfold frN at p2
      cases hl : lget h2 n with
      | none => rw [hl] at p2; exact p2.elim
      | some ds =>
        rw [hl] at p2
        obtain ⟨w1, w2⟩ := wk i α2 H2 h2 ds e2 rp2 hl
        cases hd : ds[i]? with
        | none =>
          dsimp only at p2
          rw [hd] at p2
          exact .inl ⟨w1 (List.getElem?_eq_none_iff.mp hd), p2 α2 σ2 H2 Ext.refl rp2 rf2⟩
        | some d =>
          dsimp only at p2
          rw [hd] at p2
          refine .inr ?_
          obtain ⟨go, y⟩ := w2 _ hd
          refine ⟨go, _, fun σ' H' z => z, fun x H' hy => ?_⟩
          obtain ⟨rfl, hx⟩ := y x H' hy
          refine ⟨α2, δ2, h2, _, rp2, rf2, hx, ?_⟩
          have p3 : PostS K cls W α2 H' (((g d δ2 h2).sbind δ2 fun δ h => b δ h).loop (frN (fun d δ h => (g d δ h).sbind δ fun δ h => b δ h) n m (i + 1))) D := p2
          clear p2
          cases hg : g d δ2 h2 with
          | bad => rw [hg] at p3; exact p3.elim
          | exc c fs h' => rw [hg] at p3; exact fun α' H' cv dd e r xr => p3 α' σ2 H' cv dd e r (rf2.ext e) xr
          | ok δ3 h3 =>
            rw [hg] at p3
            intro α3 H3 e3 rp3 σ3 rf3 _
            refine ⟨α3, δ3, h3, rp3, rf3, ?_⟩
            refine PostS.of_loop (PostS.from p3 e3) fun δ4 h4 α4 σ4 H4 e4 rp4 rf4 p4 => ?_
            exact ⟨m, Nat.lt_succ_self _, α4, δ4, h4, e2.trans (e3.trans e4), rp4, rf4, p4⟩
/-! ### while -/
theorem whl_rd {fuel : Nat} {t : Fr → DH → Out Bool} {b : Fr → DH → SO} {D : Ends} {σ : L2.St} (q : rdS K cls W (fun δ h => whl t b fuel δ h) D σ H) : tWhile (rdT K cls W t) (rdS K cls W b) D σ H := by
  obtain ⟨α, δ, h, rp, rf, p⟩ := q
  refine ⟨fun m σ2 H2 => ∃ α2 δ2 h2, RepH K α2 H2 h2 ∧ RepF K α2 H2 σ2 δ2 ∧ PostS K cls W α2 H2 (whl t b m δ2 h2) D, ⟨_, α, δ, h, rp, rf, p⟩, ?_⟩
  rintro m σ2 H2 ⟨α2, δ2, h2, rp2, rf2, p2⟩
  cases m with
  | zero => exact p2.elim
  | succ m =>
    unfold whl at p2
    refine ⟨α2, δ2, h2, rp2, rf2, (PostS.of_sbind p2 rf2).mono fun c α3 H3 h3 e3 rp3 p3 => ?_⟩
    cases c with
    | false =>
      rw [if_neg Bool.false_ne_true] at p3 ⊢
      exact p3 α3 σ2 H3 Ext.refl rp3 (rf2.ext e3)
    | true =>
      rw [if_pos rfl] at p3 ⊢
      refine ⟨_, fun σ' H' z => z, α3, δ2, h3, rp3, rf2.ext e3, ?_⟩
      refine PostS.of_loop p3 fun δ4 h4 α4 σ4 H4 e4 rp4 rf4 p4 => ?_
      exact ⟨m, Nat.lt_succ_self _, α4, δ4, h4, rp4, rf4, p4⟩
end
end FD

set_option Elab.async false
set_option linter.all false
set_option maxRecDepth 100000
set_option maxHeartbeats 1000000
/-! The D layer, 7: comprehensions. -/
namespace FD
open PySem PySem.Spec PyProof.Rows L2
section
variable {K : PySem.W.Frag} {α α1 : List Addr} {H H1 : Hp} {h : DH} {X : Cx} {cls : Nat → Option Addr} {W : WX}
theorem Post.of_noexc {β : Type} {o : Out β} {σ : L2.St} {Z : β → List Addr → Hp → DH → Prop} (p : Post K cls W σ α H o.noexc Z) : Post K cls (fun _ _ _ _ => False) σ α H o Z := by
  cases o with
  | ok b h' => exact p
  | exc c fs h' => exact p.elim
  | bad => exact p
/-- the hidden list at Dd changes -/
theorem hid_e0 {Dd : Addr} {vs us : List V} (hd : H Dd = some (.lst vs)) : Ext0 α H α (upd H Dd (.lst us)) :=
  ⟨List.prefix_rfl, fun a ws q => by rw [upd_ne (ne_of q hd (by intro z; cases z))]; exact q, fun a o u q => by rw [upd_ne (ne_of q hd (by intro z; cases z))]; exact q⟩
theorem hid_rep {Dd : Addr} {vs us : List V} (hd : H Dd = some (.lst vs)) (hn : Dd ∉ α) (r : RepH K α H h) : RepH K α (upd H Dd (.lst us)) h :=
  r.same (hid_e0 hd) fun a ha u q => by rw [upd_ne (fun z : a = Dd => hn (z ▸ ha))]; exact q
theorem hid_ext {Dd : Addr} {us : List V} (hd : H Dd = none) (hn : Dd ∉ α1) (e : Ext α H α1 H1) {vs : List V} (hd1 : H1 Dd = some (.lst vs)) : Ext α H α1 (upd H1 Dd (.lst us)) :=
  ⟨e.pre, e.new, fun a u q ha => by rw [upd_ne (ne_of_none q hd)]; exact e.keep a u q ha, fun a ws q => by rw [upd_ne (ne_of_none q hd)]; exact e.tp a ws q, fun a o u q => by rw [upd_ne (ne_of_none q hd)]; exact e.fz a o u q⟩
theorem wipe_get (vs : List Nat) (i : Nat) (τ : L2.St) : (L2.wipe τ vs)[i]? = if i ∈ vs ∧ i < τ.length then some none else τ[i]? := by
  induction vs with
  | nil => simp [L2.wipe]
  | cons u us ih =>
    unfold L2.wipe
    rw [List.getElem?_set, wipe_length, ih]
    by_cases z : u = i
    · subst z
      by_cases hl : u < τ.length
      · simp [hl]
      · simp only [List.mem_cons, true_or, hl, and_false, if_true, if_false]
        rw [List.getElem?_eq_none (Nat.le_of_not_lt hl)]
    · rw [if_neg z]
      have : i ∈ u :: us ↔ i ∈ us := by simp [Ne.symm z]
      simp only [this]
theorem wipe_wipe (vs : List Nat) (τ : L2.St) : L2.wipe (L2.wipe τ vs) vs = L2.wipe τ vs := by
  refine List.ext_getElem? fun i => ?_
  rw [wipe_get, wipe_get, wipe_length]
  split <;> rfl
/-- one turn of a comprehension: what is known of the turn, what is wanted behind it -/
theorem comp_turn {is vs : List Nat} {g : D → Fr → DH → Out Fr} {cond : Fr → DH → Out Bool} {elt : Fr → DH → Out D} {σ : L2.St} {δ : Fr} (hs : ∀ i ∈ is, i ∈ vs) {Dd : Addr}
    (hDd : H1 Dd = none) {α2 : List Addr} {H2 : Hp} {h2 : DH} {acc : List D} {us : List V} {d : D} {x : V} {k : List D → DH → Out (List D)} {G : List D → DH → Prop} {Nx : Hp → Prop}
    (e2 : Ext α1 H1 α2 H2) (rp2 : RepH K α2 H2 h2) (rf2 : RepF K α2 H2 σ δ) (hn2 : Dd ∉ α2) (hd2 : H2 Dd = some (.lst us)) (hu2 : VRs K α2 H2 acc us) (hx : VR K α2 H2 d x)
    (ok : ∃ o h, cmpT elt g cond (wipeF δ vs) d h2 = .ok o h ∧ (match o with
      | some y => acc.length < SL ∧ G (acc ++ [y]) h
      | none => G acc h))
    (hN : ∀ (acc' : List D) (us' : List V) (α3 : List Addr) (H3 : Hp) (h3 : DH), Ext α1 H1 α3 H3 → RepH K α3 H3 h3 → Dd ∉ α3 → H3 Dd = some (.lst us') → VRs K α3 H3 acc' us' → G acc' h3 → Nx H3) :
    rdG K cls (fun _ _ _ _ => False) is g x (L2.wipe σ vs) H2 fun σ2 H2 => L2.wipe σ2 vs = L2.wipe σ vs ∧ rdT K cls (fun _ _ _ _ => False) cond σ2 H2 fun b H3 =>
      if b = true then rdE K cls (fun _ _ _ _ => False) elt σ2 H3 fun y H4 => ∃ acc, H4 Dd = some (.lst acc) ∧ acc.length < sizeLine ∧ Nx (upd H4 Dd (.lst (acc ++ [y]))) else Nx H3 := by
  obtain ⟨o, hh, ho, hG⟩ := ok
  refine ⟨α2, wipeF δ vs, h2, d, rp2, rf2.wipe vs, hx, ?_⟩
  unfold cmpT at ho
  cases hg : g d (wipeF δ vs) h2 with
  | bad => rw [hg] at ho; cases ho
  | exc c fs h' => rw [hg] at ho; cases ho
  | ok δ3 h3 =>
    rw [hg] at ho
    simp only [Out.bind] at ho
    intro α3 H3 e3 rp3 σ3 rf3 ag
    have st : ∀ {α4 : List Addr} {H4 : Hp}, Ext α2 H2 α4 H4 → H4 Dd = some (.lst us) ∧ Dd ∉ α4 ∧ VRs K α4 H4 acc us := fun e => ⟨e.keep _ _ hd2 hn2, fun hm => (by
      have := e.new Dd hm hn2
      rw [hd2] at this; cases this), hu2.ext e⟩
    refine ⟨by rw [ag.wipe hs, wipe_wipe], α3, δ3, h3, rp3, rf3, ?_⟩
    cases hc : cond δ3 h3 with
    | bad => rw [hc] at ho; cases ho
    | exc c fs h' => rw [hc] at ho; cases ho
    | ok b h4 =>
      rw [hc] at ho
      simp only [Out.bind] at ho
      intro α4 H4 e4 rp4
      dsimp only
      have e24 := e3.trans e4
      obtain ⟨s1, s2, s3⟩ := st e24
      cases b with
      | false =>
        rw [if_neg Bool.false_ne_true] at ho ⊢
        cases ho
        exact hN acc us α4 H4 _ (e2.trans e24) rp4 s2 s1 s3 hG
      | true =>
        rw [if_pos rfl] at ho ⊢
        refine ⟨α4, δ3, h4, rp4, rf3.ext e4, ?_⟩
        cases hy : elt δ3 h4 with
        | bad => rw [hy] at ho; cases ho
        | exc c fs h' => rw [hy] at ho; cases ho
        | ok y h5 =>
          rw [hy] at ho
          simp only [Out.bind] at ho
          cases ho
          intro α5 H5 e5 rp5 v hv
          have e25 := e24.trans e5
          obtain ⟨t1, t2, t3⟩ := st e25
          have e6 : Ext0 α5 H5 α5 (upd H5 Dd (.lst (us ++ [v]))) := hid_e0 t1
          exact ⟨us, t1, by rw [t3.length, SL_eq]; exact hG.1, hN (acc ++ [y]) (us ++ [v]) α5 _ _ (hid_ext hDd t2 (e2.trans e25) t1) (hid_rep t1 t2 rp5) t2 upd_same ((t3.append (VRs.one hv)).ext0 e6) hG.2⟩
theorem comp_rd {fuel : Nat} {fI : Fr → DH → Out Src} {is vs : List Nat} {g : D → Fr → DH → Out Fr} {cond : Fr → DH → Out Bool} {elt : Fr → DH → Out D} {σ : L2.St} {Q : VK} (hs : ∀ i ∈ is, i ∈ vs)
    (q : rdL K cls W (fun δ h => (fI δ h).bind fun s h => (compS fuel (cmpT elt g cond (wipeF δ vs)) s h).noexc) σ H Q) :
    tLc (rdI K cls W fI) (rdG K cls (fun _ _ _ _ => False) is g) (rdT K cls (fun _ _ _ _ => False) cond) (rdE K cls (fun _ _ _ _ => False) elt) vs σ H Q := by
  obtain ⟨α, δ, h, rp, rf, p⟩ := q
  refine ⟨α, δ, h, rp, rf, (Post.of_bind p).mono fun s α1 H1 h1 e1 rp1 p1 J wk Dd hDd => ?_⟩
  have rf1 := rf.ext e1
  have hH : H Dd = none := by
    cases z : H Dd with
    | none => rfl
    | some u =>
      by_cases hm : Dd ∈ α
      · obtain ⟨n, o, _, _, r3⟩ := rp1.mem (e1.pre.subset hm)
        obtain ⟨u', r4⟩ := or_some r3
        rw [hDd] at r4; cases r4
      · rw [e1.keep Dd u z hm] at hDd; cases hDd
  have hn1 : Dd ∉ α1 := rp1.free hDd
  have e0 : Ext α1 H1 α1 (upd H1 Dd (.lst [])) := Ext.laid hDd
  -- the end
  have fin : ∀ (acc : List D) (us : List V) (α2 : List Addr) (H2 : Hp) (h2 : DH), Ext α1 H1 α2 H2 → RepH K α2 H2 h2 → Dd ∉ α2 → H2 Dd = some (.lst us) → VRs K α2 H2 acc us →
      Post K cls W σ α1 H1 ((Out.ok acc h2 : Out (List D)).noexc) (fun ds α' H' _ => ∀ p vs, H p = none → p ∉ α' → H' p = some (.lst vs) → VRs K α' H' ds vs → Q (.ref p) H') → Q (.ref Dd) H2 :=
    fun acc us α2 H2 h2 e2 rp2 hn2 hd2 hu2 p => p α2 H2 e2 rp2 Dd us hH hn2 hd2 hu2
  cases s with
  | items ds =>
    refine ⟨fun i m H2 => m = ds.length - i ∧ ∃ α2 h2 acc us, Ext α1 H1 α2 H2 ∧ RepH K α2 H2 h2 ∧ Dd ∉ α2 ∧ H2 Dd = some (.lst us) ∧ VRs K α2 H2 acc us ∧
      Post K cls W σ α1 H1 ((compI (cmpT elt g cond (wipeF δ vs)) (ds.drop i) acc h2).noexc) (fun ds α' H' _ => ∀ p vs, H p = none → p ∉ α' → H' p = some (.lst vs) → VRs K α' H' ds vs → Q (.ref p) H'),
      ⟨_, rfl, α1, h1, [], [], e0, rp1.laid hDd, hn1, upd_same, rfl, p1⟩, ?_⟩
    rintro i m H2 ⟨rfl, α2, h2, acc, us, e2, rp2, hn2, hd2, hu2, p2⟩
    obtain ⟨w1, w2⟩ := wk i α2 H2 e2
    rcases Nat.lt_or_ge i ds.length with hi | hi
    · refine .inr ?_
      obtain ⟨go, y⟩ := w2 _ (List.getElem?_eq_getElem hi)
      refine ⟨go, _, fun H' z => z, fun x H' hy => ?_⟩
      obtain ⟨eH, hx⟩ := y x H' hy
      rw [eH]
      clear eH hy
      rw [List.drop_eq_getElem_cons hi] at p2
      refine comp_turn (G := fun acc h => Post K cls W σ α1 H1 ((compI (cmpT elt g cond (wipeF δ vs)) (ds.drop (i + 1)) acc h).noexc) (fun ds α' H' _ => ∀ p vs, H p = none → p ∉ α' → H' p = some (.lst vs) → VRs K α' H' ds vs → Q (.ref p) H'))
        hs hDd (k := fun _ _ => .bad) e2 rp2 (rf1.ext e2) hn2 hd2 hu2 hx ?_ fun acc' us' α3 H3 h3 e3 rp3 hn3 hd3 hu3 p3 => ⟨ds.length - (i + 1), by omega, rfl, α3, h3, acc', us', e3, rp3, hn3, hd3, hu3, p3⟩
      unfold compI at p2
      cases hc : cmpT elt g cond (wipeF δ vs) ds[i] h2 with
      | bad => rw [hc] at p2; exact p2.elim
      | exc c fs h' => rw [hc] at p2; exact p2.elim
      | ok o h' =>
        rw [hc] at p2
        refine ⟨o, h', rfl, ?_⟩
        cases o with
        | none => exact p2
        | some y =>
          have p3 : Post K cls W σ α1 H1 ((if acc.length < SL then compI (cmpT elt g cond (wipeF δ vs)) (ds.drop (i + 1)) (acc ++ [y]) h' else .bad).noexc) _ := p2
          by_cases hz : acc.length < SL
          · rw [if_pos hz] at p3; exact ⟨hz, p3⟩
          · rw [if_neg hz] at p3; exact p3.elim
    · refine .inl ⟨w1 hi, ?_⟩
      rw [List.drop_eq_nil_of_le hi] at p2
      exact fin acc us α2 H2 h2 e2 rp2 hn2 hd2 hu2 p2
  | dyn n =>
    refine ⟨fun i m H2 => ∃ α2 h2 acc us, Ext α1 H1 α2 H2 ∧ RepH K α2 H2 h2 ∧ Dd ∉ α2 ∧ H2 Dd = some (.lst us) ∧ VRs K α2 H2 acc us ∧
      Post K cls W σ α1 H1 ((compN (cmpT elt g cond (wipeF δ vs)) n m i acc h2).noexc) (fun ds α' H' _ => ∀ p vs, H p = none → p ∉ α' → H' p = some (.lst vs) → VRs K α' H' ds vs → Q (.ref p) H'),
      ⟨_, α1, h1, [], [], e0, rp1.laid hDd, hn1, upd_same, rfl, p1⟩, ?_⟩
    rintro i m H2 ⟨α2, h2, acc, us, e2, rp2, hn2, hd2, hu2, p2⟩
    cases m with
    | zero => exact p2.elim
    | succ m =>
      unfold compN at p2
      cases hl : lget h2 n with
      | none => rw [hl] at p2; exact p2.elim
      | some ds =>
        rw [hl] at p2
        obtain ⟨w1, w2⟩ := wk i α2 H2 h2 ds e2 rp2 hl
        cases hd : ds[i]? with
        | none =>
          dsimp only at p2
          rw [hd] at p2
          exact .inl ⟨w1 (List.getElem?_eq_none_iff.mp hd), fin acc us α2 H2 h2 e2 rp2 hn2 hd2 hu2 p2⟩
        | some d =>
          dsimp only at p2
          rw [hd] at p2
          dsimp only at p2
          refine .inr ?_
          obtain ⟨go, y⟩ := w2 _ hd
          refine ⟨go, _, fun H' z => z, fun x H' hy => ?_⟩
          obtain ⟨eH, hx⟩ := y x H' hy
          rw [eH]
          clear eH hy
          refine comp_turn (G := fun acc h => Post K cls W σ α1 H1 ((compN (cmpT elt g cond (wipeF δ vs)) n m (i + 1) acc h).noexc) (fun ds α' H' _ => ∀ p vs, H p = none → p ∉ α' → H' p = some (.lst vs) → VRs K α' H' ds vs → Q (.ref p) H'))
            hs hDd (k := fun _ _ => .bad) e2 rp2 (rf1.ext e2) hn2 hd2 hu2 hx ?_ fun acc' us' α3 H3 h3 e3 rp3 hn3 hd3 hu3 p3 => ⟨m, Nat.lt_succ_self _, α3, h3, acc', us', e3, rp3, hn3, hd3, hu3, p3⟩
          cases hc : cmpT elt g cond (wipeF δ vs) d h2 with
          | bad => rw [hc] at p2; exact p2.elim
          | exc c fs h' => rw [hc] at p2; exact p2.elim
          | ok o h' =>
            rw [hc] at p2
            refine ⟨o, h', rfl, ?_⟩
            cases o with
            | none => exact p2
            | some y =>
              have p3 : Post K cls W σ α1 H1 ((if acc.length < SL then compN (cmpT elt g cond (wipeF δ vs)) n m (i + 1) (acc ++ [y]) h' else .bad).noexc) _ := p2
              by_cases hz : acc.length < SL
              · rw [if_pos hz] at p3; exact ⟨hz, p3⟩
              · rw [if_neg hz] at p3; exact p3.elim
end
end FD

set_option Elab.async false
set_option linter.all false
set_option maxRecDepth 100000
set_option maxHeartbeats 1000000
/-! The D layer, 8: from the text's syntax to the language. -/
namespace FD
open PySem PySem.Spec PyProof.Rows L2
/-- what is known of the names around -/
structure CC where
  N : List Str
  sc : Scope
  asn : List Str
  fns : List (Str × Nat)
  gls : List (Str × D)
  free : List Str
/-- the recursive calls -/
structure Rec where
  e : CC → Expr → Option E
  es : CC → List Expr → Option Es
  b : CC → Bool → List Expr → Option E
  l : CC → Expr → Option L
  it : CC → Expr → Option It
  t : CC → Expr → Option T
  ts : CC → List Expr → Option Ts
  o : CC → Option Expr → Option Oe
def plainB : Expr → Bool
  | .Call (.Name _ _) [] [] _ => false
  | _ => true
def noStar : Expr → Bool
  | .Starred _ _ => false
  | _ => true
def noSet : Expr → Bool
  | .Set _ _ _ => false
  | _ => true
def noSlice : Expr → Bool
  | .Slice _ _ _ _ => false
  | _ => true
def noComp : Expr → Bool
  | .ListComp _ _ _ _ | .SetComp _ _ _ _ | .DictComp _ _ _ _ _ => false
  | _ => true
def nameOk (x : Str) : Bool := !(x == ("__debug__" : Str)) && !(x == ("__classdict__" : Str)) && !(x == ("__name__" : Str))
def visB (sc : Scope) (x : Str) : Bool := match sc.names.lookup x with
  | some .local => true
  | some .cell => true
  | some .free => true
  | _ => false
def glB (sc : Scope) (x : Str) : Bool := match sc.names.lookup x with
  | some .globalImplicit => true
  | _ => false
def locB (sc : Scope) (x : Str) : Bool := match sc.names.lookup x with
  | some .local => true
  | _ => false
def slotOf : List Str → Str → Nat → Option Nat
  | [], _, _ => none
  | y :: r, x, i => if y == x then some i else slotOf r x (i + 1)
def cK : Const → Option E
  | .none => some (.c .non)
  | .bool b => some (.c (.bl b))
  | .int i => some (.c (.int i))
  | .str s => some (.c (.str s.cps.toList))
  | _ => none
def cN (c : CC) (x : Str) : Option E :=
  if nameOk x then
    if visB c.sc x then (slotOf c.N x 0).map .sl
    else if glB c.sc x then (c.gls.lookup x).map .c
    else none
  else none
def cOp : Operator → Option BOp
  | .Add => some .add | .Sub => some .sub | .Mult => some .mul | .FloorDiv => some .fdiv | .Mod => some .mod | .Pow => some .pow
  | _ => none
def cCo : CmpOp → Option COp
  | .Eq => some .eq | .NotEq => some .ne | .Lt => some .lt | .LtE => some .le | .Gt => some .gt | .GtE => some .ge | .In => some .in_ | .NotIn => some .nin
  | _ => none
/-- o.replace(..).replace(..) -/
def strip : Nat → Expr → Option (Expr × List (Nat × List Nat))
  | k + 1, .Call (.Attribute o m apos) [.Constant (.str y) _ _, .Constant (.str z) _ _] [] pos =>
    if m == ("replace" : Str) && plainB o && (apos.endLine == pos.line) && !(y == z) then
      match y.cps.toList with
      | [c] => match strip k o with
        | some (b, ps) => some (b, ps ++ [(c, z.cps.toList)])
        | none => some (o, [(c, z.cps.toList)])
      | _ => none
    else none
  | _, _ => none
def cSi : Expr → Option Si
  | .Constant .none _ _ => some .non
  | .Constant (.bool true) _ _ => some .tr
  | .Constant (.bool false) _ _ => some .fl
  | _ => none
def tyS : List (Str × Ty) := [("int", .int), ("str", .str), ("tuple", .tuple), ("bool", .bool), ("list", .list)]
def glFree (c : CC) (x : Str) : Bool := nameOk x && glB c.sc x && c.free.contains x
def cBl : List (Str × Bl) := [("tuple", .tuple), ("len", .len), ("all", .all), ("any", .any)]
def cBi : List (Str × Bi) := [("len", .len), ("int", .int), ("str", .str), ("tuple", .tuple)]
def cCall (r : Rec) (c : CC) (x : Str) (args : List Expr) : Option E :=
  if nameOk x && glB c.sc x then
    match c.fns.lookup x with
    | some f => (r.es c args).map (.call f)
    | none => if c.free.contains x then
        match args with
        | [a] => if !noStar a then none else match cBl.lookup x, r.l c a with
          | some b, some l => some (.biL b l)
          | _, _ => match cBi.lookup x, r.e c a with
            | some b, some a' => some (.bi b a')
            | _, _ => none
        | [a, .Name t _] => if x == ("isinstance" : Str) && glFree c t && noStar a then
            match tyS.lookup t, r.e c a with
            | some ty, some a' => some (.isi a' ty)
            | _, _ => none
          else none
        | _ => none
      else none
  else none
def cMeth (r : Rec) (c : CC) (o : Expr) (m : Str) (args : List Expr) : Option E :=
  match args with
  | [a] => if m == ("append" : Str) then
      match r.e c o, r.es c [a] with
      | some o', some es => some (.mt .append o' es)
      | _, _ => none
    else if m == ("join" : Str) && noStar a then
      match r.e c o, r.l c a with
      | some o', some l => some (.mtL .join o' l)
      | _, _ => match r.e c o, r.es c [a] with
        | some o', some es => some (.mt .join o' es)
        | _, _ => none
    else none
  | [a, b] => if m == ("find" : Str) then
      match r.e c o, r.es c [a, b] with
      | some o', some es => some (.mt .find2 o' es)
      | _, _ => none
    else none
  | [a, b, d] => if m == ("find" : Str) then
      match r.e c o, r.es c [a, b, d] with
      | some o', some es => some (.mt .find3 o' es)
      | _, _ => none
    else none
  | _ => none
def cBin (r : Rec) (c : CC) (a : Expr) (op : Operator) (b : Expr) : Option E :=
  match op, a, strip 9 b with
  | .Add, .Constant (.str q) _ _, some (o, ps) => (r.e c o).map fun o' => .repl q.cps.toList o' ps
  | _, _, _ => match cOp op, r.e c a, r.e c b with
    | some o, some a', some b' => some (.bin o a' b')
    | _, _, _ => none
def cCmp (r : Rec) (c : CC) (a : Expr) (op : CmpOp) (b : Expr) : Option E :=
  match op with
  | .Is => match r.e c a, cSi b with
    | some a', some s => some (.is_ true a' s)
    | _, _ => none
  | .IsNot => match r.e c a, cSi b with
    | some a', some s => some (.is_ false a' s)
    | _, _ => none
  | op => if noSet b then
      match cCo op, r.e c a, r.e c b with
      | some o, some a', some b' => some (.cmp o a' b')
      | _, _, _ => none
    else none
def sE (r : Rec) (c : CC) (e : Expr) : Option E := match e with
  | .Constant k _ _ => cK k
  | .Name x _ => cN c x
  | .BinOp a op b _ => cBin r c a op b
  | .UnaryOp .USub a _ => (r.e c a).map .neg
  | .UnaryOp .Not a _ => (r.e c a).map .not_
  | .BoolOp .And vs _ => r.b c true vs
  | .BoolOp .Or vs _ => r.b c false vs
  | .IfExp t a b _ => match r.e c t, r.e c a, r.e c b with
    | some t', some a', some b' => some (.ite t' a' b')
    | _, _, _ => none
  | .Compare a [op] [b] _ => cCmp r c a op b
  | .Tuple es _ _ => (r.es c es).map .tup
  | .Subscript a (.Slice lo hi none _) _ => match r.e c a, r.o c lo, r.o c hi with
    | some a', some lo', some hi' => some (.sli a' lo' hi')
    | _, _, _ => none
  | .Subscript a b _ => if noSlice b then
      match r.l c a with
      | some l => (r.e c b).map (.ixL l)
      | none => match r.e c a, r.e c b with
        | some a', some b' => some (.ix a' b')
        | _, _ => none
    else none
  | .Call (.Name x _) args [] _ => cCall r c x args
  | .Call (.Attribute o m apos) args [] pos => if plainB o && (apos.endLine == pos.line) then cMeth r c o m args else none
  | .List es pos => (r.l c (.List es pos)).map .ofL
  | .ListComp elt gs sc pos => (r.l c (.ListComp elt gs sc pos)).map .ofL
  | _ => none
def sEs (r : Rec) (c : CC) : List Expr → Option Es
  | [] => some .nil
  | e :: es => if noStar e then
      match r.e c e, r.es c es with
      | some e', some es' => some (.cons e' es')
      | _, _ => none
    else none
def sB (r : Rec) (c : CC) (k : Bool) : List Expr → Option E
  | [a] => r.e c a
  | a :: b :: rest => match r.e c a, r.b c k (b :: rest) with
    | some a', some b' => some (if k then .and_ a' b' else .or_ a' b')
    | _, _ => none
  | [] => none
def relab (scope outer : Scope) : Scope := { scope with names := scope.names.map fun (n, k) => if (k == NameKind.free && outer.kind == .function && outer.names.lookup n == some .cell) then (n, NameKind.cell) else (n, k) }
/-- a comprehension's own names with their places -/
def ownOf (N : List Str) : List (Str × NameKind) → List (Str × Nat)
  | [] => []
  | (n, k) :: r => if k == NameKind.local || k == NameKind.cell then
      match slotOf N n 0 with
      | some i => (n, i) :: ownOf N r
      | none => ownOf N r
    else ownOf N r
/-- the names that a comprehension's targets may set -/
def asnOf (sc' : Scope) (scope : Scope) (own : List (Str × Nat)) : List Str :=
  (own.map (·.1)).filter fun x => locB sc' x || ((match sc'.names.lookup x with | some .cell => true | _ => false) && (scope.names.lookup x == some .cell))
def inner (c : CC) (scope : Scope) : CC := { c with sc := relab scope c.sc, asn := asnOf (relab scope c.sc) scope (ownOf c.N scope.names) }
def cIfs (r : Rec) (c : CC) : List Expr → Option Oe
  | [] => some Oe.none
  | [e] => r.o c (some e)
  | _ => none
def sL (r : Rec) (c : CC) : Expr → Option L
  | .List es _ => (r.es c es).map .disp
  | .ListComp elt [⟨tg, iter, ifs, 0⟩] scope _ =>
    if blkC c.N c.sc scope (ownOf c.N scope.names) && noSet iter then
      match r.e (inner c scope) elt, r.t (inner c scope) tg, r.it c iter, cIfs r (inner c scope) ifs with
      | some e', some t', some i', some o' => if t'.slots.all (fun i => ((ownOf c.N scope.names).map (·.2)).contains i) then some (.comp e' ((ownOf c.N scope.names).map (·.2)) t' i' o') else none
      | _, _, _, _ => none
    else none
  | _ => none
def sIt (r : Rec) (c : CC) (e : Expr) : Option It :=
  match e with
  | .Call (.Name x p) [a] [] pos => if x == ("range" : Str) && glFree c x && noStar a then (r.e c a).map .r1
    else (r.e c (.Call (.Name x p) [a] [] pos)).map .e
  | .Call (.Name x p) [a, b] [] pos => if x == ("range" : Str) && glFree c x && noStar a && noStar b then
      match r.e c a, r.e c b with
      | some a', some b' => some (.r2 a' b')
      | _, _ => none
    else (r.e c (.Call (.Name x p) [a, b] [] pos)).map .e
  | e => match r.l c e with
    | some l => some (.l l)
    | none => (r.e c e).map .e
def sT (r : Rec) (c : CC) : Expr → Option T
  | .Name x _ => if c.asn.contains x then (slotOf c.N x 0).map .sl else none
  | .Tuple es _ _ => (r.ts c es).map .tup
  | .Subscript a b _ => if noSlice b then
      match r.e c a, r.e c b with
      | some a', some b' => some (.sub a' b')
      | _, _ => none
    else none
  | _ => none
def sTs (r : Rec) (c : CC) : List Expr → Option Ts
  | [] => some .nil
  | e :: es => if noStar e then
      match r.t c e, r.ts c es with
      | some e', some es' => some (.cons e' es')
      | _, _ => none
    else none
def sO (r : Rec) (c : CC) : Option Expr → Option Oe
  | none => some Oe.none
  | some e => (r.e c e).map Oe.some
def rec0 : Rec := ⟨fun _ _ => none, fun _ _ => none, fun _ _ _ => none, fun _ _ => none, fun _ _ => none, fun _ _ => none, fun _ _ => none, fun _ _ => none⟩
def step (r : Rec) : Rec := ⟨sE r, sEs r, sB r, sL r, sIt r, sT r, sTs r, sO r⟩
def recN : Nat → Rec
  | 0 => rec0
  | n + 1 => step (recN n)

/-! ### statements -/
structure RecS where
  s : CC → Stmt → Option S
  ss : CC → List Stmt → Option Ss
def isTupD : Expr → Bool
  | .Tuple _ _ _ => true
  | .List _ _ => true
  | _ => false
/-- a comprehension that is given to a local name on one line -/
def swB (c : CC) (t : Expr) (v : Expr) : Bool := match v with
  | .ListComp _ _ scope pos => (match t with
    | .Name x p => c.sc.kind == .function && c.sc.names.lookup x == some .local && p.line == pos.line && !(scope.names.any fun (n, k) => n == x && (k == .local || k == .cell))
    | _ => false)
  | _ => false
def okAsg (c : CC) (t v : Expr) : Bool := c.sc.kind == .function && noStar t && !(isTupD t && isTupD v) && (match v with | .SetComp .. => false | .DictComp .. => false | _ => true)
def cSet (r : Rec) (c : CC) (t v : Expr) : Option S := match t with
  | .Name x _ => if c.asn.contains x && locB c.sc x then match slotOf c.N x 0, sL r c v with
    | some i, some l => some (.asg (.sl i) (.ofL l))
    | _, _ => none
    else none
  | _ => none
def sS (r : Rec) (q : RecS) (c : CC) : Stmt → Option S
  | .Assign [t] v _ => if okAsg c t v then
      if swB c t v then cSet r c t v
      else match r.t c t, r.e c v with
      | some t', some v' => some (.asg t' v')
      | _, _ => none
    else none
  | .AugAssign (.Name x _) op v _ => if c.asn.contains x then
      match slotOf c.N x 0, cOp op, r.e c v with
      | some i, some o, some v' => (match o with | .add => some (.aug i .add v') | .sub => some (.aug i .sub v') | _ => none)
      | _, _, _ => none
    else none
  | .Expr e _ => if noComp e then (r.e c e).map .ex else none
  | .Return none _ => some .retN
  | .Return (some e) _ => (r.e c e).map .ret
  | .If t a b _ => match r.e c t, q.ss c a, q.ss c b with
    | some t', some a', some b' => some (.ite t' a' b')
    | _, _, _ => none
  | .While t a [] _ => match r.e c t, q.ss c a with
    | some t', some a' => some (.whl t' a')
    | _, _ => none
  | .For t it a [] _ => if noSet it then
      match r.t c t, r.it c it, q.ss c a with
      | some t', some i', some a' => some (.fr t' i' a')
      | _, _, _ => none
    else none
  | .Break _ => some .brk
  | .Continue _ => some .cnt
  | .Pass _ => some .pass
  | .Raise _ _ _ => some .never
  | _ => none
def sSs (q : RecS) (c : CC) : List Stmt → Option Ss
  | [] => some .nil
  | s :: ss => match q.s c s, q.ss c ss with
    | some s', some ss' => some (.cons s' ss')
    | _, _ => none
def recS (r : Rec) : Nat → RecS
  | 0 => ⟨fun _ _ => none, fun _ _ => none⟩
  | n + 1 => ⟨sS r (recS r n) , sSs (recS r n)⟩
end FD

set_option Elab.async false
set_option linter.all false
set_option maxRecDepth 100000
set_option maxHeartbeats 1000000
/-! The D layer, 9: what the evaluator tells is so. Expressions. -/
namespace FD
open PySem PySem.Spec PyProof.Rows L2
/-- a def's promise by a function on D's values -/
def spD (K : PySem.W.Frag) (cls : Nat → Option Addr) (f : List D → DH → Out D) : Sp := fun vs H Q E => ∃ α ds h, RepH K α H h ∧ VRs K α H ds vs ∧ Post K cls (fun cv dd _ H' => E cv dd H') [] α H (f ds h) fun d α' H' _ => ∀ v, VR K α' H' d v → Q v H'
/-- what is known of the names of the module -/
structure Facts (P : Program) (w : World) (K : PySem.W.Frag) (mg : Str → Option Value) (base : Heap) (c : CC) (C : Cn) (cls : Nat → Option Addr) (k : Nat) : Prop where
  fn : ∀ x f, c.fns.lookup x = some f → ∃ a fd ps, mg x = some (.ref a) ∧ PySem.W.keepIn K (.ref a) = true ∧ Binds K fd ps [] ∧ FnOk P w K mg base (L2.CX P w) k a fd ps (spD K cls (C.fn f))
  gl : ∀ x d, c.gls.lookup x = some d → ∃ u v, mg x = some u ∧ RelV v u ∧ ∀ α H, VR K α H d v
  fr : ∀ x, c.free.contains x = true → mg x = none
structure Ok (X : Cx) (c : CC) (C : Cn) (cls : Nat → Option Addr) (W : WX) (k : Nat) : Prop where
  hN : X.N = c.N
  nd : X.N.Nodup
  sc : X.env.scope = c.sc
  calm : X.calm = true
  po : PassesOwn (model X.prog X.w) X.A X.env X.xe
  tk : Takes X W
  room : Room k X.A
  asn : ∀ x, c.asn.contains x = true → Loc X.env.scope x ∧ (X.fn x = true ∨ X.env.scope.names.lookup x = some .local)
  fa : Facts X.prog X.w X.K X.mg X.base c C cls k
structure Snd (r : Rec) (C : Cn) (cls : Nat → Option Addr) (k : Nat) : Prop where
  e : ∀ c e t, r.e c e = some t → ∀ X W, Ok X c C cls W k → PE X e (rdE X.K cls W (ev C t).v) ∧ PT X e (rdT X.K cls W (ev C t).t)
  es : ∀ c es t, r.es c es = some t → ∀ X W, Ok X c C cls W k → PA X es (rdEs X.K cls W (evs C t)) ∧ (∀ e ∈ es, noStar e = true) ∧ (es = [] → t = .nil)
  b : ∀ c k' vs t, r.b c k' vs = some t → ∀ X W pos, Ok X c C cls W k → PE X (.BoolOp (if k' = true then .And else .Or) vs pos) (rdE X.K cls W (ev C t).v) ∧ PW X (.BoolOp (if k' = true then .And else .Or) vs pos) (rdT X.K cls W (ev C t).t)
  l : ∀ c e t, r.l c e = some t → ∀ X W, Ok X c C cls W k → PE X e (rdL X.K cls W (evL C t))
  it : ∀ c e t, r.it c e = some t → ∀ X W tg, Ok X c C cls W k → PI X tg e (rdI X.K cls W (evI C t))
  t : ∀ c e t, r.t c e = some t → ∀ X W, Ok X c C cls W k → PG X e (rdG X.K cls W t.slots (asT C t))
  ts : ∀ c es t, r.ts c es = some t → ∀ X W, Ok X c C cls W k → PGs X es (rdGs X.K cls W t.slots (asTs C t)) ∧ (∀ e ∈ es, noStar e = true) ∧ t.len = es.length
  o : ∀ c o t, r.o c o = some t → ∀ X W, Ok X c C cls W k → PO X o (rdO X.K cls W (evO C t)) ∧ match o, t with
    | none, .none => True
    | some e, .some e' => PT X e (rdT X.K cls W (ev C e').t)
    | _, _ => False

/-! ### syntax -/
theorem star_cons {e : Expr} {es : List Expr} {env : Env} (h : noStar e = true) : starEach (e :: es) env = (false, eval e env) :: starEach es env := by
  cases e <;> first | rfl | (cases h)
theorem star_plain {env : Env} {pos : Pos} : ∀ {es : List Expr}, (∀ e ∈ es, noStar e = true) → (backTo pos (starEach es env)).any (·.1) = false
  | [], _ => rfl
  | e :: es, h => by
    rw [star_cons (h e List.mem_cons_self)]
    show (false || (backTo pos (starEach es env)).any (·.1)) = false
    rw [star_plain fun x hx => h x (List.mem_cons_of_mem _ hx)]
    rfl
theorem slot_get : ∀ {N : List Str} {x : Str} {i j : Nat}, slotOf N x i = some j → i ≤ j ∧ N[j - i]? = some x
  | [], x, i, j, h => by cases h
  | y :: r, x, i, j, h => by
    unfold slotOf at h
    split at h
    · rename_i e
      cases h
      exact ⟨Nat.le_refl _, by simp [beq_iff_eq.mp e]⟩
    · obtain ⟨h1, h2⟩ := slot_get h
      refine ⟨by omega, ?_⟩
      have e : j - i = (j - (i + 1)) + 1 := by omega
      rw [e]; simpa using h2
theorem slot_get0 {N : List Str} {x : Str} {j : Nat} (h : slotOf N x 0 = some j) : N[j]? = some x := by simpa using (slot_get h).2
theorem vis_of {sc : Scope} {x : Str} (h : visB sc x = true) : Vis sc x := by
  unfold visB at h
  split at h
  · rename_i e; exact .inl e
  · rename_i e; exact .inr (.inl e)
  · rename_i e; exact .inr (.inr e)
  · cases h
theorem gl_of {X : Cx} {x : Str} (h : glB X.env.scope x = true) : Gl X x := by
  unfold glB at h
  split at h
  · rename_i e; exact e
  · cases h
theorem base_plain {o : Expr} {m : Str} {env : Env} {w : Sem Value} (h : plainB o = true) : attributeBase o m env w = w := by
  unfold attributeBase
  split
  · cases h
  · rfl
theorem ix_plain {b : Expr} (h : noSlice b = true) : PlainIx b := by
  intro o i
  cases b <;> first | rfl | (cases h)
theorem in_plain {op : CmpOp} {b : Expr} (h : noSet b = true) : behindInMarks op b = false := by
  cases b <;> first | rfl | (cases h)
theorem fold_plain {e : Expr} {env : Env} (h : noSet e = true) : ∀ x, foldedSetIterable e env x = pure x := by
  intro x
  cases e <;> first | rfl | (cases h)
theorem name_ok {x : Str} (h : nameOk x = true) : (x == ("__debug__" : Str)) = false ∧ (x == ("__classdict__" : Str)) = false ∧ x ≠ "__name__" := by
  unfold nameOk at h
  simp only [Bool.and_eq_true, Bool.not_eq_true'] at h
  exact ⟨h.1.1, h.1.2, beq_eq_false_iff_ne.mp h.2⟩

section
variable {X : Cx} {c : CC} {C : Cn} {cls : Nat → Option Addr} {W : WX} {k : Nat} {r : Rec}
/-- the test of a value by its truth -/
theorem pt_of {e : Expr} {v : Fr → DH → Out D} (h : PE X e (rdE X.K cls W v)) (he : ∀ whole, isTrue e X.env whole = (do let v ← whole; standAt e.pos; holding [v] (truthy v))) : PT X e (rdT X.K cls W (tst v).t) := by
  refine pt_imp (pt_truth h he) fun σ H Q ⟨α, δ, hh, rp, rf, p⟩ => ⟨α, δ, hh, rp, rf, (Post.of_bind p).mono fun d α' H' h' e1 rp1 p1 x hx => ?_⟩
  obtain ⟨b, hb, q⟩ := Post.opt p1 rp1
  exact ⟨b, tru_vr rp1 hx hb, q⟩
theorem both {e : Expr} {v : Fr → DH → Out D} (h : PE X e (rdE X.K cls W v)) (he : ∀ whole, isTrue e X.env whole = (do let v ← whole; standAt e.pos; holding [v] (truthy v))) : PE X e (rdE X.K cls W (tst v).v) ∧ PT X e (rdT X.K cls W (tst v).t) := ⟨h, pt_of h he⟩

theorem snd_K {q : Const} {j : Nat} {pos : Pos} {t : E} (h : cK q = some t) : PE X (.Constant q j pos) (rdE X.K cls W (ev C t).v) ∧ PT X (.Constant q j pos) (rdT X.K cls W (ev C t).t) := by
  have key : ∀ (d : D) (v : V), t = .c d → PE X (.Constant q j pos) (tC v) → (∀ α H, VR X.K α H d v) → PE X (.Constant q j pos) (rdE X.K cls W (ev C t).v) ∧ PT X (.Constant q j pos) (rdT X.K cls W (ev C t).t) := by
    intro d v et hp hv
    subst et
    exact both (pe_imp hp fun σ H Q ⟨α, δ, hh, rp, rf, p⟩ => p α H Ext.refl rp v (hv _ _)) fun _ => rfl
  cases q <;> simp only [cK] at h <;> try contradiction
  · cases h; exact key .non .non rfl pe_non fun _ _ => rfl
  · cases h; exact key _ (.bl _) rfl pe_bl fun _ _ => rfl
  · cases h; exact key _ (.int _) rfl pe_int fun _ _ => rfl
  · cases h
    refine key _ (.str _) rfl pe_str fun _ _ => ?_
    show V.str _ = V.str _
    rw [toS_cps]
theorem snd_N {x : Str} {pos : Pos} {t : E} (ok : Ok X c C cls W k) (h : cN c x = some t) : PE X (.Name x pos) (rdE X.K cls W (ev C t).v) ∧ PT X (.Name x pos) (rdT X.K cls W (ev C t).t) := by
  unfold cN at h
  split at h
  · rename_i hn
    obtain ⟨n1, n2, n3⟩ := name_ok hn
    split at h
    · rename_i hv
      obtain ⟨i, hi, rfl⟩ := Option.map_eq_some_iff.mp h
      have hN : X.N[i]? = some x := by rw [ok.hN]; exact slot_get0 hi
      refine both (pe_imp (pe_var (i := i) hN (by rw [ok.sc]; exact vis_of hv) n1 n2) fun σ H Q ⟨α, δ, hh, rp, rf, p⟩ => ?_) fun _ => rfl
      dsimp only at p
      cases hd : δ[i]? with
      | none => rw [hd] at p; exact p.elim
      | some o =>
        cases o with
        | none => rw [hd] at p; exact p.elim
        | some d =>
          rw [hd] at p
          obtain ⟨v, h1, h2⟩ := rf.sl i d hd
          exact ⟨v, h1, p α H Ext.refl rp v h2⟩
    · split at h
      · rename_i hg
        obtain ⟨d, hd, rfl⟩ := Option.map_eq_some_iff.mp h
        obtain ⟨u, v, h1, h2, h3⟩ := ok.fa.gl x d hd
        exact both (pe_imp (pe_glob (gl_of (by rw [ok.sc]; exact hg)) h1 h2 n1) fun σ H Q ⟨α, δ, hh, rp, rf, p⟩ => p α H Ext.refl rp v (h3 _ _)) fun _ => rfl
      · cases h
  · cases h

/-! ### one value, two values -/
theorem rdE_mono {f : Fr → DH → Out D} {K : PySem.W.Frag} {σ : L2.St} {H : Hp} {Q Q' : VK} (h : rdE K cls W f σ H Q) (i : ∀ v H', Q v H' → Q' v H') : rdE K cls W f σ H Q' := by
  obtain ⟨α, δ, hh, rp, rf, p⟩ := h
  exact ⟨α, δ, hh, rp, rf, p.mono fun d α' H' h' _ _ q v hv => i _ _ (q v hv)⟩
theorem rd1 {K : PySem.W.Frag} {β : Type} {va : Fr → DH → Out D} {g : D → DH → Out β} {σ : L2.St} {α : List Addr} {H : Hp} {δ : Fr} {h : DH} {Z : β → List Addr → Hp → DH → Prop} (rp : RepH K α H h) (rf : RepF K α H σ δ)
    (p : Post K cls W σ α H ((va δ h).bind g) Z) :
    rdE K cls W va σ H fun x H1 => ∃ α1 h1 d, RepH K α1 H1 h1 ∧ RepF K α1 H1 σ δ ∧ VR K α1 H1 d x ∧ Ext α H α1 H1 ∧ Post K cls W σ α1 H1 (g d h1) Z :=
  ⟨α, δ, h, rp, rf, (Post.of_bind p).mono fun d α1 H1 h1 e1 rp1 p1 v hv => ⟨α1, h1, d, rp1, rf.ext e1, hv, e1, p1⟩⟩
theorem rd2 {K : PySem.W.Frag} {β : Type} {va vb : Fr → DH → Out D} {g : D → D → DH → Out β} {σ : L2.St} {α : List Addr} {H : Hp} {δ : Fr} {h : DH} {Z : β → List Addr → Hp → DH → Prop} (rp : RepH K α H h) (rf : RepF K α H σ δ)
    (p : Post K cls W σ α H ((va δ h).bind fun x h => (vb δ h).bind fun y h => g x y h) Z) :
    rdE K cls W va σ H fun x H1 => rdE K cls W vb σ H1 fun y H2 => ∃ α2 h2 d e, RepH K α2 H2 h2 ∧ RepF K α2 H2 σ δ ∧ VR K α2 H2 d x ∧ VR K α2 H2 e y ∧ Ext α H α2 H2 ∧ Post K cls W σ α2 H2 (g d e h2) Z :=
  rdE_mono (rd1 rp rf p) fun x H1 ⟨α1, h1, d, rp1, rf1, hx, e1, p1⟩ => rdE_mono (rd1 rp1 rf1 p1) fun y H2 ⟨α2, h2, e, rp2, rf2, hy, e2, p2⟩ => ⟨α2, h2, d, e, rp2, rf2, hx.ext e2, hy, e1.trans e2, p2⟩
theorem no_binD {h : DH} {o : BOp} {x y : D} {n : Nat} {fs : List (List Nat × D)} {h' : DH} : binD h o x y ≠ .exc n fs h' := by
  cases o <;> cases x <;> cases y <;> simp only [binD] <;> (try exact fun z => by cases z) <;> split <;> (try exact fun z => by cases z) <;> split <;> exact fun z => by cases z
theorem no_sliD {h : DH} {x : D} {lo hi : Option Int} {n : Nat} {fs : List (List Nat × D)} {h' : DH} : sliD h x lo hi ≠ .exc n fs h' := by
  unfold sliD
  split
  · split <;> exact fun z => by cases z
  · split <;> exact fun z => by cases z
  · exact fun z => by cases z
theorem no_mtD {h : DH} {m : Mt} {x : D} {es : List D} {n : Nat} {fs : List (List Nat × D)} {h' : DH} : mtD h m x es ≠ .exc n fs h' := by
  cases m <;> simp only [mtD]
  · unfold appD
    split
    · split
      · split <;> exact fun z => by cases z
      · exact fun z => by cases z
    · exact fun z => by cases z
  · unfold fnd2D
    split <;> exact fun z => by cases z
  · unfold fnd3D
    split
    · split <;> exact fun z => by cases z
    · exact fun z => by cases z
  · unfold joiD
    split
    · split
      · rename_i xs _
        cases mlD .join (.str _) xs <;> exact fun z => by cases z
      · exact fun z => by cases z
    · exact fun z => by cases z
/-- an outcome that is no exception -/
theorem Post.ok_of {β : Type} {K : PySem.W.Frag} {σ : L2.St} {α : List Addr} {H : Hp} {o : Out β} {Z : β → List Addr → Hp → DH → Prop} (p : Post K cls W σ α H o Z) (n : ∀ c fs h', o ≠ .exc c fs h') : ∃ b h', o = .ok b h' ∧ ∀ α' H', Ext α H α' H' → RepH K α' H' h' → Z b α' H' h' := by
  cases o with
  | ok b h' => exact ⟨b, h', rfl, p⟩
  | exc c fs h' => exact absurd rfl (n c fs h')
  | bad => exact p.elim

theorem toOp_of {op : Operator} {o : BOp} (h : cOp op = some o) : op = toOp o := by
  cases op <;> simp only [cOp] at h <;> first | (cases h; rfl) | cases h
theorem toCo_of {op : CmpOp} {o : COp} (h : cCo op = some o) : op = toCmp o := by
  cases op <;> simp only [cCo] at h <;> first | (cases h; rfl) | cases h
theorem snd_bin {a b : Expr} {a' b' : E} {op : Operator} {o : BOp} {pos : Pos} (ho : cOp op = some o) (ha : PE X a (rdE X.K cls W (ev C a').v)) (hb : PE X b (rdE X.K cls W (ev C b').v)) :
    PE X (.BinOp a op b pos) (rdE X.K cls W (ev C (.bin o a' b')).v) := by
  rw [toOp_of ho]
  refine pe_imp (pe_op (bin_ok o) ha hb) fun σ H Q ⟨α, δ, h, rp, rf, p⟩ => ?_
  refine rdE_mono (rd2 rp rf p) fun x H1 q => rdE_mono q fun y H2 ⟨α2, h2, d, e, rp2, rf2, hd, he, e2, p2⟩ => ?_
  obtain ⟨r, h', hr, q⟩ := Post.ok_of p2 fun _ _ _ => no_binD
  exact ⟨α2, h2, d, e, r, h', rp2, hd, he, hr, q⟩
theorem snd_neg {a : Expr} {a' : E} {pos : Pos} (ha : PE X a (rdE X.K cls W (ev C a').v)) : PE X (.UnaryOp .USub a pos) (rdE X.K cls W (ev C (.neg a')).v) := by
  refine pe_imp (pe_un un_neg ha) fun σ H Q ⟨α, δ, h, rp, rf, p⟩ => ?_
  refine rdE_mono (rd1 rp rf p) fun x H1 ⟨α1, h1, d, rp1, rf1, hx, e1, p1⟩ => ?_
  cases d <;> try exact p1.elim
  rename_i i
  rw [vr_int hx]
  exact ⟨i, rfl, p1 _ _ Ext.refl rp1 _ rfl⟩
theorem snd_cmp (ok : Ok X c C cls W k) {a b : Expr} {a' b' : E} {op : CmpOp} {o : COp} {pos : Pos} (ho : cCo op = some o) (hs : noSet b = true) (ha : PE X a (rdE X.K cls W (ev C a').v)) (hb : PE X b (rdE X.K cls W (ev C b').v)) :
    PE X (.Compare a [op] [b] pos) (rdE X.K cls W (ev C (.cmp o a' b')).v) ∧ PT X (.Compare a [op] [b] pos) (rdT X.K cls W (ev C (.cmp o a' b')).t) := by
  rw [toCo_of ho]
  have key : ∀ {σ : L2.St} {H : Hp} {Z : D → List Addr → Hp → DH → Prop} {α : List Addr} {δ : Fr} {h : DH}, RepH X.K α H h → RepF X.K α H σ δ → Post X.K cls W σ α H ((ev C (.cmp o a' b')).v δ h) Z →
      tOp (rB2 X.K fun h => cmpD h o) (rdE X.K cls W (ev C a').v) (rdE X.K cls W (ev C b').v) σ H fun v H' => ∃ bb α' h', v = .bl bb ∧ Z (.bl bb) α' H' h' ∧ RepH X.K α' H' h' ∧ VR X.K α' H' (.bl bb) v := fun rp rf p =>
    rdE_mono (rd2 rp rf p) fun x H1 q => rdE_mono q fun y H2 ⟨α2, h2, d, e, rp2, rf2, hd, he, e2, p2⟩ => by
      obtain ⟨r, hr, q⟩ := Post.opt p2 rp2
      obtain ⟨bb, hb, rfl⟩ := Option.map_eq_some_iff.mp hr
      exact ⟨α2, h2, d, e, bb, rp2, hd, he, hb, bb, α2, h2, rfl, q, rp2, rfl⟩
  refine ⟨pe_imp (pe_cmpR (cmp_ok ok.room.units o) ha hb (in_plain hs)) fun σ H Q ⟨α, δ, h, rp, rf, p⟩ => ?_, pt_imp (pt_cmpR (cmp_ok ok.room.units o) ha hb (in_plain hs)) fun σ H Q ⟨α, δ, h, rp, rf, p⟩ => ?_⟩
  · refine rdE_mono (key rp rf p) fun x H1 q => rdE_mono q fun y H2 ⟨α2, h2, d, e, b, z1, z2, z3, z4, bb, α', h', z5, q, rp', hv⟩ => ⟨α2, h2, d, e, b, z1, z2, z3, z4, ?_⟩
    rw [z5]
    exact q _ (by rw [← z5]; exact hv)
  · have p' := Post.of_bind p
    refine rdE_mono (key rp rf p') fun x H1 q => rdE_mono q fun y H2 ⟨α2, h2, d, e, b, z1, z2, z3, z4, bb, α', h', z5, q, rp', hv⟩ => ⟨α2, h2, d, e, b, z1, z2, z3, z4, ?_⟩
    obtain ⟨b2, hb2, q⟩ := Post.opt q rp'
    cases hb2
    exact ⟨_, z5, q⟩
theorem si_PE {b : Expr} {s : Si} (h : cSi b = some s) : PE X b (tC (siV s)) := by
  unfold cSi at h
  split at h <;> first | (cases h; exact pe_non) | (cases h; exact pe_bl) | cases h
theorem si_set {b : Expr} {s : Si} (h : cSi b = some s) : noSet b = true := by
  unfold cSi at h
  split at h <;> first | rfl | cases h
theorem snd_is {a b : Expr} {a' : E} {s : Si} {pos : Pos} (hs : cSi b = some s) (ha : PE X a (rdE X.K cls W (ev C a').v)) :
    PE X (.Compare a [.Is] [b] pos) (rdE X.K cls W (ev C (.is_ true a' s)).v) ∧ PT X (.Compare a [.Is] [b] pos) (rdT X.K cls W (ev C (.is_ true a' s)).t) := by
  refine ⟨pe_imp (pe_cmpR (is_ok s) ha (si_PE hs) (in_plain (si_set hs))) fun σ H Q ⟨α, δ, h, rp, rf, p⟩ => ?_, pt_imp (pt_cmpR (is_ok s) ha (si_PE hs) (in_plain (si_set hs))) fun σ H Q ⟨α, δ, h, rp, rf, p⟩ => ?_⟩
  · refine rdE_mono (rd1 rp rf p) fun x H1 ⟨α1, h1, d, rp1, rf1, hx, e1, p1⟩ => ⟨rfl, ?_⟩
    rw [isD_vr hx]
    exact p1 _ _ Ext.refl rp1 _ (by show _ = V.bl _; cases isD d s <;> rfl)
  · have p' := Post.of_bind p
    refine rdE_mono (rd1 rp rf p') fun x H1 ⟨α1, h1, d, rp1, rf1, hx, e1, p1⟩ => ⟨rfl, ?_⟩
    rw [isD_vr hx]
    obtain ⟨b2, hb2, q⟩ := Post.opt (p1 _ _ Ext.refl rp1) rp1
    cases hb2
    exact ⟨_, rfl, by revert q; cases isD d s <;> exact id⟩
theorem snd_isn {a b : Expr} {a' : E} {s : Si} {pos : Pos} (hs : cSi b = some s) (ha : PE X a (rdE X.K cls W (ev C a').v)) :
    PE X (.Compare a [.IsNot] [b] pos) (rdE X.K cls W (ev C (.is_ false a' s)).v) ∧ PT X (.Compare a [.IsNot] [b] pos) (rdT X.K cls W (ev C (.is_ false a' s)).t) := by
  refine ⟨pe_imp (pe_cmpR (isnot_ok s) ha (si_PE hs) (in_plain (si_set hs))) fun σ H Q ⟨α, δ, h, rp, rf, p⟩ => ?_, pt_imp (pt_cmpR (isnot_ok s) ha (si_PE hs) (in_plain (si_set hs))) fun σ H Q ⟨α, δ, h, rp, rf, p⟩ => ?_⟩
  · refine rdE_mono (rd1 rp rf p) fun x H1 ⟨α1, h1, d, rp1, rf1, hx, e1, p1⟩ => ⟨rfl, ?_⟩
    rw [isD_vr hx]
    exact p1 _ _ Ext.refl rp1 _ (by show _ = V.bl _; cases isD d s <;> rfl)
  · have p' := Post.of_bind p
    refine rdE_mono (rd1 rp rf p') fun x H1 ⟨α1, h1, d, rp1, rf1, hx, e1, p1⟩ => ⟨rfl, ?_⟩
    rw [isD_vr hx]
    obtain ⟨b2, hb2, q⟩ := Post.opt (p1 _ _ Ext.refl rp1) rp1
    cases hb2
    exact ⟨_, rfl, by revert q; cases isD d s <;> exact id⟩
end
end FD

set_option Elab.async false
set_option linter.all false
set_option maxRecDepth 100000
set_option maxHeartbeats 1000000
/-! The D layer, 10: soundness of expressions, continued. -/
namespace FD
open PySem PySem.Spec PyProof.Rows L2
section
variable {X : Cx} {c : CC} {C : Cn} {cls : Nat → Option Addr} {W : WX} {k : Nat} {r : Rec}
theorem rdT_mono {f : Fr → DH → Out Bool} {K : PySem.W.Frag} {σ : L2.St} {H : Hp} {Q Q' : Bool → Hp → Prop} (h : rdT K cls W f σ H Q) (i : ∀ v H', Q v H' → Q' v H') : rdT K cls W f σ H Q' := by
  obtain ⟨α, δ, hh, rp, rf, p⟩ := h
  exact ⟨α, δ, hh, rp, rf, p.mono fun d α' H' h' _ _ q => i _ _ q⟩
theorem rdEs_mono {f : Fr → DH → Out (List D)} {K : PySem.W.Frag} {σ : L2.St} {H : Hp} {Q Q' : List V → Hp → Prop} (h : rdEs K cls W f σ H Q) (i : ∀ v H', Q v H' → Q' v H') : rdEs K cls W f σ H Q' := by
  obtain ⟨α, δ, hh, rp, rf, p⟩ := h
  exact ⟨α, δ, hh, rp, rf, p.mono fun d α' H' h' _ _ q vs hv => i _ _ (q vs hv)⟩
theorem rdL_mono {f : Fr → DH → Out (List D)} {K : PySem.W.Frag} {σ : L2.St} {H : Hp} {Q Q' : VK} (h : rdL K cls W f σ H Q) (i : ∀ v H', Q v H' → Q' v H') : rdL K cls W f σ H Q' := by
  obtain ⟨α, δ, hh, rp, rf, p⟩ := h
  exact ⟨α, δ, hh, rp, rf, p.mono fun d α' H' h' _ _ q p vs h1 h2 h3 h4 => i _ _ (q p vs h1 h2 h3 h4)⟩
theorem rt1 {K : PySem.W.Frag} {β : Type} {va : Fr → DH → Out Bool} {g : Bool → DH → Out β} {σ : L2.St} {α : List Addr} {H : Hp} {δ : Fr} {h : DH} {Z : β → List Addr → Hp → DH → Prop} (rp : RepH K α H h) (rf : RepF K α H σ δ)
    (p : Post K cls W σ α H ((va δ h).bind g) Z) :
    rdT K cls W va σ H fun b H1 => ∃ α1 h1, RepH K α1 H1 h1 ∧ RepF K α1 H1 σ δ ∧ Ext α H α1 H1 ∧ Post K cls W σ α1 H1 (g b h1) Z :=
  ⟨α, δ, h, rp, rf, (Post.of_bind p).mono fun d α1 H1 h1 e1 rp1 p1 => ⟨α1, h1, rp1, rf.ext e1, e1, p1⟩⟩
theorem rs1 {K : PySem.W.Frag} {β : Type} {va : Fr → DH → Out (List D)} {g : List D → DH → Out β} {σ : L2.St} {α : List Addr} {H : Hp} {δ : Fr} {h : DH} {Z : β → List Addr → Hp → DH → Prop} (rp : RepH K α H h) (rf : RepF K α H σ δ)
    (p : Post K cls W σ α H ((va δ h).bind g) Z) :
    rdEs K cls W va σ H fun xs H1 => ∃ α1 h1 ds, RepH K α1 H1 h1 ∧ RepF K α1 H1 σ δ ∧ VRs K α1 H1 ds xs ∧ Ext α H α1 H1 ∧ Post K cls W σ α1 H1 (g ds h1) Z :=
  ⟨α, δ, h, rp, rf, (Post.of_bind p).mono fun d α1 H1 h1 e1 rp1 p1 vs hv => ⟨α1, h1, d, rp1, rf.ext e1, hv, e1, p1⟩⟩
theorem rl1 {K : PySem.W.Frag} {β : Type} {va : Fr → DH → Out (List D)} {g : List D → DH → Out β} {σ : L2.St} {α : List Addr} {H : Hp} {δ : Fr} {h : DH} {Z : β → List Addr → Hp → DH → Prop} (rp : RepH K α H h) (rf : RepF K α H σ δ)
    (p : Post K cls W σ α H ((va δ h).bind g) Z) :
    rdL K cls W va σ H fun v H1 => ∃ α1 h1 ds a vs, v = .ref a ∧ H a = none ∧ a ∉ α1 ∧ H1 a = some (.lst vs) ∧ RepH K α1 H1 h1 ∧ RepF K α1 H1 σ δ ∧ VRs K α1 H1 ds vs ∧ Ext α H α1 H1 ∧ Post K cls W σ α1 H1 (g ds h1) Z :=
  ⟨α, δ, h, rp, rf, (Post.of_bind p).mono fun d α1 H1 h1 e1 rp1 p1 a vs g1 g2 g3 g4 => ⟨α1, h1, d, a, vs, rfl, g1, g2, g3, rp1, rf.ext e1, g4, e1, p1⟩⟩

/-! ### and, or, not, if else -/
theorem snd_andV {a b : Expr} {rest : List Expr} {a' b' : E} {pos : Pos} (ha : PE X a (rdE X.K cls W (ev C a').v)) (hb : PE X (.BoolOp .And (b :: rest) pos) (rdE X.K cls W (ev C b').v)) :
    PE X (.BoolOp .And (a :: b :: rest) pos) (rdE X.K cls W (ev C (.and_ a' b')).v) := by
  refine pe_imp (pe_andT ha hb) fun σ H Q ⟨α, δ, h, rp, rf, p⟩ => ?_
  refine rdE_mono (rd1 rp rf p) fun x H1 ⟨α1, h1, d, rp1, rf1, hx, e1, p1⟩ => ?_
  cases ht : truD h1 d with
  | none => rw [ht] at p1; exact p1.elim
  | some t =>
    rw [ht] at p1
    refine ⟨t, tru_vr rp1 hx ht, ?_⟩
    cases t with
    | true => rw [if_pos rfl]; exact ⟨α1, δ, h1, rp1, rf1, p1⟩
    | false => rw [if_neg Bool.false_ne_true]; exact p1 _ _ Ext.refl rp1 _ hx
theorem snd_orV {a b : Expr} {rest : List Expr} {a' b' : E} {pos : Pos} (ha : PE X a (rdE X.K cls W (ev C a').v)) (hb : PE X (.BoolOp .Or (b :: rest) pos) (rdE X.K cls W (ev C b').v)) :
    PE X (.BoolOp .Or (a :: b :: rest) pos) (rdE X.K cls W (ev C (.or_ a' b')).v) := by
  refine pe_imp (pe_orT ha hb) fun σ H Q ⟨α, δ, h, rp, rf, p⟩ => ?_
  refine rdE_mono (rd1 rp rf p) fun x H1 ⟨α1, h1, d, rp1, rf1, hx, e1, p1⟩ => ?_
  cases ht : truD h1 d with
  | none => rw [ht] at p1; exact p1.elim
  | some t =>
    rw [ht] at p1
    refine ⟨t, tru_vr rp1 hx ht, ?_⟩
    cases t with
    | false => rw [if_neg Bool.false_ne_true]; exact ⟨α1, δ, h1, rp1, rf1, p1⟩
    | true => rw [if_pos rfl]; exact p1 _ _ Ext.refl rp1 _ hx
theorem snd_andT {a b : Expr} {rest : List Expr} {a' b' : E} {pos : Pos} (ha : PT X a (rdT X.K cls W (ev C a').t)) (hb : PW X (.BoolOp .And (b :: rest) pos) (rdT X.K cls W (ev C b').t)) :
    PW X (.BoolOp .And (a :: b :: rest) pos) (rdT X.K cls W (ev C (.and_ a' b')).t) := by
  refine pw_imp (pw_and ha hb) fun σ H Q ⟨α, δ, h, rp, rf, p⟩ => ?_
  refine rdT_mono (rt1 rp rf p) fun x H1 ⟨α1, h1, rp1, rf1, e1, p1⟩ => ?_
  cases x with
  | true => rw [if_pos rfl] at p1 ⊢; exact ⟨α1, δ, h1, rp1, rf1, p1⟩
  | false => rw [if_neg Bool.false_ne_true] at p1 ⊢; exact p1 _ _ Ext.refl rp1
theorem snd_orT {a b : Expr} {rest : List Expr} {a' b' : E} {pos : Pos} (ha : PT X a (rdT X.K cls W (ev C a').t)) (hb : PW X (.BoolOp .Or (b :: rest) pos) (rdT X.K cls W (ev C b').t)) :
    PW X (.BoolOp .Or (a :: b :: rest) pos) (rdT X.K cls W (ev C (.or_ a' b')).t) := by
  refine pw_imp (pw_or ha hb) fun σ H Q ⟨α, δ, h, rp, rf, p⟩ => ?_
  refine rdT_mono (rt1 rp rf p) fun x H1 ⟨α1, h1, rp1, rf1, e1, p1⟩ => ?_
  cases x with
  | false => rw [if_neg Bool.false_ne_true] at p1 ⊢; exact ⟨α1, δ, h1, rp1, rf1, p1⟩
  | true => rw [if_pos rfl] at p1 ⊢; exact p1 _ _ Ext.refl rp1
theorem snd_notV {a : Expr} {a' : E} {pos : Pos} (ha : PE X a (rdE X.K cls W (ev C a').v)) : PE X (.UnaryOp .Not a pos) (rdE X.K cls W (ev C (.not_ a')).v) := by
  refine pe_imp (pe_notT ha) fun σ H Q ⟨α, δ, h, rp, rf, p⟩ => ?_
  refine rdE_mono (rd1 rp rf p) fun x H1 ⟨α1, h1, d, rp1, rf1, hx, e1, p1⟩ => ?_
  obtain ⟨r, hr, q⟩ := Post.opt p1 rp1
  obtain ⟨b, hb, rfl⟩ := Option.map_eq_some_iff.mp hr
  exact ⟨b, tru_vr rp1 hx hb, q _ rfl⟩
theorem snd_notT {a : Expr} {a' : E} {pos : Pos} (ha : PT X a (rdT X.K cls W (ev C a').t)) : PT X (.UnaryOp .Not a pos) (rdT X.K cls W (ev C (.not_ a')).t) := by
  refine pt_imp (pt_not ha) fun σ H Q ⟨α, δ, h, rp, rf, p⟩ => ?_
  exact rdT_mono (rt1 rp rf p) fun x H1 ⟨α1, h1, rp1, rf1, e1, p1⟩ => p1 _ _ Ext.refl rp1
theorem snd_iteV {t a b : Expr} {t' a' b' : E} {pos : Pos} (ht : PT X t (rdT X.K cls W (ev C t').t)) (ha : PE X a (rdE X.K cls W (ev C a').v)) (hb : PE X b (rdE X.K cls W (ev C b').v)) :
    PE X (.IfExp t a b pos) (rdE X.K cls W (ev C (.ite t' a' b')).v) := by
  refine pe_imp (pe_ifExp ht ha hb) fun σ H Q ⟨α, δ, h, rp, rf, p⟩ => ?_
  refine rdT_mono (rt1 rp rf p) fun x H1 ⟨α1, h1, rp1, rf1, e1, p1⟩ => ?_
  cases x with
  | true => rw [if_pos rfl] at p1 ⊢; exact ⟨α1, δ, h1, rp1, rf1, p1⟩
  | false => rw [if_neg Bool.false_ne_true] at p1 ⊢; exact ⟨α1, δ, h1, rp1, rf1, p1⟩
theorem pt_ifExp {t a b : Expr} {tt ta tb : TT} {pos : Pos} (ht : PT X t tt) (ha : PT X a ta) (hb : PT X b tb) : PT X (.IfExp t a b pos) (fun σ H Q => tt σ H fun c H1 => if c = true then ta σ H1 Q else tb σ H1 Q) := by
  refine ⟨fun pins s σ H Q I h => ?_⟩
  refine isTrue_IfExp (thn (ht.run pins s σ H _ I h) fun d s1 ⟨H1, I1, q1⟩ => ?_)
  cases d with
  | true => exact ha.run pins s1 σ H1 Q I1 q1
  | false => exact hb.run pins s1 σ H1 Q I1 q1
theorem snd_iteT {t a b : Expr} {t' a' b' : E} {pos : Pos} (ht : PT X t (rdT X.K cls W (ev C t').t)) (ha : PT X a (rdT X.K cls W (ev C a').t)) (hb : PT X b (rdT X.K cls W (ev C b').t)) :
    PT X (.IfExp t a b pos) (rdT X.K cls W (ev C (.ite t' a' b')).t) := by
  refine pt_imp (pt_ifExp ht ha hb) fun σ H Q ⟨α, δ, h, rp, rf, p⟩ => ?_
  refine rdT_mono (rt1 rp rf p) fun x H1 ⟨α1, h1, rp1, rf1, e1, p1⟩ => ?_
  cases x with
  | true => rw [if_pos rfl] at p1 ⊢; exact ⟨α1, δ, h1, rp1, rf1, p1⟩
  | false => rw [if_neg Bool.false_ne_true] at p1 ⊢; exact ⟨α1, δ, h1, rp1, rf1, p1⟩

/-! ### tuples, lists, subscripts, slices -/
theorem snd_tup {es : List Expr} {es' : Es} {x1 : Nat} {pos : Pos} (h : PA X es (rdEs X.K cls W (evs C es'))) : PE X (.Tuple es x1 pos) (rdE X.K cls W (ev C (.tup es')).v) := by
  refine pe_imp (pe_tup h) fun σ H Q ⟨α, δ, h, rp, rf, p⟩ => ?_
  refine rdEs_mono (rs1 rp rf p) fun xs H1 ⟨α1, h1, ds, rp1, rf1, hx, e1, p1⟩ => ?_
  by_cases hz : ds.length ≤ SL
  · rw [if_pos hz] at p1
    refine ⟨by rw [hx.length, SL_eq]; exact hz, fun q hq => ?_⟩
    have e2 := Ext.laid (α := α1) (o := .tup xs) hq
    exact p1 _ _ e2 (rp1.laid hq) _ ⟨q, xs, rfl, SqT.of upd_same, hx.ext e2⟩
  · rw [if_neg hz] at p1; exact p1.elim
theorem snd_disp {es : List Expr} {es' : Es} {pos : Pos} (h : PA X es (rdEs X.K cls W (evs C es'))) : PE X (.List es pos) (rdL X.K cls W (evL C (.disp es'))) := by
  refine pe_imp (pe_lst h) fun σ H Q ⟨α, δ, h, rp, rf, p⟩ => ?_
  refine rdEs_mono (rs1 rp rf p) fun xs H1 ⟨α1, h1, ds, rp1, rf1, hx, e1, p1⟩ => ?_
  by_cases hz : ds.length ≤ SL
  · rw [if_pos hz] at p1
    refine ⟨by rw [hx.length, SL_eq]; exact hz, fun q hq => ?_⟩
    have e2 := Ext.laid (α := α1) (o := .lst xs) hq
    have hn := rp1.free hq
    have hH : H q = none := by
      cases z : H q with
      | none => rfl
      | some u =>
        by_cases hm : q ∈ α
        · exact absurd (e1.pre.subset hm) hn
        · rw [e1.keep q u z hm] at hq; cases hq
    exact p1 _ _ e2 (rp1.laid hq) q xs hH hn upd_same (hx.ext e2)
  · rw [if_neg hz] at p1; exact p1.elim
theorem snd_ofL {e : Expr} {l : L} (h : PE X e (rdL X.K cls W (evL C l))) : PE X e (rdE X.K cls W (ev C (.ofL l)).v) := by
  refine pe_imp h fun σ H Q ⟨α, δ, h, rp, rf, p⟩ => ⟨α, δ, h, rp, rf, ?_⟩
  have p' : Post X.K cls W σ α H ((evL C l δ h).bind fun xs h => .ok (.ref h.length) (h ++ [.lst xs])) fun d α' H' _ => ∀ v, VR X.K α' H' d v → Q v H' := p
  cases hl : evL C l δ h with
  | bad => rw [hl] at p'; exact p'.elim
  | exc n fs h' => rw [hl] at p'; exact p'
  | ok ds h1 =>
    rw [hl] at p'
    intro α1 H1 e1 rp1 a vs g1 g2 g3 g4
    exact p' (α1 ++ [a]) H1 (e1.take g1 g2) (rp1.add g2 ⟨vs, g3, g4⟩) _ ⟨a, by rw [← rp1.len]; simp, rfl⟩
theorem snd_ix {a b : Expr} {a' b' : E} {pos : Pos} (hs : noSlice b = true) (ha : PE X a (rdE X.K cls W (ev C a').v)) (hb : PE X b (rdE X.K cls W (ev C b').v)) : PE X (.Subscript a b pos) (rdE X.K cls W (ev C (.ix a' b')).v) := by
  refine pe_imp (pe_ix ix_ok ha hb (ix_plain hs)) fun σ H Q ⟨α, δ, h, rp, rf, p⟩ => ?_
  refine rdE_mono (rd2 rp rf p) fun x H1 q => rdE_mono q fun y H2 ⟨α2, h2, d, e, rp2, rf2, hd, he, e2, p2⟩ => ?_
  obtain ⟨r, hr, q⟩ := Post.opt p2 rp2
  exact ⟨α2, h2, d, e, r, rp2, hd, he, hr, q⟩
theorem snd_ixL {a b : Expr} {l : L} {b' : E} {pos : Pos} (hs : noSlice b = true) (ha : PE X a (rdL X.K cls W (evL C l))) (hb : PE X b (rdE X.K cls W (ev C b').v)) : PE X (.Subscript a b pos) (rdE X.K cls W (ev C (.ixL l b')).v) := by
  refine pe_imp (pe_ix ix_list ha hb (ix_plain hs)) fun σ H Q ⟨α, δ, h, rp, rf, p⟩ => ?_
  refine rdL_mono (rl1 rp rf p) fun v H1 ⟨α1, h1, ds, a, vs, ev', g1, g2, g3, rp1, rf1, hv, e1, p1⟩ => ?_
  subst ev'
  refine rdE_mono (rd1 rp1 rf1 p1) fun y H2 ⟨α2, h2, d, rp2, rf2, hy, e2, p2⟩ => ?_
  cases d <;> try exact p2.elim
  rename_i i
  obtain ⟨r, hr, q⟩ := Post.opt p2 rp2
  obtain ⟨v, z1, z2⟩ := atI_vrs (hv.ext e2) hr
  rw [vr_int hy]
  exact ⟨a, vs, i, v, rfl, rfl, SqL.of (e2.keep _ _ g3 g2), z1, q v z2⟩
theorem rdO_mono {f : Fr → DH → Out (Option Int)} {K : PySem.W.Frag} {σ : L2.St} {H : Hp} {Q Q' : Option Int → Hp → Prop} (h : rdO K cls W f σ H Q) (i : ∀ v H', Q v H' → Q' v H') : rdO K cls W f σ H Q' := by
  obtain ⟨α, δ, hh, rp, rf, p⟩ := h
  exact ⟨α, δ, hh, rp, rf, p.mono fun d α' H' h' _ _ q => i _ _ q⟩
theorem ro1 {K : PySem.W.Frag} {β : Type} {va : Fr → DH → Out (Option Int)} {g : Option Int → DH → Out β} {σ : L2.St} {α : List Addr} {H : Hp} {δ : Fr} {h : DH} {Z : β → List Addr → Hp → DH → Prop} (rp : RepH K α H h) (rf : RepF K α H σ δ)
    (p : Post K cls W σ α H ((va δ h).bind g) Z) :
    rdO K cls W va σ H fun b H1 => ∃ α1 h1, RepH K α1 H1 h1 ∧ RepF K α1 H1 σ δ ∧ Ext α H α1 H1 ∧ Post K cls W σ α1 H1 (g b h1) Z :=
  ⟨α, δ, h, rp, rf, (Post.of_bind p).mono fun d α1 H1 h1 e1 rp1 p1 => ⟨α1, h1, rp1, rf.ext e1, e1, p1⟩⟩
theorem po_imp {o : Option Expr} {t t' : TO} (h : PO X o t) (i : ∀ σ H Q, t' σ H Q → t σ H Q) : PO X o t' := ⟨fun pins s σ H Q I q => h.run pins s σ H Q I (i _ _ _ q)⟩
theorem snd_oN : PO X none (rdO X.K cls W (evO C .none)) := po_imp po_none fun σ H Q ⟨α, δ, h, rp, rf, p⟩ => p _ _ Ext.refl rp
theorem snd_oS {e : Expr} {e' : E} (h : PE X e (rdE X.K cls W (ev C e').v)) : PO X (some e) (rdO X.K cls W (evO C (.some e'))) := by
  refine po_imp (po_some h) fun σ H Q ⟨α, δ, h, rp, rf, p⟩ => ?_
  refine rdE_mono (rd1 rp rf p) fun x H1 ⟨α1, h1, d, rp1, rf1, hx, e1, p1⟩ => ?_
  cases d <;> try exact p1.elim
  rename_i i
  exact ⟨i, vr_int hx, p1 _ _ Ext.refl rp1⟩
theorem snd_sli {a : Expr} {lo hi : Option Expr} {a' : E} {lo' hi' : Oe} {p2 pos : Pos} (ha : PE X a (rdE X.K cls W (ev C a').v)) (hl : PO X lo (rdO X.K cls W (evO C lo'))) (hh : PO X hi (rdO X.K cls W (evO C hi'))) :
    PE X (.Subscript a (.Slice lo hi none p2) pos) (rdE X.K cls W (ev C (.sli a' lo' hi')).v) := by
  refine pe_imp (pe_slice sli_ok ha hl hh) fun σ H Q ⟨α, δ, h, rp, rf, p⟩ => ?_
  refine rdE_mono (rd1 rp rf p) fun x H1 ⟨α1, h1, d, rp1, rf1, hx, e1, p1⟩ => ?_
  refine rdO_mono (ro1 rp1 rf1 p1) fun l H2 ⟨α2, h2, rp2, rf2, e2, p2⟩ => ?_
  refine rdO_mono (ro1 rp2 rf2 p2) fun u H3 ⟨α3, h3, rp3, rf3, e3, p3⟩ => ?_
  obtain ⟨r, h', hr, q⟩ := Post.ok_of p3 fun _ _ _ => no_sliD
  exact ⟨α3, h3, d, r, h', rp3, (hx.ext e2).ext e3, hr, q⟩

/-! ### calls -/
theorem snd_call (ok : Ok X c C cls W k) {x : Str} {p pos : Pos} {f : Nat} {es : List Expr} {es' : Es} (hn : nameOk x = true) (hg : glB c.sc x = true) (hf : c.fns.lookup x = some f)
    (h : PA X es (rdEs X.K cls W (evs C es'))) (hst : ∀ e ∈ es, noStar e = true) (h0 : es = [] → es' = .nil) : PE X (.Call (.Name x p) es [] pos) (rdE X.K cls W (ev C (.call f es')).v) := by
  obtain ⟨n1, n2, n3⟩ := name_ok hn
  obtain ⟨a, fd, ps, hm, hk, hb, F⟩ := ok.fa.fn x f hf
  have hg' : Gl X x := gl_of (by rw [ok.sc]; exact hg)
  have sp_of : ∀ {σ : L2.St} {Q : VK} {α1 : List Addr} {H1 : Hp} {h1 : DH} {ds : List D} {xs : List V}, RepH X.K α1 H1 h1 → VRs X.K α1 H1 ds xs → Post X.K cls W σ α1 H1 (C.fn f ds h1) (fun d α' H' _ => ∀ v, VR X.K α' H' d v → Q v H') → spD X.K cls (C.fn f) (xs ++ []) H1 Q (WE W σ) := fun {σ Q α1 H1 h1 ds xs} rp1 hx p1 => by
    rw [List.append_nil]
    refine ⟨α1, ds, h1, rp1, hx, ?_⟩
    cases hc : C.fn f ds h1 with
    | bad => rw [hc] at p1; exact p1.elim
    | ok d h' => rw [hc] at p1; exact p1
    | exc n fs h' => rw [hc] at p1; exact p1
  cases es with
  | nil =>
    rw [h0 rfl]
    refine ⟨fun pins s σ H Q I ⟨α, δ, h, rp, rf, p⟩ => ?_⟩
    refine wpAny_Call_Name_kw (ld_glob I hg' hm ?_ n1)
    refine PySem.W.callWith_K0 I.kIn hk (run_fnSD (us := []) (vs := []) (E := WE W) F ok.room hb .nil (passAt ok.tk σ) I .nil (sp_of rp (ds := []) (by exact rfl) p))
  | cons e rest =>
    exact pe_imp (pe_callSD F ok.room hg' hm hk hb .nil (fun σ => passAt ok.tk σ) h n1 (star_cons (hst e List.mem_cons_self)) (star_plain fun y hy => hst y (List.mem_cons_of_mem _ hy))) fun σ H Q ⟨α, δ, h, rp, rf, p⟩ =>
      rdEs_mono (rs1 rp rf p) fun xs H1 ⟨α1, h1, ds, rp1, rf1, hx, e1, p1⟩ => sp_of rp1 hx p1
/-- an argument list of one -/
theorem pa_one {a : Expr} {te : TE} (hs : noStar a = true) (ha : PE X a te) : PA X [a] (tCons te tNil) := pa_cons ha pa_nil (star_cons hs)
theorem star_one {a : Expr} {env : Env} (hs : noStar a = true) : starEach [a] env = (false, eval a env) :: starEach [] env := star_cons hs
theorem star_nil {env : Env} {pos : Pos} : (backTo pos (starEach [] env)).any (·.1) = false := rfl
/-- a built-in function or type of one value -/
theorem snd_bi (ok : Ok X c C cls W k) {x : Str} {p pos : Pos} {a : Expr} {a' : E} {b : Bi} (hn : nameOk x = true) (hg : glB c.sc x = true) (hf : c.free.contains x = true) (hb : cBi.lookup x = some b) (hs : noStar a = true) (ha : PE X a (rdE X.K cls W (ev C a').v)) :
    PE X (.Call (.Name x p) [a] [] pos) (rdE X.K cls W (ev C (.bi b a')).v) := by
  obtain ⟨n1, n2, n3⟩ := name_ok hn
  have hg' : Gl X x := gl_of (by rw [ok.sc]; exact hg)
  have hm := ok.fa.fr x hf
  have conv : ∀ σ H Q, rdE X.K cls W (ev C (.bi b a')).v σ H Q → tCB (rBi X.K b) (tCons (rdE X.K cls W (ev C a').v) tNil) σ H Q := fun σ H Q ⟨α, δ, h, rp, rf, p⟩ =>
    rdE_mono (rd1 rp rf p) fun x H1 ⟨α1, h1, d, rp1, rf1, hx, e1, p1⟩ => by
      cases hr : biD h1 b d with
      | none => rw [hr] at p1; exact p1.elim
      | some r => rw [hr] at p1; exact ⟨α1, h1, d, x, r, rfl, rp1, hx, hr, fun α' H' e' r' v hv => p1 α' H' e' r' v hv⟩
  unfold cBi at hb
  simp only [List.lookup] at hb
  split at hb
  · rename_i e; cases hb; cases beq_iff_eq.mp e
    exact pe_imp (pe_callB len_ok hg' hm boot_len (pa_one hs ha) n3 n1 (star_one hs) star_nil) conv
  · split at hb
    · rename_i e; cases hb; cases beq_iff_eq.mp e
      exact pe_imp (pe_callTy int_ok hg' hm (by decide +kernel) (pa_one hs ha) n3 n1 (star_one hs) star_nil) conv
    · split at hb
      · rename_i e; cases hb; cases beq_iff_eq.mp e
        exact pe_imp (pe_callTy str_ok hg' hm (by decide +kernel) (pa_one hs ha) n3 n1 (star_one hs) star_nil) conv
      · split at hb
        · rename_i e; cases hb; cases beq_iff_eq.mp e
          exact pe_imp (pe_callTy tup_ok hg' hm (by decide +kernel) (pa_one hs ha) n3 n1 (star_one hs) star_nil) conv
        · cases hb
/-- .. of a fresh list -/
theorem snd_bl (ok : Ok X c C cls W k) {x : Str} {p pos : Pos} {a : Expr} {l : L} {b : Bl} (hn : nameOk x = true) (hg : glB c.sc x = true) (hf : c.free.contains x = true) (hb : cBl.lookup x = some b) (hs : noStar a = true) (ha : PE X a (rdL X.K cls W (evL C l))) :
    PE X (.Call (.Name x p) [a] [] pos) (rdE X.K cls W (ev C (.biL b l)).v) := by
  obtain ⟨n1, n2, n3⟩ := name_ok hn
  have hg' : Gl X x := gl_of (by rw [ok.sc]; exact hg)
  have hm := ok.fa.fr x hf
  have conv : ∀ σ H Q, rdE X.K cls W (ev C (.biL b l)).v σ H Q → tCB (rBl X.K b) (tCons (rdL X.K cls W (evL C l)) tNil) σ H Q := fun σ H Q ⟨α, δ, h, rp, rf, p⟩ => by
    show rdL X.K cls W (evL C l) σ H fun x H1 => rBl X.K b [x] H1 Q
    refine rdL_mono (rl1 rp rf p) fun v H1 ⟨α1, h1, ds, a, vs, ev', g1, g2, g3, rp1, rf1, hv, e1, p1⟩ => ?_
    · subst ev'
      cases hr : blD b ds with
      | none => rw [hr] at p1; exact p1.elim
      | some r => rw [hr] at p1; exact ⟨α1, h1, ds, a, vs, r, rfl, rp1, g3, g2, hv, hr, fun α' H' e' r' v hv => p1 α' H' e' r' v hv⟩
  unfold cBl at hb
  simp only [List.lookup] at hb
  split at hb
  · rename_i e; cases hb; cases beq_iff_eq.mp e
    exact pe_imp (pe_callTy btup_ok hg' hm (by decide +kernel) (pa_one hs ha) n3 n1 (star_one hs) star_nil) conv
  · split at hb
    · rename_i e; cases hb; cases beq_iff_eq.mp e
      exact pe_imp (pe_callB blen_ok hg' hm boot_len (pa_one hs ha) n3 n1 (star_one hs) star_nil) conv
    · split at hb
      · rename_i e; cases hb; cases beq_iff_eq.mp e
        exact pe_imp (pe_callB (ball_ok ok.calm) hg' hm (by decide +kernel) (pa_one hs ha) n3 n1 (star_one hs) star_nil) conv
      · split at hb
        · rename_i e; cases hb; cases beq_iff_eq.mp e
          exact pe_imp (pe_callB (bany_ok ok.calm) hg' hm (by decide +kernel) (pa_one hs ha) n3 n1 (star_one hs) star_nil) conv
        · cases hb
/-- isinstance(a, T) -/
theorem snd_isi (ok : Ok X c C cls W k) {p pos pt : Pos} {a : Expr} {a' : E} {t : Str} {ty : Ty} (hg : glB c.sc "isinstance" = true) (hf : c.free.contains "isinstance" = true) (ht : glFree c t = true) (hy : tyS.lookup t = some ty) (hs : noStar a = true) (ha : PE X a (rdE X.K cls W (ev C a').v)) :
    PE X (.Call (.Name "isinstance" p) [a, .Name t pt] [] pos) (rdE X.K cls W (ev C (.isi a' ty)).v) := by
  have hg' : Gl X "isinstance" := gl_of (by rw [ok.sc]; exact hg)
  have hm := ok.fa.fr _ hf
  unfold glFree at ht
  simp only [Bool.and_eq_true] at ht
  obtain ⟨⟨t1, t2⟩, t3⟩ := ht
  obtain ⟨n1, n2, n3⟩ := name_ok t1
  have pt : PE X (.Name t pt) (tC (.ty (tyN ty))) := by
    refine pe_bltn (gl_of (by rw [ok.sc]; exact t2)) (ok.fa.fr _ t3) (u := .type (tyN ty)) ?_ rfl n3 n1
    unfold tyS at hy
    simp only [List.lookup] at hy
    split at hy
    · rename_i e; cases hy; cases beq_iff_eq.mp e; decide +kernel
    · split at hy
      · rename_i e; cases hy; cases beq_iff_eq.mp e; decide +kernel
      · split at hy
        · rename_i e; cases hy; cases beq_iff_eq.mp e; decide +kernel
        · split at hy
          · rename_i e; cases hy; cases beq_iff_eq.mp e; decide +kernel
          · split at hy
            · rename_i e; cases hy; cases beq_iff_eq.mp e; decide +kernel
            · cases hy
  refine pe_imp (pe_callB call_isi hg' hm (by decide +kernel) (pa_cons ha (pa_cons pt pa_nil rfl) (star_cons hs)) (by decide) (by decide) (star_cons hs) rfl) fun σ H Q ⟨α, δ, h, rp, rf, p⟩ => ?_
  refine rdE_mono (rd1 rp rf p) fun x H1 ⟨α1, h1, d, rp1, rf1, hx, e1, p1⟩ => ?_
  obtain ⟨r, hr, q⟩ := Post.opt p1 rp1
  obtain ⟨b, hb, rfl⟩ := Option.map_eq_some_iff.mp hr
  obtain ⟨T, z1, z2⟩ := isi_vr rp1 hx hb
  exact ⟨x, _, _, _, b, rfl, .ty _, z1, z2, q _ rfl⟩
end
end FD

set_option Elab.async false
set_option linter.all false
set_option maxRecDepth 100000
set_option maxHeartbeats 1000000
/-! The D layer, 11: soundness of methods, lists, loops' heads, targets. -/
namespace FD
open PySem PySem.Spec PyProof.Rows L2
section
variable {X : Cx} {c : CC} {C : Cn} {cls : Nat → Option Addr} {W : WX} {k : Nat} {r : Rec}
/-! ### methods -/
theorem few_of {env : Env} {pos : Pos} : ∀ {es : List Expr}, (∀ e ∈ es, noStar e = true) → (backTo pos (starEach es env)).all (fun x => !x.1) = true
  | [], _ => rfl
  | e :: es, h => by
    rw [star_cons (h e List.mem_cons_self)]
    show (true && (backTo pos (starEach es env)).all (fun x => !x.1)) = true
    rw [few_of fun x hx => h x (List.mem_cons_of_mem _ hx)]
    rfl
theorem few_ok {env : Env} {pos : Pos} {es : List Expr} (h : ∀ e ∈ es, noStar e = true) (hl : es.length < 30) : ((backTo pos (starEach es env)).all (fun x => !x.1) && (backToKw pos (keywordEach [] env)).all (fun x => x.1.isSome)
      && decide (es.length + ([] : List Keyword).length + (if ([] : List Keyword).isEmpty then 0 else 1) < 30)) = true := by
  rw [few_of h]
  show (true && true && decide (es.length + 0 + 0 < 30)) = true
  simp [hl]
theorem ty_str {K : PySem.W.Frag} {α : List Addr} {H : Hp} {s : List Nat} {v : V} (h : VR K α H (.str s) v) : tyV K "str" v H := by rw [vr_str h]; rfl
theorem mt_conv {T : String} {m : Mt} {o' : E} {es' : Es} (ty : ∀ {α : List Addr} {H : Hp} {h : DH} {d : D} {v : V}, RepH X.K α H h → VR X.K α H d v → mtK h m d = true → tyV X.K T v H) (σ : L2.St) (H : Hp) (Q : VK)
    (q : rdE X.K cls W (ev C (.mt m o' es')).v σ H Q) : tBM X.K T (rMt X.K m) (rdE X.K cls W (ev C o').v) (rdEs X.K cls W (evs C es')) σ H Q := by
  obtain ⟨α, δ, h, rp, rf, p⟩ := q
  refine rdE_mono (rd1 rp rf p) fun x H1 ⟨α1, h1, d, rp1, rf1, hx, e1, p1⟩ => ?_
  by_cases hk : mtK h1 m d = true
  · rw [if_pos hk] at p1
    refine ⟨ty rp1 hx hk, rdEs_mono (rs1 rp1 rf1 p1) fun xs H2 ⟨α2, h2, ds, rp2, rf2, hxs, e2, p2⟩ => ?_⟩
    obtain ⟨r, h', hr, q⟩ := Post.ok_of p2 fun _ _ _ => no_mtD
    exact ⟨α2, h2, d, ds, r, h', rp2, hx.ext e2, hxs, hr, q⟩
  · rw [if_neg hk] at p1; exact p1.elim
theorem ty_list {α : List Addr} {H : Hp} {h : DH} {d : D} {v : V} (rp : RepH X.K α H h) (hv : VR X.K α H d v) (hk : mtK h .append d = true) : tyV X.K "list" v H := by
  cases d <;> simp only [mtK] at hk <;> try contradiction
  rename_i n
  obtain ⟨xs, hl⟩ := Option.isSome_iff_exists.mp hk
  obtain ⟨a, vs, _, rfl, h1, _⟩ := rp.ref hv (lget_some hl)
  exact .inl ⟨rfl, _, SqL.of h1⟩
theorem snd_append {o a : Expr} {o' : E} {es' : Es} {apos pos : Pos} (hb : plainB o = true) (hl : (apos.endLine == pos.line) = true) (hs : ∀ e ∈ [a], noStar e = true) (ho : PE X o (rdE X.K cls W (ev C o').v)) (ha : PA X [a] (rdEs X.K cls W (evs C es'))) :
    PE X (.Call (.Attribute o "append" apos) [a] [] pos) (rdE X.K cls W (ev C (.mt .append o' es')).v) :=
  pe_imp (pe_bm PySem.F.plainAttrs_list PySem.F.slot_list_append PySem.F.type_list_append append_ok ho ha (base_plain hb) (few_ok hs (by simp)) hl (star_cons (hs a List.mem_cons_self)) rfl) (mt_conv fun rp hv hk => ty_list rp hv hk)
theorem snd_find {o a b : Expr} {rest : List Expr} {o' : E} {es' : Es} {m : Mt} {apos pos : Pos} (hm : MtR X "str.find" (rMt X.K m)) (hkm : ∀ {h : DH} {d : D}, mtK h m d = true → ∃ s, d = .str s) (hb : plainB o = true) (hl : (apos.endLine == pos.line) = true)
    (hs : ∀ e ∈ a :: b :: rest, noStar e = true) (hlen : (a :: b :: rest).length < 30) (ho : PE X o (rdE X.K cls W (ev C o').v)) (ha : PA X (a :: b :: rest) (rdEs X.K cls W (evs C es'))) :
    PE X (.Call (.Attribute o "find" apos) (a :: b :: rest) [] pos) (rdE X.K cls W (ev C (.mt m o' es')).v) :=
  pe_imp (pe_bm PySem.F.plainAttrs_str PySem.F.slot_str_find PySem.F.type_str_find hm ho ha (base_plain hb) (few_ok hs hlen) hl (star_cons (hs a List.mem_cons_self)) (star_plain fun e he => hs e (List.mem_cons_of_mem _ he)))
    (mt_conv fun rp hv hk => by obtain ⟨s, rfl⟩ := hkm hk; exact ty_str hv)
theorem snd_join {o a : Expr} {o' : E} {l : L} {apos pos : Pos} (hb : plainB o = true) (hl : (apos.endLine == pos.line) = true) (hs : noStar a = true) (ho : PE X o (rdE X.K cls W (ev C o').v)) (ha : PE X a (rdL X.K cls W (evL C l))) :
    PE X (.Call (.Attribute o "join" apos) [a] [] pos) (rdE X.K cls W (ev C (.mtL .join o' l)).v) := by
  refine pe_imp (pe_bm PySem.F.plainAttrs_str PySem.F.slot_str_join PySem.F.type_str_join join_ok ho (pa_one hs ha) (base_plain hb) (few_ok (fun e he => by rw [List.mem_singleton.mp he]; exact hs) (by simp)) hl (star_cons hs) rfl) fun σ H Q ⟨α, δ, h, rp, rf, p⟩ => ?_
  refine rdE_mono (rd1 rp rf p) fun x H1 ⟨α1, h1, d, rp1, rf1, hx, e1, p1⟩ => ?_
  cases d <;> try exact p1.elim
  refine ⟨ty_str hx, ?_⟩
  show rdL X.K cls W (evL C l) σ H1 fun y H2 => rMl X.K .join x [y] H2 Q
  refine rdL_mono (rl1 rp1 rf1 p1) fun v H2 ⟨α2, h2, ds, a, vs, ev', g1, g2, g3, rp2, rf2, hv, e2, p2⟩ => ?_
  subst ev'
  obtain ⟨r, hr, q⟩ := Post.opt p2 rp2
  exact ⟨α2, h2, _, ds, a, vs, r, rfl, rp2, hx.ext e2, g3, hv, hr, q⟩

theorem snd_joinR {o a : Expr} {o' : E} {es' : Es} {apos pos : Pos} (hb : plainB o = true) (hl : (apos.endLine == pos.line) = true) (hs : ∀ e ∈ [a], noStar e = true) (ho : PE X o (rdE X.K cls W (ev C o').v)) (ha : PA X [a] (rdEs X.K cls W (evs C es'))) :
    PE X (.Call (.Attribute o "join" apos) [a] [] pos) (rdE X.K cls W (ev C (.mt .join o' es')).v) :=
  pe_imp (pe_bm PySem.F.plainAttrs_str PySem.F.slot_str_join PySem.F.type_str_join joinR_ok ho ha (base_plain hb) (few_ok hs (by simp)) hl (star_cons (hs a List.mem_cons_self)) rfl)
    (mt_conv fun rp hv hk => by rename_i d _; cases d <;> simp only [mtK] at hk <;> first | exact ty_str hv | contradiction)

/-! ### '..' + o.replace(..).replace(..) -/
theorem replD_app : ∀ {ps : List (Nat × List Nat)} {c : Nat} {z s t : List Nat}, replD (ps ++ [(c, z)]) s = some t → ∃ u, replD ps s = some u ∧ u.length + (u.length + 1) * z.length ≤ SL ∧ t = rep1 c z u
  | [], c, z, s, t, h => by
    simp only [List.nil_append, replD] at h
    split at h
    · rename_i hz
      cases h
      exact ⟨s, rfl, hz, rfl⟩
    · cases h
  | (c', z') :: ps, c, z, s, t, h => by
    simp only [List.cons_append, replD] at h ⊢
    split at h
    · rename_i hz
      rw [if_pos hz]
      exact replD_app h
    · cases h
theorem strip_ok {o' : E} : ∀ {n : Nat} {e o : Expr} {ps : List (Nat × List Nat)}, strip n e = some (o, ps) → PE X o (rdE X.K cls W (ev C o').v) →
    ∃ t, PET X e t ∧ ∀ (σ : L2.St) (H : Hp) (Q : VK), (rdE X.K cls W (ev C o').v σ H fun v H1 => ∃ s u, v = .str (toS s) ∧ replD ps s = some u ∧ Q (.str (toS u)) H1) → t σ H Q := by
  intro n
  induction n with
  | zero => intro e o ps h; cases h
  | succ n ih =>
    intro e o ps h ho
    unfold strip at h
    split at h
    · rename_i k o1 m apos y _ _ z _ _ pos hk
      cases hk
      split at h
      · rename_i hc
        simp only [Bool.and_eq_true, Bool.not_eq_true', beq_iff_eq] at hc
        obtain ⟨⟨⟨rfl, h1⟩, h2⟩, h3⟩ := hc
        have h2' : (apos.endLine == pos.line) = true := by simpa using h2
        split at h
        · rename_i cc hy
          have ey : y = toS [cc] := by rw [← toS_cps y, hy]
          have ez : z = toS z.cps.toList := (toS_cps z).symm
          split at h
          · rename_i b ps' hs
            cases h
            obtain ⟨t, ht, hq⟩ := ih hs ho
            refine ⟨_, CwR.pet_replT ht h3 rfl (base_plain h1) h2', fun σ H Q q => hq σ H _ (rdE_mono q fun v H1 ⟨s, u, e1, e2, q⟩ => ?_)⟩
            obtain ⟨w', w1, w2, rfl⟩ := replD_app e2
            refine ⟨s, w', e1, w1, _, rfl, ?_, ?_⟩
            · rw [ez, toS_length, toS_length]; exact w2
            · rw [ey, ez, repl_eq]; exact q
          · cases h
            refine ⟨_, CwR.pet_replC ho h3 rfl (base_plain h1) h2', fun σ H Q q => rdE_mono q fun v H1 ⟨s, u, e1, e2, q⟩ => ?_⟩
            obtain ⟨w', w1, w2, rfl⟩ := replD_app (ps := []) e2
            cases w1
            refine ⟨_, e1, ?_, ?_⟩
            · rw [ez, toS_length, toS_length]; exact w2
            · rw [ey, ez, repl_eq]; exact q
        · cases h
      · cases h
    · cases h
theorem snd_repl {q : Str} {j n : Nat} {b o : Expr} {o' : E} {ps : List (Nat × List Nat)} {cpos pos : Pos} (h : strip n b = some (o, ps)) (ho : PE X o (rdE X.K cls W (ev C o').v)) :
    PE X (.BinOp (.Constant (.str q) j cpos) .Add b pos) (rdE X.K cls W (ev C (.repl q.cps.toList o' ps)).v) := by
  obtain ⟨t, ht, hq⟩ := strip_ok h ho
  refine ⟨fun pins s σ H Q I ⟨α, δ, hh, rp, rf, p⟩ => ?_⟩
  refine wpAny_BinOp (Calls.Constant_str ?_)
  have q1 : t σ H fun v H1 => ∃ u, v = .str (toS u) ∧ q.length + u.length ≤ sizeLine ∧ Q (.str (q ++ toS u)) H1 := by
    refine hq σ H _ (rdE_mono (rd1 rp rf p) fun x H1 ⟨α1, h1, d, rp1, rf1, hx, e1, p1⟩ => ?_)
    cases d <;> try exact p1.elim
    rename_i s1
    refine ⟨s1, ?_⟩
    dsimp only at p1
    split at p1
    · rename_i u hu
      refine ⟨u, vr_str hx, hu, u, rfl, ?_⟩
      have p2 : Post X.K cls W σ α1 H1 (if q.cps.toList.length + u.length ≤ SL then .ok (.str (q.cps.toList ++ u)) h1 else .bad) fun d α' H' _ => ∀ v, VR X.K α' H' d v → Q v H' := p1
      have eq : q.length = q.cps.toList.length := by simp [Str.length]
      by_cases hz : q.cps.toList.length + u.length ≤ SL
      · rw [if_pos hz] at p2
        refine ⟨by rw [eq, SL_eq]; exact hz, p2 _ _ Ext.refl rp1 _ ?_⟩
        show V.str _ = V.str _
        rw [← app_toS, toS_cps]
      · rw [if_neg hz] at p2; exact p2.elim
    · exact p1.elim
  refine thn (ht pins { s with toks := s.toks + 1 } σ H _ (by show 1 ≤ s.toks + 1; omega) (I.tok _) q1) fun u s2 ⟨y, H2, I2, r2, w', ey, hz, q2⟩ => ?_
  subst ey
  exact op_add_str pins s2 σ H2 (.str q) (.str (toS w')) _ u Q I2 ⟨_, rfl⟩ r2 ⟨q, toS w', rfl, rfl, by rw [toS_length]; exact hz, q2⟩
end
end FD

set_option Elab.async false
set_option linter.all false
set_option maxRecDepth 100000
set_option maxHeartbeats 1000000
/-! The D layer, 12: soundness of what is walked, targets, comprehensions; the step. -/
namespace FD
open PySem PySem.Spec PyProof.Rows L2
section
variable {X : Cx} {c : CC} {C : Cn} {cls : Nat → Option Addr} {W : WX} {k : Nat} {r : Rec}
/-! ### what is walked -/
theorem lim_eq {j : Int} (h : -lim ≤ j ∧ j < lim) : -(2 ^ 62) ≤ j ∧ j < 2 ^ 62 := by
  have e : (2 : Int) ^ 62 = lim := by decide
  rw [e]; exact h
theorem snd_itE {tg e : Expr} {e' : E} (h : PE X e (rdE X.K cls W (ev C e').v)) : PI X tg e (rdI X.K cls W (evI C (.e e'))) := by
  refine pi_imp (pi_dyn h) fun σ H R ⟨α, δ, h, rp, rf, p⟩ => ?_
  refine rdE_mono (rd1 rp rf p) fun x H1 ⟨α1, h1, d, rp1, rf1, hx, e1, p1⟩ => ?_
  obtain ⟨s, hs, q⟩ := Post.opt p1 rp1
  unfold srcD at hs
  split at hs
  · cases hs
    obtain ⟨a, vs, rfl, g1, g2⟩ := vr_tup hx
    exact .inr ⟨a, rfl, ⟨vs, g1⟩, q _ (wk_tup g1 g2)⟩
  · rename_i n
    obtain ⟨xs, hl, rfl⟩ := Option.map_eq_some_iff.mp hs
    obtain ⟨a, vs, ha, rfl, g1, g2⟩ := rp1.ref hx (lget_some hl)
    exact .inl ⟨a, rfl, ⟨vs, SqL.of g1⟩, q _ (wk_dyn ha)⟩
  · cases hs
theorem snd_itL {tg e : Expr} {l : L} (h : PE X e (rdL X.K cls W (evL C l))) : PI X tg e (rdI X.K cls W (evI C (.l l))) := by
  refine pi_imp (pi_list h) fun σ H R ⟨α, δ, h, rp, rf, p⟩ => ?_
  refine rdL_mono (rl1 rp rf p) fun v H1 ⟨α1, h1, ds, a, vs, ev', g1, g2, g3, rp1, rf1, hv, e1, p1⟩ => ?_
  subst ev'
  exact ⟨a, rfl, ⟨vs, SqL.of g3⟩, p1 _ _ Ext.refl rp1 _ (wk_hid g3 g2 hv)⟩
theorem snd_r1 (ok : Ok X c C cls W k) {tg a : Expr} {a' : E} {p pos : Pos} (hf : glFree c "range" = true) (hs : noStar a = true) (ha : PE X a (rdE X.K cls W (ev C a').v)) : PI X tg (.Call (.Name "range" p) [a] [] pos) (rdI X.K cls W (evI C (.r1 a'))) := by
  unfold glFree at hf
  simp only [Bool.and_eq_true] at hf
  refine pi_imp (pi_range1 (gl_of (by rw [ok.sc]; exact hf.1.2)) (ok.fa.fr _ hf.2) (pa_one hs ha) (star_one hs)) fun σ H R ⟨α, δ, h, rp, rf, p⟩ => ?_
  show rdE X.K cls W (ev C a').v σ H fun x H1 => ∃ j : Int, [x] = [.int j] ∧ -(2 ^ 62) ≤ j ∧ j < 2 ^ 62 ∧ R (Itr 0 j.toNat) H1
  refine rdE_mono (rd1 rp rf p) fun x H1 ⟨α1, h1, d, rp1, rf1, hx, e1, p1⟩ => ?_
  cases d <;> try exact p1.elim
  rename_i j
  have p2 : Post X.K cls W σ α1 H1 (if -lim ≤ j ∧ j < lim then .ok (.items (rngL 0 j.toNat)) h1 else .bad) fun s α' H' _ => ∀ J, Wk X.K α' H' J s → R J H' := p1
  by_cases hz : -lim ≤ j ∧ j < lim
  · rw [if_pos hz] at p2
    exact ⟨j, by rw [vr_int hx], (lim_eq hz).1, (lim_eq hz).2, p2 _ _ Ext.refl rp1 _ (wk_rng _ _)⟩
  · rw [if_neg hz] at p2; exact p2.elim
theorem snd_r2 (ok : Ok X c C cls W k) {tg a b : Expr} {a' b' : E} {p pos : Pos} (hf : glFree c "range" = true) (hs : noStar a = true) (hs2 : noStar b = true) (ha : PE X a (rdE X.K cls W (ev C a').v)) (hb : PE X b (rdE X.K cls W (ev C b').v)) :
    PI X tg (.Call (.Name "range" p) [a, b] [] pos) (rdI X.K cls W (evI C (.r2 a' b'))) := by
  unfold glFree at hf
  simp only [Bool.and_eq_true] at hf
  refine pi_imp (pi_range2 (gl_of (by rw [ok.sc]; exact hf.1.2)) (ok.fa.fr _ hf.2) (pa_cons ha (pa_one hs2 hb) (star_cons hs)) (by rw [star_cons hs, star_one hs2]; rfl) (star_one hs2)) fun σ H R ⟨α, δ, h, rp, rf, p⟩ => ?_
  show rdE X.K cls W (ev C a').v σ H fun x H1 => rdE X.K cls W (ev C b').v σ H1 fun y H2 => ∃ i j : Int, [x, y] = [.int i, .int j] ∧ (-(2 ^ 62) ≤ i ∧ i < 2 ^ 62 ∧ -(2 ^ 62) ≤ j ∧ j < 2 ^ 62) ∧ R (Itr i (j - i).toNat) H2
  refine rdE_mono (rd2 rp rf p) fun x H1 q => rdE_mono q fun y H2 ⟨α2, h2, d, e, rp2, rf2, hd, he, e2, p2⟩ => ?_
  cases d <;> cases e <;> try exact p2.elim
  rename_i i j
  have p3 : Post X.K cls W σ α2 H2 (if -lim ≤ i ∧ i < lim ∧ -lim ≤ j ∧ j < lim then .ok (.items (rngL i (j - i).toNat)) h2 else .bad) fun s α' H' _ => ∀ J, Wk X.K α' H' J s → R J H' := p2
  by_cases hz : -lim ≤ i ∧ i < lim ∧ -lim ≤ j ∧ j < lim
  · rw [if_pos hz] at p3
    have z1 := lim_eq ⟨hz.1, hz.2.1⟩
    have z2 := lim_eq ⟨hz.2.2.1, hz.2.2.2⟩
    exact ⟨i, j, by rw [vr_int hd, vr_int he], ⟨z1.1, z1.2, z2.1, z2.2⟩, p3 _ _ Ext.refl rp2 _ (wk_rng _ _)⟩
  · rw [if_neg hz] at p3; exact p3.elim

/-! ### targets -/
theorem snd_tN (ok : Ok X c C cls W k) {x : Str} {i : Nat} {pos : Pos} (ha : c.asn.contains x = true) (hi : slotOf c.N x 0 = some i) : PG X (.Name x pos) (rdG X.K cls W [i] (asT C (.sl i))) := by
  obtain ⟨h1, h2⟩ := ok.asn x ha
  refine pg_imp (pg_name (i := i) ok.nd (by rw [ok.hN]; exact slot_get0 hi) h1 h2) fun v σ H Q ⟨α, δ, h, d, rp, rf, hv, p⟩ => ?_
  exact p _ _ Ext.refl rp _ (rf.set i hv) Agree.set
theorem PGs_nil : PGs X [] (rdGs X.K cls W [] (asTs C .nil)) := by
  refine pgs_imp pgs_nil fun vs σ H Q ⟨α, δ, h, ds, rp, rf, hv, p⟩ => ?_
  cases ds with
  | nil => unfold VRs at hv; exact ⟨hv, p _ _ Ext.refl rp _ rf Agree.refl⟩
  | cons d ds => exact p.elim
theorem asEach_cons {e : Expr} {es : List Expr} {env : Env} (h : noStar e = true) : assignEach (e :: es) env = (false, assign e env) :: assignEach es env := by
  cases e <;> first | rfl | (cases h)
theorem asEach_len {env : Env} : ∀ {es : List Expr}, (∀ e ∈ es, noStar e = true) → (assignEach es env).length = es.length ∧ (assignEach es env).findIdx? (·.1) = none
  | [], _ => ⟨rfl, rfl⟩
  | e :: es, h => by
    obtain ⟨h1, h2⟩ := asEach_len (env := env) fun x hx => h x (List.mem_cons_of_mem _ hx)
    rw [asEach_cons (h e List.mem_cons_self)]
    refine ⟨by simp [h1], ?_⟩
    rw [List.findIdx?_cons]
    simp [h2]
theorem PGs_cons {e : Expr} {es : List Expr} {t : T} {ts : Ts} (hs : noStar e = true) (h1 : PG X e (rdG X.K cls W t.slots (asT C t))) (h2 : PGs X es (rdGs X.K cls W ts.slots (asTs C ts))) : PGs X (e :: es) (rdGs X.K cls W (t.slots ++ ts.slots) (asTs C (.cons t ts))) := by
  refine pgs_imp (pgs_cons h1 h2 (by rw [asEach_cons hs]; rfl)) fun vs σ H Q ⟨α, δ, h, ds, rp, rf, hv, p⟩ => ?_
  cases ds with
  | nil => exact p.elim
  | cons d ds =>
    unfold VRs at hv
    obtain ⟨v, us, rfl, hv1, hv2⟩ := hv
    refine ⟨v, us, rfl, α, δ, h, d, rp, rf, hv1, (Post.of_bind p).mono fun δ1 α1 H1 h1 e1 rp1 p1 σ1 rf1 ag1 => ?_⟩
    refine ⟨α1, δ1, h1, ds, rp1, rf1, hv2.ext e1, ?_⟩
    cases hq : asTs C ts ds δ1 h1 with
    | bad => rw [hq] at p1; exact p1.elim
    | exc n fs h' => rw [hq] at p1; exact p1.elim
    | ok δ2 h2 =>
      rw [hq] at p1
      exact fun α2 H2 e2 rp2 σ2 rf2 ag2 => p1 α2 H2 e2 rp2 σ2 rf2 (ag1.trans ag2)
theorem pg_seq {es : List Expr} {kk : Nat} {t : TGs} {n : Nat} {pos : Pos} (hc : X.calm = true) (h : PGs X es t) (hn : (assignEach es X.env).length = n) (hst : (assignEach es X.env).findIdx? (·.1) = none) :
    PG X (.Tuple es kk pos) (fun v σ H Q => gTup X.K n t v σ H Q ∨ gLst X.K n t v σ H Q) := by
  refine ⟨fun pins s σ H v u Q I r hw => ?_⟩
  rcases hw with hw | hw
  · exact (pg_tup hc h hn hst).run pins s σ H v u Q I r hw
  · exact (pg_lst hc h hn hst).run pins s σ H v u Q I r hw
theorem snd_tT (ok : Ok X c C cls W k) {es : List Expr} {ts : Ts} {kk : Nat} {pos : Pos} (hs : ∀ e ∈ es, noStar e = true) (hl : ts.len = es.length) (h : PGs X es (rdGs X.K cls W ts.slots (asTs C ts))) :
    PG X (.Tuple es kk pos) (rdG X.K cls W ts.slots (asT C (.tup ts))) := by
  obtain ⟨l1, l2⟩ := asEach_len (env := X.env) hs
  refine pg_imp (pg_seq ok.calm h l1 l2) fun v σ H Q ⟨α, δ, h, d, rp, rf, hv, p⟩ => ?_
  have fin : ∀ {xs : List D} {vs : List V}, VRs X.K α H xs vs → Post X.K cls W σ α H (if xs.length = ts.len then asTs C ts xs δ h else .bad) (fun δ' α' H' _ => ∀ σ', RepF X.K α' H' σ' δ' → Agree ts.slots σ σ' → Q σ' H') → vs.length = es.length ∧ rdGs X.K cls W ts.slots (asTs C ts) vs σ H Q := fun {xs vs} hx p1 => by
    by_cases hz : xs.length = ts.len
    · rw [if_pos hz] at p1
      exact ⟨by rw [hx.length, hz, hl], α, δ, h, xs, rp, rf, hx, p1⟩
    · rw [if_neg hz] at p1; exact p1.elim
  cases d <;> try exact p.elim
  · obtain ⟨a, vs, rfl, g1, g2⟩ := vr_tup hv
    obtain ⟨f1, f2⟩ := fin g2 p
    exact .inl ⟨a, vs, rfl, g1, f1, f2⟩
  · rename_i n
    have p1 : Post X.K cls W σ α H (match lget h n with | some xs => if xs.length = ts.len then asTs C ts xs δ h else .bad | none => .bad) (fun δ' α' H' _ => ∀ σ', RepF X.K α' H' σ' δ' → Agree ts.slots σ σ' → Q σ' H') := p
    cases hg : lget h n with
    | none => rw [hg] at p1; exact p1.elim
    | some xs =>
      rw [hg] at p1
      obtain ⟨a, vs, _, rfl, g1, g2⟩ := rp.ref hv (lget_some hg)
      obtain ⟨f1, f2⟩ := fin g2 p1
      exact .inr ⟨a, vs, rfl, SqL.of g1, f1, f2⟩
theorem snd_tS {a b : Expr} {a' b' : E} {pos : Pos} (hs : noSlice b = true) (ha : PE X a (rdE X.K cls W (ev C a').v)) (hb : PE X b (rdE X.K cls W (ev C b').v)) : PG X (.Subscript a b pos) (rdG X.K cls W [] (asT C (.sub a' b'))) := by
  have hrel : ∀ v, assign (.Subscript a b pos) X.env v = (do
      let ov ← holding [v] (eval a X.env)
      let iv ← holding [v, ov] (eval b X.env)
      standAt pos
      holding [v, ov, iv] (setItem ov iv v)
      release [v, ov, iv] []) := fun v => by
    cases b <;> first | rfl | (cases hs)
  refine pg_imp (pg_sub ha hb set_list hrel) fun v σ H Q ⟨α, δ, h, d, rp, rf, hv, p⟩ => ?_
  refine rdE_mono (rd2 rp rf p) fun x H1 q => rdE_mono q fun y H2 ⟨α2, h2, d', e, rp2, rf2, hd, he, e2, p2⟩ => ?_
  cases d' <;> cases e <;> try exact p2.elim
  rename_i n i
  dsimp only at p2
  split at p2
  · rename_i xs hx
    split at p2
    · rename_i j hj
      obtain ⟨aa, vs, g0, rfl, g1, g2⟩ := rp2.ref hd hx
      refine ⟨aa, vs, i, j, rfl, vr_int he, g1, ?_, ?_⟩
      · rw [g2.length]; exact hj
      · have e3 := Ext.write (u := .lst (vs.set j v)) rp2 g0
        have hv2 := (hv.ext e2).ext e3
        exact p2 _ _ e3 (rp2.write g0 ⟨_, upd_same, (g2.ext e3).set j hv2⟩) _ (rf2.ext e3) Agree.refl
    · exact p2.elim
  · exact p2.elim

/-! ### comprehensions -/
theorem relab_eq (scope : Scope) (env : Env) : relabel scope env = relab scope env.scope := rfl
theorem own_ix (N : List Str) : ∀ (l : List (Str × NameKind)), ∀ p ∈ ownOf N l, N[p.2]? = some p.1
  | [], p, h => by cases h
  | (n, kk) :: r, p, h => by
    unfold ownOf at h
    split at h
    · split at h
      · rename_i i hi
        rcases List.mem_cons.mp h with rfl | h
        · exact slot_get0 hi
        · exact own_ix N r p h
      · exact own_ix N r p h
    · exact own_ix N r p h
/-- the block's context -/
theorem Ok.blk (ok : Ok X c C cls W k) (scope : Scope) (hb : blkC c.N c.sc scope (ownOf c.N scope.names) = true) (s : Shared) (H : Hp) (D0 : Addr) (cl : List (Str × Addr)) (fp : List Addr) :
    Ok (X.blk s H scope (compEnvC scope cl D0 X.env) fp) (inner c scope) C cls (fun _ _ _ _ => False) k where
  hN := ok.hN
  nd := ok.nd
  sc := by
    show relabel scope X.env = relab scope c.sc
    rw [relab_eq, ok.sc]
  calm := ok.calm
  po := PassesOwn.never
  tk := takes0
  room := ok.room
  asn := fun x hx => by
    have hx' : x ∈ (inner c scope).asn := by simpa using hx
    unfold inner asnOf at hx'
    obtain ⟨_, h2⟩ := List.mem_filter.mp hx'
    have e : (X.blk s H scope (compEnvC scope cl D0 X.env) fp).env.scope = relab scope c.sc := by
      show relabel scope X.env = relab scope c.sc
      rw [relab_eq, ok.sc]
    rw [e]
    simp only [Bool.or_eq_true, Bool.and_eq_true] at h2
    rcases h2 with h2 | ⟨h2, h3⟩
    · unfold locB at h2
      split at h2
      · rename_i q; exact ⟨.inl q, .inr q⟩
      · cases h2
    · split at h2
      · rename_i q; exact ⟨.inr q, .inl h3⟩
      · cases h2
  fa := ⟨ok.fa.fn, ok.fa.gl, ok.fa.fr⟩
theorem snd_comp (ok : Ok X c C cls W k) (S : Snd r C cls k) {elt tg iter : Expr} {ifs : List Expr} {scope : Scope} {pos : Pos} {e' : E} {t' : T} {i' : It} {o' : Oe} (hb : blkC c.N c.sc scope (ownOf c.N scope.names) = true) (hn : noSet iter = true)
    (he : r.e (inner c scope) elt = some e') (ht : r.t (inner c scope) tg = some t') (hi : r.it c iter = some i') (ho : cIfs r (inner c scope) ifs = some o') (hs : ∀ i ∈ t'.slots, i ∈ (ownOf c.N scope.names).map (·.2)) :
    PE X (.ListComp elt [⟨tg, iter, ifs, 0⟩] scope pos) (rdL X.K cls W (evL C (.comp e' ((ownOf c.N scope.names).map (·.2)) t' i' o'))) := by
  have bk : BlkOk X.N X.env.scope scope (ownOf c.N scope.names) := by rw [ok.hN, ok.sc]; exact blkOk_by hb
  refine pe_imp (pe_lc (own := ownOf c.N scope.names) ok.calm ok.nd (S.it _ _ _ hi X W tg ok) bk (fun s H D0 cl fp => S.t _ _ _ ht _ _ (ok.blk scope hb s H D0 cl fp))
    (tt := rdT X.K cls (fun _ _ _ _ => False) (tsO C o')) (fun s H D0 cl fp => ?_) (fun s H D0 cl fp => (S.e _ _ _ he _ _ (ok.blk scope hb s H D0 cl fp)).1) (fold_plain hn)) fun σ H Q q => comp_rd hs q
  have ok' := ok.blk scope hb s H D0 cl fp
  cases ifs with
  | nil =>
    cases ho
    exact pts_imp pts_nil fun σ H Q ⟨α, δ, h, rp, rf, p⟩ => p _ _ Ext.refl rp
  | cons e es =>
    cases es with
    | nil =>
      have hoo := S.o _ _ _ ho _ _ ok'
      cases o' with
      | none => exact hoo.2.elim
      | some e2 => exact pts_one hoo.2
    | cons _ _ => cases ho
end
end FD

set_option Elab.async false
set_option linter.all false
set_option maxRecDepth 100000
set_option maxHeartbeats 1000000
/-! The D layer, 13: the step. -/
namespace FD
open PySem PySem.Spec PyProof.Rows L2
section
variable {C : Cn} {cls : Nat → Option Addr} {k : Nat} {r : Rec}
theorem step_bin (S : Snd r C cls k) {c : CC} {a b : Expr} {op : Operator} {pos : Pos} {t : E} (h : cBin r c a op b = some t) {X : Cx} {W : WX} (ok : Ok X c C cls W k) : PE X (.BinOp a op b pos) (rdE X.K cls W (ev C t).v) ∧ PT X (.BinOp a op b pos) (rdT X.K cls W (ev C t).t) := by
  unfold cBin at h
  split at h
  · rename_i q _ _ o ps hs
    obtain ⟨o', ho, rfl⟩ := Option.map_eq_some_iff.mp h
    exact both (snd_repl hs (S.e _ _ _ ho X W ok).1) fun _ => rfl
  · split at h
    · rename_i o a' b' h1 h2 h3
      cases h
      exact both (snd_bin h1 (S.e _ _ _ h2 X W ok).1 (S.e _ _ _ h3 X W ok).1) fun _ => rfl
    · cases h
theorem step_cmp (S : Snd r C cls k) {c : CC} {a b : Expr} {op : CmpOp} {pos : Pos} {t : E} (h : cCmp r c a op b = some t) {X : Cx} {W : WX} (ok : Ok X c C cls W k) : PE X (.Compare a [op] [b] pos) (rdE X.K cls W (ev C t).v) ∧ PT X (.Compare a [op] [b] pos) (rdT X.K cls W (ev C t).t) := by
  unfold cCmp at h
  split at h
  · split at h
    · rename_i a' s h1 h2
      cases h
      exact snd_is h2 (S.e _ _ _ h1 X W ok).1
    · cases h
  · split at h
    · rename_i a' s h1 h2
      cases h
      exact snd_isn h2 (S.e _ _ _ h1 X W ok).1
    · cases h
  · split at h
    · rename_i hn
      split at h
      · rename_i o a' b' h1 h2 h3
        cases h
        exact snd_cmp ok h1 hn (S.e _ _ _ h2 X W ok).1 (S.e _ _ _ h3 X W ok).1
      · cases h
    · cases h
theorem step_call (S : Snd r C cls k) {c : CC} {x : Str} {args : List Expr} {p pos : Pos} {t : E} (h : cCall r c x args = some t) {X : Cx} {W : WX} (ok : Ok X c C cls W k) : PE X (.Call (.Name x p) args [] pos) (rdE X.K cls W (ev C t).v) ∧ PT X (.Call (.Name x p) args [] pos) (rdT X.K cls W (ev C t).t) := by
  unfold cCall at h
  split at h
  · rename_i hh
    simp only [Bool.and_eq_true] at hh
    split at h
    · rename_i f hf
      obtain ⟨es', hes, rfl⟩ := Option.map_eq_some_iff.mp h
      obtain ⟨h1, h2, h3⟩ := S.es _ _ _ hes X W ok
      exact both (snd_call ok hh.1 hh.2 hf h1 h2 h3) fun _ => rfl
    · split at h
      · rename_i hfr
        split at h
        · rename_i a
          split at h
          · cases h
          · rename_i hs
            have hs' : noStar a = true := by simpa using hs
            split at h
            · rename_i b l h1 h2
              cases h
              exact both (snd_bl ok hh.1 hh.2 hfr h1 hs' (S.l _ _ _ h2 X W ok)) fun _ => rfl
            · split at h
              · rename_i b a' h1 h2
                cases h
                exact both (snd_bi ok hh.1 hh.2 hfr h1 hs' (S.e _ _ _ h2 X W ok).1) fun _ => rfl
              · cases h
        · rename_i a ty pt
          split at h
          · rename_i hc
            simp only [Bool.and_eq_true, beq_iff_eq] at hc
            obtain ⟨⟨rfl, h1⟩, h2⟩ := hc
            split at h
            · rename_i y a' h3 h4
              cases h
              exact both (snd_isi ok hh.2 hfr h1 h3 h2 (S.e _ _ _ h4 X W ok).1) fun _ => rfl
            · cases h
          · cases h
        · cases h
      · cases h
  · cases h
theorem step_meth (S : Snd r C cls k) {c : CC} {o : Expr} {m : Str} {args : List Expr} {apos pos : Pos} {t : E} (hb : plainB o = true) (hl : (apos.endLine == pos.line) = true) (h : cMeth r c o m args = some t) {X : Cx} {W : WX} (ok : Ok X c C cls W k) :
    PE X (.Call (.Attribute o m apos) args [] pos) (rdE X.K cls W (ev C t).v) ∧ PT X (.Call (.Attribute o m apos) args [] pos) (rdT X.K cls W (ev C t).t) := by
  unfold cMeth at h
  split at h
  · rename_i a
    split at h
    · rename_i hm
      cases beq_iff_eq.mp hm
      split at h
      · rename_i o' es h1 h2
        cases h
        obtain ⟨g1, g2, _⟩ := S.es _ _ _ h2 X W ok
        exact both (snd_append hb hl g2 (S.e _ _ _ h1 X W ok).1 g1) fun _ => rfl
      · cases h
    · split at h
      · rename_i hm
        simp only [Bool.and_eq_true, beq_iff_eq] at hm
        obtain ⟨rfl, hs⟩ := hm
        split at h
        · rename_i o' l h1 h2
          cases h
          exact both (snd_join hb hl hs (S.e _ _ _ h1 X W ok).1 (S.l _ _ _ h2 X W ok)) fun _ => rfl
        · split at h
          · rename_i o' es h1 h2
            cases h
            obtain ⟨g1, g2, _⟩ := S.es _ _ _ h2 X W ok
            exact both (snd_joinR hb hl g2 (S.e _ _ _ h1 X W ok).1 g1) fun _ => rfl
          · cases h
      · cases h
  · rename_i a b
    split at h
    · rename_i hm
      cases beq_iff_eq.mp hm
      split at h
      · rename_i o' es h1 h2
        cases h
        obtain ⟨g1, g2, _⟩ := S.es _ _ _ h2 X W ok
        exact both (snd_find find2_ok (fun {h d} hk => by cases d <;> simp only [mtK] at hk <;> first | exact ⟨_, rfl⟩ | contradiction) hb hl g2 (by simp) (S.e _ _ _ h1 X W ok).1 g1) fun _ => rfl
      · cases h
    · cases h
  · rename_i a b d
    split at h
    · rename_i hm
      cases beq_iff_eq.mp hm
      split at h
      · rename_i o' es h1 h2
        cases h
        obtain ⟨g1, g2, _⟩ := S.es _ _ _ h2 X W ok
        exact both (snd_find find3_ok (fun {h d} hk => by cases d <;> simp only [mtK] at hk <;> first | exact ⟨_, rfl⟩ | contradiction) hb hl g2 (by simp) (S.e _ _ _ h1 X W ok).1 g1) fun _ => rfl
      · cases h
    · cases h
  · cases h
theorem step_e (S : Snd r C cls k) (c : CC) (e : Expr) (t : E) (h : sE r c e = some t) (X : Cx) (W : WX) (ok : Ok X c C cls W k) : PE X e (rdE X.K cls W (ev C t).v) ∧ PT X e (rdT X.K cls W (ev C t).t) := by
  unfold sE at h
  split at h
  · exact snd_K h
  · exact snd_N ok h
  · exact step_bin S h ok
  · obtain ⟨a', ha, rfl⟩ := Option.map_eq_some_iff.mp h
    exact both (snd_neg (S.e _ _ _ ha X W ok).1) fun _ => rfl
  · obtain ⟨a', ha, rfl⟩ := Option.map_eq_some_iff.mp h
    have := S.e _ _ _ ha X W ok
    exact ⟨snd_notV this.1, snd_notT this.2⟩
  · have := S.b _ _ _ _ h X W
    exact ⟨(this _ ok).1, (this _ ok).2.pt⟩
  · have := S.b _ _ _ _ h X W
    exact ⟨(this _ ok).1, (this _ ok).2.pt⟩
  · split at h
    · rename_i t' a' b' h1 h2 h3
      cases h
      have g1 := S.e _ _ _ h1 X W ok
      have g2 := S.e _ _ _ h2 X W ok
      have g3 := S.e _ _ _ h3 X W ok
      exact ⟨snd_iteV g1.2 g2.1 g3.1, snd_iteT g1.2 g2.2 g3.2⟩
    · cases h
  · exact step_cmp S h ok
  · obtain ⟨es', hes, rfl⟩ := Option.map_eq_some_iff.mp h
    exact both (snd_tup (S.es _ _ _ hes X W ok).1) fun _ => rfl
  · split at h
    · rename_i a' lo' hi' h1 h2 h3
      cases h
      exact both (snd_sli (S.e _ _ _ h1 X W ok).1 (S.o _ _ _ h2 X W ok).1 (S.o _ _ _ h3 X W ok).1) fun _ => rfl
    · cases h
  · split at h
    · rename_i hn
      split at h
      · rename_i l h1
        obtain ⟨b', h3, rfl⟩ := Option.map_eq_some_iff.mp h
        exact both (snd_ixL hn (S.l _ _ _ h1 X W ok) (S.e _ _ _ h3 X W ok).1) fun _ => rfl
      · split at h
        · rename_i a' b' h2 h3
          cases h
          exact both (snd_ix hn (S.e _ _ _ h2 X W ok).1 (S.e _ _ _ h3 X W ok).1) fun _ => rfl
        · cases h
    · cases h
  · exact step_call S h ok
  · split at h
    · rename_i hh
      simp only [Bool.and_eq_true] at hh
      exact step_meth S hh.1 hh.2 h ok
    · cases h
  · obtain ⟨l, hl, rfl⟩ := Option.map_eq_some_iff.mp h
    exact both (snd_ofL (S.l _ _ _ hl X W ok)) fun _ => rfl
  · obtain ⟨l, hl, rfl⟩ := Option.map_eq_some_iff.mp h
    exact both (snd_ofL (S.l _ _ _ hl X W ok)) fun _ => rfl
  · cases h
theorem PA_nil {X : Cx} {W : WX} : PA X [] (rdEs X.K cls W (evs C .nil)) := pa_imp pa_nil fun σ H Q ⟨α, δ, h, rp, rf, p⟩ => p _ _ Ext.refl rp _ rfl
theorem PA_cons {X : Cx} {W : WX} {e : Expr} {es : List Expr} {e' : E} {es' : Es} (hs : noStar e = true) (h1 : PE X e (rdE X.K cls W (ev C e').v)) (h2 : PA X es (rdEs X.K cls W (evs C es'))) : PA X (e :: es) (rdEs X.K cls W (evs C (.cons e' es'))) := by
  refine pa_imp (pa_cons h1 h2 (star_cons hs)) fun σ H Q ⟨α, δ, h, rp, rf, p⟩ => ?_
  refine rdE_mono (rd1 rp rf p) fun x H1 ⟨α1, h1, d, rp1, rf1, hx, e1, p1⟩ => ?_
  exact rdEs_mono (rs1 rp1 rf1 p1) fun xs H2 ⟨α2, h2, ds, rp2, rf2, hxs, e2, p2⟩ => p2 _ _ Ext.refl rp2 _ ⟨x, xs, rfl, hx.ext e2, hxs⟩
theorem step_ok (S : Snd r C cls k) : Snd (step r) C cls k where
  e := step_e S
  es := fun c es t h X W ok => by
    replace h : sEs r c es = some t := h
    unfold sEs at h
    split at h
    · cases h
      exact ⟨PA_nil, fun e he => (by cases he), fun _ => rfl⟩
    · split at h
      · rename_i e es hs
        split at h
        · rename_i e' es' h1 h2
          cases h
          obtain ⟨g1, g2, _⟩ := S.es _ _ _ h2 X W ok
          refine ⟨PA_cons hs (S.e _ _ _ h1 X W ok).1 g1, fun x hx => ?_, fun z => by cases z⟩
          rcases List.mem_cons.mp hx with rfl | hx
          · exact hs
          · exact g2 x hx
        · cases h
      · cases h
  b := fun c kk vs t h X W pos ok => by
    replace h : sB r c kk vs = some t := h
    unfold sB at h
    split at h
    · have g := S.e _ _ _ h X W ok
      cases kk with
      | true => exact ⟨pe_one g.1, pw_and1 g.2⟩
      | false => exact ⟨pe_one g.1, pw_or1 g.2⟩
    · split at h
      · rename_i a' b' h1 h2
        cases h
        have g1 := S.e _ _ _ h1 X W ok
        have g2 := S.b _ _ _ _ h2 X W pos ok
        cases kk with
        | true => exact ⟨snd_andV g1.1 g2.1, snd_andT g1.2 g2.2⟩
        | false => exact ⟨snd_orV g1.1 g2.1, snd_orT g1.2 g2.2⟩
      · cases h
    · cases h
  l := fun c e t h X W ok => by
    replace h : sL r c e = some t := h
    unfold sL at h
    split at h
    · obtain ⟨es', hes, rfl⟩ := Option.map_eq_some_iff.mp h
      exact snd_disp (S.es _ _ _ hes X W ok).1
    · split at h
      · rename_i hb
        simp only [Bool.and_eq_true] at hb
        split at h
        · rename_i e' t' i' o' h1 h2 h3 h4
          split at h
          · rename_i hs
            cases h
            exact snd_comp ok S hb.1 hb.2 h1 h2 h3 h4 fun i hi => by
              have := List.all_eq_true.mp hs i hi
              simpa using this
          · cases h
        · cases h
      · cases h
    · cases h
  it := fun c e t h X W tg ok => by
    replace h : sIt r c e = some t := h
    unfold sIt at h
    split at h
    · split at h
      · rename_i hh
        simp only [Bool.and_eq_true, beq_iff_eq] at hh
        obtain ⟨⟨rfl, h1⟩, h2⟩ := hh
        obtain ⟨a', ha, rfl⟩ := Option.map_eq_some_iff.mp h
        exact snd_r1 ok h1 h2 (S.e _ _ _ ha X W ok).1
      · obtain ⟨a', ha, rfl⟩ := Option.map_eq_some_iff.mp h
        exact snd_itE (S.e _ _ _ ha X W ok).1
    · split at h
      · rename_i hh
        simp only [Bool.and_eq_true, beq_iff_eq] at hh
        obtain ⟨⟨⟨rfl, h1⟩, h2⟩, h3⟩ := hh
        split at h
        · rename_i a' b' g1 g2
          cases h
          exact snd_r2 ok h1 h2 h3 (S.e _ _ _ g1 X W ok).1 (S.e _ _ _ g2 X W ok).1
        · cases h
      · obtain ⟨a', ha, rfl⟩ := Option.map_eq_some_iff.mp h
        exact snd_itE (S.e _ _ _ ha X W ok).1
    · split at h
      · rename_i l hl
        cases h
        exact snd_itL (S.l _ _ _ hl X W ok)
      · obtain ⟨a', ha, rfl⟩ := Option.map_eq_some_iff.mp h
        exact snd_itE (S.e _ _ _ ha X W ok).1
  t := fun c e t h X W ok => by
    replace h : sT r c e = some t := h
    unfold sT at h
    split at h
    · split at h
      · rename_i ha
        obtain ⟨i, hi, rfl⟩ := Option.map_eq_some_iff.mp h
        exact snd_tN ok ha hi
      · cases h
    · obtain ⟨ts, hts, rfl⟩ := Option.map_eq_some_iff.mp h
      obtain ⟨g1, g2, g3⟩ := S.ts _ _ _ hts X W ok
      exact snd_tT ok g2 g3 g1
    · split at h
      · rename_i hn
        split at h
        · rename_i a' b' h1 h2
          cases h
          exact snd_tS hn (S.e _ _ _ h1 X W ok).1 (S.e _ _ _ h2 X W ok).1
        · cases h
      · cases h
    · cases h
  ts := fun c es t h X W ok => by
    replace h : sTs r c es = some t := h
    unfold sTs at h
    split at h
    · cases h
      exact ⟨PGs_nil, fun e he => (by cases he), rfl⟩
    · split at h
      · rename_i e es hs
        split at h
        · rename_i e' es' h1 h2
          cases h
          obtain ⟨g1, g2, g3⟩ := S.ts _ _ _ h2 X W ok
          refine ⟨PGs_cons hs (S.t _ _ _ h1 X W ok) g1, fun x hx => ?_, by simp [Ts.len, g3]⟩
          rcases List.mem_cons.mp hx with rfl | hx
          · exact hs
          · exact g2 x hx
        · cases h
      · cases h
  o := fun c o t h X W ok => by
    replace h : sO r c o = some t := h
    unfold sO at h
    split at h
    · cases h
      exact ⟨snd_oN, trivial⟩
    · obtain ⟨e', he, rfl⟩ := Option.map_eq_some_iff.mp h
      have g := S.e _ _ _ he X W ok
      exact ⟨snd_oS g.1, g.2⟩
end
end FD

set_option Elab.async false
set_option linter.all false
set_option maxRecDepth 100000
set_option maxHeartbeats 1000000
/-! The D layer, 14: statements. -/
namespace FD
open PySem PySem.Spec PyProof.Rows L2
section
variable {C : Cn} {cls : Nat → Option Addr} {k : Nat}
theorem snd0 : Snd rec0 C cls k where
  e := fun _ _ _ h => by cases h
  es := fun _ _ _ h => by cases h
  b := fun _ _ _ _ h => by cases h
  l := fun _ _ _ h => by cases h
  it := fun _ _ _ h => by cases h
  t := fun _ _ _ h => by cases h
  ts := fun _ _ _ h => by cases h
  o := fun _ _ _ h => by cases h
theorem sndN : ∀ n, Snd (recN n) C cls k
  | 0 => snd0
  | n + 1 => step_ok (sndN n)
structure SndS (q : RecS) (C : Cn) (cls : Nat → Option Addr) (k : Nat) : Prop where
  s : ∀ c st t, q.s c st = some t → ∀ X W, Ok X c C cls W k → PS X st (rdS X.K cls W (evS C t))
  ss : ∀ c st t, q.ss c st = some t → ∀ X W, Ok X c C cls W k → PSs X st (rdS X.K cls W (evSs C t))
variable {X : Cx} {c : CC} {W : WX} {r : Rec} {q : RecS}
theorem asg_rd {t : T} {e : E} {D : Ends} {σ : L2.St} {H : Hp} (h : rdS X.K cls W (evS C (.asg t e)) D σ H) : tAsg (rdE X.K cls W (ev C e).v) (rdG X.K cls W t.slots (asT C t)) D σ H := by
  obtain ⟨α, δ, h, rp, rf, p⟩ := h
  refine ⟨α, δ, h, rp, rf, (PostS.of_sbind p rf).mono fun d α1 H1 h1 e1 rp1 p1 v hv => ?_⟩
  exact ⟨α1, δ, h1, d, rp1, rf.ext e1, hv, (PostS.of_sbind p1 (rf.ext e1)).mono fun δ2 α2 H2 h2 e2 rp2 p2 σ' rf2 _ => p2 α2 σ' H2 Ext.refl rp2 rf2⟩
theorem sole_false {t v : Expr} {line : Nat} (hk : X.env.scope = c.sc) (ho : okAsg c t v = true) (hs : swB c t v = false) : swapsWithSole [t] v line X.env = pure false := by
  unfold okAsg at ho
  simp only [Bool.and_eq_true] at ho
  obtain ⟨⟨⟨h1, h2⟩, h3⟩, h4⟩ := ho
  show swapsWith v (some t) line X.env = pure false
  cases v <;> first | rfl | (cases h4; done) | skip
  rename_i elt gs scope pos
  cases t <;> first | rfl | skip
  rename_i x p
  have hb : X.env.blockKind = .function := by
    unfold Env.blockKind; rw [hk, beq_iff_eq.mp h1]; rfl
  have hkx : X.env.kindOf x = c.sc.names.lookup x := by
    show X.env.scope.names.lookup x = _
    rw [hk]
  unfold swB at hs
  dsimp only at hs
  unfold swapsWith
  simp only [hb, hkx, Expr.pos]
  rw [h1] at hs
  simp only [Bool.true_and] at hs
  show pure _ = pure _
  congr 1
theorem stores_none {t v : Expr} (ho : okAsg c t v = true) : swappedStores [t] v X.env = pure none := by
  unfold okAsg at ho
  simp only [Bool.and_eq_true] at ho
  obtain ⟨⟨⟨h1, h2⟩, h3⟩, h4⟩ := ho
  unfold swappedStores
  cases t <;> try rfl
  all_goals cases v <;> first | rfl | (cases h3; done)
theorem each_one {t : Expr} {env : Env} (h : noStar t = true) : (assignEach [t] env).map (·.2) = [assign t env] := by
  rw [asEach_cons h]; rfl
theorem ofL_imp {l : L} {σ : L2.St} {H : Hp} {Q : VK} (p0 : rdE X.K cls W (ev C (.ofL l)).v σ H Q) : rdL X.K cls W (evL C l) σ H Q := by
  obtain ⟨α, δ, h, rp, rf, p⟩ := p0
  refine ⟨α, δ, h, rp, rf, ?_⟩
  have p' : Post X.K cls W σ α H ((evL C l δ h).bind fun xs h => .ok (.ref h.length) (h ++ [.lst xs])) fun d α' H' _ => ∀ v, VR X.K α' H' d v → Q v H' := p
  cases hl : evL C l δ h with
  | bad => rw [hl] at p'; exact p'.elim
  | exc n fs h' => rw [hl] at p'; exact p'
  | ok ds h1 =>
    rw [hl] at p'
    intro α1 H1 e1 rp1 a vs g1 g2 g3 g4
    exact p' (α1 ++ [a]) H1 (e1.take g1 g2) (rp1.add g2 ⟨vs, g3, g4⟩) _ ⟨a, by rw [← rp1.len]; simp, rfl⟩
theorem pts_ifs (S : Snd r C cls k) {c : CC} {X : Cx} {W : WX} {ifs : List Expr} {o' : Oe} (ho : cIfs r c ifs = some o') (ok : Ok X c C cls W k) : PTs X ifs (rdT X.K cls W (tsO C o')) := by
  cases ifs with
  | nil =>
    cases ho
    exact pts_imp pts_nil fun σ H Q ⟨α, δ, h, rp, rf, p⟩ => p _ _ Ext.refl rp
  | cons e es =>
    cases es with
    | nil =>
      have hoo := S.o _ _ _ ho _ _ ok
      cases o' with
      | none => exact hoo.2.elim
      | some e2 => exact pts_one hoo.2
    | cons _ _ => cases ho
theorem ps_set_sw (ok : Ok X c C cls W k) (S : Snd r C cls k) {t v : Expr} {st : FD.S} {pos : Pos} (hs : swB c t v = true) (h : cSet r c t v = some st) : PS X (.Assign [t] v pos) (rdS X.K cls W (evS C st)) := by
  unfold swB at hs
  split at hs
  · rename_i elt gs scope lpos
    split at hs
    · rename_i x px
      simp only [Bool.and_eq_true, beq_iff_eq] at hs
      obtain ⟨⟨⟨g1, g2⟩, g3⟩, g4⟩ := hs
      unfold cSet at h
      dsimp only at h
      split at h
      · rename_i ha
        split at h
        · rename_i i l hi hl
          cases h
          unfold sL at hl
          split at hl
          · rename_i e1; cases e1
          · rename_i elt' tg iter ifs scope' pos' heq
            cases heq
            split at hl
            · rename_i hb
              simp only [Bool.and_eq_true] at hb
              split at hl
              · rename_i e' t' i' o' h1 h2 h3 h4
                split at hl
                · rename_i hsl
                  cases hl
                  have hsl' : ∀ i ∈ t'.slots, i ∈ (ownOf c.N scope.names).map (·.2) := fun i hi => by
                    have := List.all_eq_true.mp hsl i hi
                    simpa using this
                  have bk : BlkOk X.N X.env.scope scope (ownOf c.N scope.names) := by rw [ok.hN, ok.sc]; exact blkOk_by hb.1
                  refine ps_imp (ps_setLc (own := ownOf c.N scope.names) (i := i) ok.calm ok.nd (by rw [ok.hN]; exact slot_get0 hi) (by rw [ok.sc]; exact g2)
                    (sw_true (by rw [ok.sc]; exact g1) (by rw [ok.sc]; exact g2) (by simpa using g3) (by simpa using g4)) (S.it _ _ _ h3 X W tg ok) bk
                    (fun s H D0 cl fp => S.t _ _ _ h2 _ _ (ok.blk scope hb.1 s H D0 cl fp))
                    (g := rdG X.K cls (fun _ _ _ _ => False) t'.slots (asT C t')) (te := rdE X.K cls (fun _ _ _ _ => False) (ev C e').v) (tt := rdT X.K cls (fun _ _ _ _ => False) (tsO C o')) (fun s H D0 cl fp => pts_ifs S h4 (ok.blk scope hb.1 s H D0 cl fp)) (fun s H D0 cl fp => (S.e _ _ _ h1 _ _ (ok.blk scope hb.1 s H D0 cl fp)).1) (fold_plain hb.2)) fun D σ H hh => ?_
                  exact comp_rd hsl' (ofL_imp (rdE_mono (asg_rd hh) fun v H' ⟨α, δ, h, d, rp, rf, hv, p⟩ => p _ _ Ext.refl rp _ (rf.set i hv) Agree.set))
                · cases hl
              · cases hl
            · cases hl
          · cases hl
        · cases h
      · cases h
    · cases hs
  · cases hs
/-- name op= value -/
def rAug (o : BOp) : V → V → Hp → VK → Prop := fun x y H Q => (∃ i j, o = .add ∧ x = .int i ∧ y = .int j ∧ Q (.int (i + j)) H) ∨ (∃ i j, o = .sub ∧ x = .int i ∧ y = .int j ∧ Q (.int (i - j)) H) ∨
  ∃ i j : Str, o = .add ∧ x = .str i ∧ y = .str j ∧ i.length + j.length ≤ sizeLine ∧ Q (.str (i ++ j)) H
theorem pip_aug {o : BOp} : PIp X (toOp o) (rAug o) := fun pins s σ H x y v u Q I r1 r2 q => by
  rcases q with ⟨i, j, rfl, h1, h2, q⟩ | ⟨i, j, rfl, h1, h2, q⟩ | ⟨i, j, rfl, q⟩
  · exact ip_add pins s σ H x y v u Q I r1 r2 ⟨i, j, h1, h2, q⟩
  · exact ip_sub pins s σ H x y v u Q I r1 r2 ⟨i, j, h1, h2, q⟩
  · exact iop_add_str pins s σ H x y v u Q I r1 r2 ⟨i, j, q⟩
theorem aug_rd {i : Nat} {o : BOp} {e : E} {En : Ends} {σ : L2.St} {H : Hp} (hh : rdS X.K cls W (evS C (.aug i o e)) En σ H) : tAug i (rdE X.K cls W (ev C e).v) (rAug o) En σ H := by
  obtain ⟨α, δ, h, rp, rf, p⟩ := hh
  unfold evS at p
  cases hd : δ[i]? with
  | none => rw [hd] at p; exact p.elim
  | some oo =>
    cases oo with
    | none => rw [hd] at p; exact p.elim
    | some x =>
      rw [hd] at p
      obtain ⟨v, h1, h2⟩ := rf.sl i x hd
      refine ⟨v, h1, α, δ, h, rp, rf, (PostS.of_sbind p rf).mono fun y α1 H1 h1 e1 rp1 p1 u hu => ?_⟩
      have rf1 := rf.ext e1
      have hx := h2.ext e1
      have fin : ∀ (z : D) (w : V), augD h1 o x y = .ok z h1 → VR X.K α1 H1 z w → En.nx (σ.set i (some w)) H1 := fun z w e hw => by
        have p1 := p1
        rw [e] at p1
        exact p1 α1 _ H1 Ext.refl rp1 (rf1.set i hw)
      cases o with
      | add =>
        cases x with
        | int a => cases y with
          | int b => exact .inl ⟨a, b, rfl, vr_int hx, vr_int hu, fin _ _ rfl rfl⟩
          | _ => exact p1.elim
        | str a => cases y with
          | str b =>
            have hx' : v = .str (toS a) := hx
            have hu' : u = .str (toS b) := hu
            by_cases hz : a.length + b.length ≤ SL
            · exact .inr (.inr ⟨toS a, toS b, rfl, hx', hu', by rw [toS_length, toS_length, SL_eq]; exact hz, fin (.str (a ++ b)) _ (if_pos hz) (by show V.str _ = V.str _; rw [app_toS])⟩)
            · have e : augD h1 .add (.str a) (.str b) = .bad := if_neg hz
              rw [e] at p1; exact p1.elim
          | _ => exact p1.elim
        | _ => exact p1.elim
      | sub =>
        cases x with
        | int a => cases y with
          | int b => exact .inr (.inl ⟨a, b, rfl, vr_int hx, vr_int hu, fin _ _ rfl rfl⟩)
          | _ => exact p1.elim
        | _ => exact p1.elim
      | _ => exact p1.elim
theorem stepS_ok (S : Snd r C cls k) (Q : SndS q C cls k) : SndS ⟨sS r q, sSs q⟩ C cls k where
  s := fun c st t h X W ok => by
    replace h : sS r q c st = some t := h
    unfold sS at h
    split at h
    · rename_i tg v pos
      split at h
      · rename_i ho
        split at h
        · rename_i hs
          exact ps_set_sw ok S hs h
        · rename_i hs
          have hs' : swB c tg v = false := by simpa using hs
          split at h
          · rename_i t' v' h1 h2
            cases h
            have hn : noStar tg = true := by
              unfold okAsg at ho
              simp only [Bool.and_eq_true] at ho
              exact ho.1.1.2
            exact ps_imp (ps_asg (S.e _ _ _ h2 X W ok).1 (S.t _ _ _ h1 X W ok) (sole_false ok.sc ho hs') (stores_none ho) (each_one hn)) fun D σ H hh => asg_rd hh
          · cases h
      · cases h
    · rename_i x p1 op v p2
      split at h
      · rename_i ha
        split at h
        · rename_i i o v' h1 h2 h3
          obtain ⟨g1, g2⟩ := ok.asn x ha
          have key : PS X (.AugAssign (.Name x p1) op v p2) (rdS X.K cls W (evS C (.aug i o v'))) := by
            rw [toOp_of h2]
            exact ps_imp (ps_aug (i := i) ok.nd (by rw [ok.hN]; exact slot_get0 h1) g1 (S.e _ _ _ h3 X W ok).1 pip_aug g2) fun D σ H hh => aug_rd hh
          cases o <;> first | (cases h; exact key) | cases h
        · cases h
      · cases h
    · rename_i e pos
      split at h
      · rename_i hn
        obtain ⟨e', he, rfl⟩ := Option.map_eq_some_iff.mp h
        refine ps_imp (ps_expr (S.e _ _ _ he X W ok).1 (by cases e <;> first | rfl | cases hn)) fun D σ H ⟨α, δ, h, rp, rf, p⟩ => ?_
        exact ⟨α, δ, h, rp, rf, (PostS.of_sbind p rf).mono fun d α1 H1 h1 e1 rp1 p1 v hv => p1 α1 σ H1 Ext.refl rp1 (rf.ext e1)⟩
      · cases h
    · cases h
      exact ps_imp ps_retN fun D σ H ⟨α, δ, h, rp, rf, p⟩ => p α H _ Ext.refl rp rfl
    · rename_i e pos
      obtain ⟨e', he, rfl⟩ := Option.map_eq_some_iff.mp h
      refine ps_imp (ps_ret (S.e _ _ _ he X W ok).1) fun D σ H ⟨α, δ, h, rp, rf, p⟩ => ?_
      exact ⟨α, δ, h, rp, rf, (PostS.of_sbind p rf).mono fun d α1 H1 h1 e1 rp1 p1 v hv => p1 α1 H1 v Ext.refl rp1 hv⟩
    · split at h
      · rename_i t' a' b' h1 h2 h3
        cases h
        refine ps_imp (ps_if (S.e _ _ _ h1 X W ok).2 (Q.ss _ _ _ h2 X W ok) (Q.ss _ _ _ h3 X W ok)) fun D σ H ⟨α, δ, h, rp, rf, p⟩ => ?_
        refine ⟨α, δ, h, rp, rf, (PostS.of_sbind p rf).mono fun b α1 H1 h1 e1 rp1 p1 => ?_⟩
        cases b with
        | true => exact ⟨α1, δ, h1, rp1, rf.ext e1, p1⟩
        | false => exact ⟨α1, δ, h1, rp1, rf.ext e1, p1⟩
      · cases h
    · split at h
      · rename_i t' a' h1 h2
        cases h
        exact ps_imp (ps_while ok.po (S.e _ _ _ h1 X W ok).2 (Q.ss _ _ _ h2 X W ok)) fun D σ H hh => whl_rd hh
      · cases h
    · split at h
      · rename_i hn
        split at h
        · rename_i t' i' a' h1 h2 h3
          cases h
          exact ps_imp (ps_for ok.po ok.calm (S.it _ _ _ h2 X W _ ok) (S.t _ _ _ h1 X W ok) (Q.ss _ _ _ h3 X W ok) (fold_plain hn)) fun D σ H hh => for_rd hh
        · cases h
      · cases h
    · cases h
      exact ps_imp ps_break fun D σ H ⟨α, δ, h, rp, rf, p⟩ => p α σ H Ext.refl rp rf
    · cases h
      exact ps_imp ps_continue fun D σ H ⟨α, δ, h, rp, rf, p⟩ => p α σ H Ext.refl rp rf
    · cases h
      exact ps_imp ps_pass fun D σ H ⟨α, δ, h, rp, rf, p⟩ => p α σ H Ext.refl rp rf
    · cases h
      exact ps_imp ps_never fun D σ H ⟨α, δ, h, rp, rf, p⟩ => p
    · cases h
  ss := fun c st t h X W ok => by
    replace h : sSs q c st = some t := h
    unfold sSs at h
    split at h
    · cases h
      exact pss_imp pss_nil fun D σ H ⟨α, δ, h, rp, rf, p⟩ => p α σ H Ext.refl rp rf
    · split at h
      · rename_i s' ss' h1 h2
        cases h
        exact pss_imp (pss_cons (Q.s _ _ _ h1 X W ok) (Q.ss _ _ _ h2 X W ok)) fun D σ H ⟨α, δ, h, rp, rf, p⟩ => ⟨α, δ, h, rp, rf, PostS.of_seq p⟩
      · cases h
theorem sndS (S : Snd r C cls k) : ∀ n, SndS (recS r n) C cls k
  | 0 => ⟨fun _ _ _ h => (by cases h), fun _ _ _ h => (by cases h)⟩
  | n + 1 => stepS_ok S (sndS S n)
end
end FD

set_option Elab.async false
set_option linter.all false
set_option maxRecDepth 100000
set_option maxHeartbeats 1000000
/-! The D layer, 15: defs, programs. -/
namespace FD
open PySem PySem.Spec PyProof.Rows L2
/-- a def of the text -/
structure Df where
  name : Str
  N : List Str
  ps : List Str
  st : Stmt
/-- the names of the module that the defs lean on -/
structure Tbl where
  fns : List (Str × Nat)
  gls : List (Str × D)
  free : List Str
def cellB (sc : Scope) (x : Str) : Bool := match sc.names.lookup x with
  | some .cell => true
  | _ => false
def asnF (N : List Str) (sc : Scope) : List Str := N.filter fun x => locB sc x || cellB sc x
def ccOf (T : Tbl) (d : Df) : CC := ⟨d.N, defScope d.st, asnF d.N (defScope d.st), T.fns, T.gls, T.free⟩
def compD (T : Tbl) (d : Df) : Option Ss := (recS (recN 40) 80).ss (ccOf T d) (defBody d.st)
structure DfOk (T : Tbl) (d : Df) (b : Fn) : Prop where
  sc : FnScope d.N d.ps (defScope d.st)
  n : b.n = d.N.length
  np : b.np = d.ps.length
  cp : compD T d = some b.b
structure Stand (K : PySem.W.Frag) (mg : Str → Option Value) (d : Df) (a : Addr) (fd : FuncData) : Prop where
  F : FunD K d.name d.name (defArgs d.st) (defBody d.st) (defScope d.st) [] [] a fd
  g : mg d.name = some (.ref a)
  b : Binds K fd d.ps []
section
variable {P : Program} {w : World} {K : PySem.W.Frag} {mg : Str → Option Value} {base : Heap} {cls : Nat → Option Addr}
theorem VRs_len {α : List Addr} {H : Hp} : ∀ {ds : List D} {vs : List V}, VRs K α H ds vs → vs.length = ds.length := fun h => h.length
theorem start_rd {α : List Addr} {H : Hp} {N : List Str} {ds : List D} {vs : List V} (h : VRs K α H ds vs) : RepF K α H (L2.start N vs) (frame N.length ds) := by
  have hl := h.length
  refine ⟨by unfold L2.start frame; simp [hl], fun i d hd => ?_⟩
  unfold frame at hd
  unfold L2.start
  by_cases hi : i < ds.length
  · rw [List.getElem?_append_left (by simpa using hi), List.getElem?_map] at hd
    obtain ⟨e, he, hd⟩ := Option.map_eq_some_iff.mp hd
    cases hd
    obtain ⟨v, h1, h2⟩ := h.get he
    exact ⟨v, by rw [List.getElem?_append_left (by simp; omega), List.getElem?_map, h1]; rfl, h2⟩
  · rw [List.getElem?_append_right (by simp; omega)] at hd
    have := List.mem_of_getElem? hd
    simp at this
theorem run_ok {fs : List Fn} {fuel : Nat} {ds : List Df} {T : Tbl} (hd : ∀ (f : Nat) (d : Df), ds[f]? = some d → ∃ b, fs[f]? = some b ∧ DfOk T d b) (hs : ∀ (f : Nat) (d : Df), ds[f]? = some d → ∃ a fd, Stand K mg d a fd)
    (hn : ∀ (x : Str) (f : Nat), T.fns.lookup x = some f → ∃ d, ds[f]? = some d ∧ d.name = x) (hg : ∀ (x : Str) (d : D), T.gls.lookup x = some d → ∃ u v, mg x = some u ∧ RelV v u ∧ ∀ α H, VR K α H d v) (hf : ∀ (x : Str), T.free.contains x = true → mg x = none) :
    ∀ (k f : Nat) (d : Df) (a : Addr) (fd : FuncData), ds[f]? = some d → Stand K mg d a fd → FnOk P w K mg base (L2.CX P w) k a fd d.ps (spD K cls ((runN fs fuel k).fn f))
  | 0, f, d, a, fd, _, _ => by
    have no : ∀ vs H Q E, ¬ spD K cls ((runN fs fuel 0).fn f) vs H Q E := fun vs H Q E ⟨_, _, _, _, _, p⟩ => p
    exact ⟨fun vs H Q E h => absurd h (no vs H Q E), fun A outer s H args us vs Q E _ _ _ _ h => absurd h (no vs H Q E)⟩
  | k + 1, f, d, a, fd, he, st => by
    obtain ⟨b, hb, D⟩ := hd f d he
    have hrun : (runN fs fuel (k + 1)).fn f = runD (runN fs fuel k) b.n b.np b.b := by
      funext xs h
      show (match fs[f]? with | some d => runD (runN fs fuel k) d.n d.np d.b xs h | none => .bad) = _
      rw [hb]
    rw [hrun]
    refine st.F.ok D.sc (fun vs H Q E ⟨α, xs, h, rp, rv, p⟩ => ?_) fun cdv A outer s H vs Q E hr ⟨α, xs, h, rp, rv, p⟩ => ?_
    · rw [rv.length, ← D.np]
      by_cases hl : xs.length = b.np
      · exact hl
      · have e : runD (runN fs fuel k) b.n b.np b.b xs h = .bad := if_neg hl
        rw [e] at p; exact p.elim
    · have hl : xs.length = b.np := by
        by_cases hl : xs.length = b.np
        · exact hl
        · have e : runD (runN fs fuel k) b.n b.np b.b xs h = .bad := if_neg hl
          rw [e] at p; exact p.elim
      have ok : Ok (cxOf (L2.CX P w) P w K mg base d.N d.name (defScope d.st) a cdv A outer s H E) (ccOf T d) (runN fs fuel k) cls (fun cls d _ H => E cls d H) k :=
        { hN := rfl, nd := D.sc.nd, sc := rfl, calm := rfl, po := passes_of rfl, tk := takes_of rfl rfl rfl rfl, room := hr
          asn := fun x hx => by
            have hx0 : x ∈ (ccOf T d).asn := by simpa using hx
            have hx' : x ∈ asnF d.N (defScope d.st) := hx0
            unfold asnF at hx'
            have h2 := (List.mem_filter.mp hx').2
            refine ⟨?_, .inl rfl⟩
            simp only [Bool.or_eq_true] at h2
            rcases h2 with h2 | h2
            · unfold locB at h2
              split at h2
              · rename_i q; exact .inl q
              · cases h2
            · unfold cellB at h2
              split at h2
              · rename_i q; exact .inr q
              · cases h2
          fa := ⟨fun x g hx => by
            obtain ⟨d2, h1, rfl⟩ := hn x g hx
            obtain ⟨a2, fd2, s2⟩ := hs g d2 h1
            exact ⟨a2, fd2, d2.ps, s2.g, s2.F.kp, s2.b, run_ok hd hs hn hg hf k g d2 a2 fd2 h1 s2⟩, hg, hf⟩ }
      refine ⟨_, (sndS (sndN 40) 80).ss _ _ _ D.cp _ _ ok, ?_⟩
      refine ⟨α, frame b.n xs, h, rp, by rw [D.n]; exact start_rd rv, ?_⟩
      have e : runD (runN fs fuel k) b.n b.np b.b xs h = (match evSs (runN fs fuel k) b.b (frame b.n xs) h with
        | .nx _ h => .ok .non h
        | .rt d h => .ok d h
        | .exc c fs _ h => .exc c fs h
        | _ => .bad) := if_pos hl
      rw [e] at p
      cases hv : evSs (runN fs fuel k) b.b (frame b.n xs) h with
      | nx δ h' => rw [hv] at p; exact fun α' σ' H' e1 r1 f1 => p α' H' e1 r1 _ rfl
      | rt d h' => rw [hv] at p; exact fun α' H' v e1 r1 hv => p α' H' e1 r1 v hv
      | exc c fs δ h' => rw [hv] at p; exact fun α' σ' H' cv dd e1 r1 f1 x1 => p α' H' cv dd e1 r1 x1
      | brk _ _ => rw [hv] at p; exact p.elim
      | cnt _ _ => rw [hv] at p; exact p.elim
      | bad => rw [hv] at p; exact p.elim
end
end FD

set_option Elab.async false
set_option linter.all false
set_option maxRecDepth 100000
set_option maxHeartbeats 1000000
/-! The D layer, 16: the head. -/
namespace FD
open PySem PySem.Spec PyProof.Rows L2
inductive Oks (T : Tbl) : List Df → List Fn → Prop where
  | nil : Oks T [] []
  | cons {d : Df} {b : Fn} {ds : List Df} {fs : List Fn} (h : DfOk T d b) (t : Oks T ds fs) : Oks T (d :: ds) (b :: fs)
theorem Oks.get {T : Tbl} {ds : List Df} {fs : List Fn} (h : Oks T ds fs) : ∀ (f : Nat) (d : Df), ds[f]? = some d → ∃ b, fs[f]? = some b ∧ DfOk T d b := by
  induction h with
  | nil => intro f d h; simp at h
  | cons h t ih =>
    intro f d hd
    cases f with
    | zero => simp at hd; subst hd; exact ⟨_, rfl, h⟩
    | succ f => simp at hd; simpa using ih f d hd
def BindOk (d : Df) : Prop := ∀ (kV doc pm : Value) (an : Option Addr) (cdv ct : Value) (us : List Value), us.length = d.ps.length → bindArgs (PySem.W.fnOf d.name d.name (defArgs d.st) (defBody d.st) (defScope d.st) .none kV doc pm an cdv ct) ⟨us, []⟩ = pure (d.ps.zip us)
def fnsB (fns : List (Str × Nat)) (ds : List Df) : Bool := fns.all fun p => match ds[p.2]? with
  | some d => decide (d.name = p.1)
  | none => false
theorem look_mem {β : Type} {x : Str} {v : β} : ∀ {l : List (Str × β)}, l.lookup x = some v → (x, v) ∈ l
  | [], h => by cases h
  | (y, w) :: l, h => by
    rw [List.lookup_cons] at h
    split at h
    · rename_i e
      cases h
      rw [beq_iff_eq.mp e]
      exact List.mem_cons_self
    · exact List.mem_cons_of_mem _ (look_mem h)
/-- a constant of the module -/
inductive Gc where
  | int (x : Str) (i : Int)
  | str (x : Str) (z : List Nat)
def Gc.pair : Gc → Str × D
  | .int x i => (x, .int i)
  | .str x z => (x, .str z)
def Gc.fa : Gc → He.Fa
  | .int x i => .int x i
  | .str x z => .str x (toS z)
def faOf (ds : List Df) (gs : List Gc) (free : List Str) (more : List He.Fa) : List He.Fa := ds.map (fun d => .glo d.name) ++ (free.map .free ++ (gs.map Gc.fa ++ more))
def dfOf (d : Df) : He.DefD := ⟨(d.name, none), d.name, d.name, defArgs d.st, defBody d.st, defScope d.st, [], []⟩
def tblOf (ds : List (Str × Nat)) (gs : List Gc) (free : List Str) : Tbl := ⟨ds, gs.map Gc.pair, free⟩
section
variable {P : Program} {w : World} {K : PySem.W.Frag} {mg : Str → Option Value} {h : Heap}
theorem fact_in {fa : List He.Fa} {fn : List He.DefD} (c : He.SaysD fa fn K) {f : He.Fa} (hf : f ∈ fa) : f.ok K = true := by
  obtain ⟨i, hi, e⟩ := List.mem_iff_getElem.mp hf
  exact c.fact i (by rw [List.getElem?_eq_getElem hi, e])
theorem def_in {fa : List He.Fa} {fn : List He.DefD} (c : He.SaysD fa fn K) {d : He.DefD} (hf : d ∈ fn) : ∃ fd, FunD K d.name d.qual d.params d.body d.scope (d.dvs K) (d.kws K) (He.fAd K d.at_) fd := by
  obtain ⟨i, hi, e⟩ := List.mem_iff_getElem.mp hf
  exact c.def_ i (by rw [List.getElem?_eq_getElem hi, e])
theorem stand_of {ds : List Df} {gs : List Gc} {free : List Str} {more : List He.Fa} (X : K.In h) (G : h.Ns mainGlobals mg) (c : He.SaysD (faOf ds gs free more) (ds.map dfOf) K) (hb : ∀ d ∈ ds, BindOk d) {d : Df} (hd : d ∈ ds) :
    ∃ fd, Stand K mg d (He.ga K d.name) fd := by
  obtain ⟨fd, F⟩ := def_in c (List.mem_map_of_mem (f := dfOf) hd)
  have F' : FunD K d.name d.name (defArgs d.st) (defBody d.st) (defScope d.st) [] [] (He.ga K d.name) fd := F
  refine ⟨fd, F', He.glo_ok X G (fact_in c ?_), F'.bindsN (hb d hd)⟩
  exact List.mem_append_left _ (List.mem_map_of_mem (f := fun d : Df => He.Fa.glo d.name) hd)
theorem glob_of {ds : List Df} {gs : List Gc} {free : List Str} {more : List He.Fa} (X : K.In h) (G : h.Ns mainGlobals mg) (c : He.SaysD (faOf ds gs free more) (ds.map dfOf) K) (x : Str) (d : D) (hx : (gs.map Gc.pair).lookup x = some d) :
    ∃ u v, mg x = some u ∧ RelV v u ∧ ∀ α H, VR K α H d v := by
  obtain ⟨g, hg, e⟩ := List.mem_map.mp (look_mem hx)
  have f1 : g.fa.ok K = true := fact_in c (List.mem_append_right _ (List.mem_append_right _ (List.mem_append_left _ (List.mem_map_of_mem hg))))
  cases g with
  | int y i =>
    cases e
    obtain ⟨t, ht⟩ := He.int_ok X G f1
    exact ⟨_, .int i, ht, ⟨t, rfl⟩, fun _ _ => rfl⟩
  | str y z =>
    cases e
    obtain ⟨t, ht⟩ := He.str_ok X G f1
    exact ⟨_, .str (toS z), ht, ⟨t, rfl⟩, fun _ _ => rfl⟩
theorem free_of {ds : List Df} {gs : List Gc} {free : List Str} {more : List He.Fa} (X : K.In h) (G : h.Ns mainGlobals mg) (c : He.SaysD (faOf ds gs free more) (ds.map dfOf) K) (x : Str) (hx : free.contains x = true) : mg x = none := by
  have hx' : x ∈ free := by simpa using hx
  exact He.free_ok X G (fact_in c (List.mem_append_right _ (List.mem_append_left _ (List.mem_map_of_mem hx'))))
theorem facts_ok {cls : Nat → Option Addr} {ds : List Df} {fs : List Fn} {fns : List (Str × Nat)} {gs : List Gc} {free : List Str} {more : List He.Fa} {fuel k i : Nat} {dl : Df} {f : Addr} (hd : Oks (tblOf fns gs free) ds fs) (hb : ∀ d ∈ ds, BindOk d) (hn : fnsB fns ds = true)
    (hl : ds[i]? = some dl) (h1 : dl.name = ("law" : Str)) (h2 : dl.ps = [("script" : Str)]) (X : K.In h) (G : h.Ns mainGlobals mg) (hfa : mg ("law" : Str) = some (.ref f)) (c : He.SaysD (faOf ds gs free more) (ds.map dfOf) K) :
    ∃ fd : FuncData, (∀ (s : Shared) (v : Value), BindsTo s fd ⟨[v], []⟩ [(("script" : Str), v)]) ∧ ∀ base : Heap, K.In base → base.Ns mainGlobals mg → FnOk P w K mg base (L2.CX P w) k f fd [("script" : Str)] (spD K cls ((runN fs fuel k).fn i)) := by
  obtain ⟨fd, st⟩ := stand_of X G c hb (List.mem_of_getElem? hl)
  have e := st.g
  rw [h1] at e
  have e2 := hfa.symm.trans e
  cases e2
  refine ⟨fd, fun s v => ?_, fun base _ _ => ?_⟩
  · have := FunD.bindsA (ps := dl.ps) st.F (hb _ (List.mem_of_getElem? hl)) s [v] (by rw [h2]; rfl)
    rw [h2] at this
    exact this
  · rw [← h2]
    rw [← h1]
    exact run_ok (T := tblOf fns gs free) hd.get (fun g d hg => ⟨_, stand_of X G c hb (List.mem_of_getElem? hg)⟩) (fun x g hx => by
      have hm := look_mem (l := fns) hx
      have := List.all_eq_true.mp hn _ hm
      dsimp only at this
      split at this
      · rename_i d hd; exact ⟨d, hd, of_decide_eq_true this⟩
      · cases this) (glob_of X G c) (free_of X G c) k i dl _ fd hl st
theorem VRs_int {α : List Addr} {H : Hp} : ∀ ns : List Int, VRs K α H (ns.map D.int) (ns.map V.int)
  | [] => rfl
  | n :: ns => ⟨.int n, ns.map V.int, rfl, rfl, VRs_int ns⟩
/-- a law's promise: no exception leaves -/
def spN (K : PySem.W.Frag) (cls : Nat → Option Addr) (f : List D → DH → Out D) : Sp := fun vs H Q _ => spD K cls f vs H Q fun _ _ _ => False
theorem law_sp {E : XK} {cls : Nat → Option Addr} {fs : List Fn} {fuel k i : Nat} {H : Hp} {a : Addr} {ns : List Int} (hO : Only H) (hS : SqL K H a (ns.map V.int)) (hr : ∃ h', (runN fs fuel k).fn i [.fl (ns.map .int)] [] = .ok (.bl true) h') :
    spN K cls ((runN fs fuel k).fn i) [.ref a] H (fun v _ => v = .bl true) E := by
  obtain ⟨h', hr⟩ := hr
  have fz : FzL K H a (ns.map V.int) := by
    rcases hS with (h | h) | h
    · rcases hO a with z | ⟨o, xs, z⟩
      · rw [z] at h; cases h
      · rw [z] at h; cases h
    · exact .inl h
    · exact .inr h
  refine ⟨[], [.fl (ns.map .int)], [], ⟨rfl, List.nodup_nil, fun n o h => by simp at h⟩, ⟨.ref a, [], rfl, ⟨a, _, rfl, fz, VRs_int ns⟩, rfl⟩, ?_⟩
  rw [hr]
  exact fun α' H' _ _ v hv => hv
theorem no_exc {H : Hp} {outer : List Env} {s : Shared} {e : Value} {s' : Shared} (h : L2.CX P w outer H s (fun _ _ _ => False) e s') : False := by
  obtain ⟨_, _, _, _, _, _, _, _, _, _, _, _, z⟩ := h
  exact z
/-- no exception leaves -/
def CXn : CXT := fun _ _ _ _ _ _ => False
theorem noX {base : Heap} {k : Nat} {f : Addr} {fd : FuncData} {ps : List Str} {cls : Nat → Option Addr} {g : List D → DH → Out D} (F : FnOk P w K mg base (L2.CX P w) k f fd ps (spD K cls g)) : FnOk P w K mg base CXn k f fd ps (spN K cls g) :=
  ⟨fun vs H Q E h => F.len _ _ _ _ h, fun A outer s H args us vs Q E hr he hb hv hs => codeAny_mono (F.run A outer s H args us vs Q _ hr he hb hv hs) fun r s' h => by
    unfold L2.CR at h ⊢
    split at h
    · exact h
    · exact h
    · exact no_exc h⟩
end
end FD

set_option autoImplicit false
/-! The D layer: what proofs about the evaluator lean on. -/
namespace FD
@[simp] theorem bind_ok {α β : Type} {a : α} {h : DH} {f : α → DH → Out β} : (Out.ok a h).bind f = f a h := (rfl)
@[simp] theorem bind_bad {α β : Type} {f : α → DH → Out β} : (Out.bad : Out α).bind f = .bad := (rfl)
@[simp] theorem opt_some {α : Type} {a : α} {h : DH} : Out.opt (some a) h = .ok a h := (rfl)
@[simp] theorem sbind_ok {α : Type} {a : α} {h : DH} {σ : Fr} {f : α → DH → SO} : (Out.ok a h).sbind σ f = f a h := (rfl)
@[simp] theorem noexc_ok {α : Type} {a : α} {h : DH} : (Out.ok a h).noexc = .ok a h := (rfl)
@[simp] theorem seq_nx {σ : Fr} {h : DH} {k : Fr → DH → SO} : (SO.nx σ h).seq k = k σ h := (rfl)
@[simp] theorem seq_rt {d : D} {h : DH} {k : Fr → DH → SO} : (SO.rt d h).seq k = .rt d h := (rfl)
@[simp] theorem seq_brk {σ : Fr} {h : DH} {k : Fr → DH → SO} : (SO.brk σ h).seq k = .brk σ h := (rfl)
@[simp] theorem seq_cnt {σ : Fr} {h : DH} {k : Fr → DH → SO} : (SO.cnt σ h).seq k = .cnt σ h := (rfl)
@[simp] theorem loop_nx {σ : Fr} {h : DH} {k : Fr → DH → SO} : (SO.nx σ h).loop k = k σ h := (rfl)
@[simp] theorem loop_cnt {σ : Fr} {h : DH} {k : Fr → DH → SO} : (SO.cnt σ h).loop k = k σ h := (rfl)
@[simp] theorem loop_brk {σ : Fr} {h : DH} {k : Fr → DH → SO} : (SO.brk σ h).loop k = .nx σ h := (rfl)
@[simp] theorem loop_rt {d : D} {h : DH} {k : Fr → DH → SO} : (SO.rt d h).loop k = .rt d h := (rfl)
@[simp] theorem frame_eq {n : Nat} {xs : List D} : frame n xs = xs.map some ++ List.replicate (n - xs.length) none := (rfl)
@[simp] theorem len_nil : Ts.len .nil = 0 := (rfl)
@[simp] theorem len_cons {t : T} {ts : Ts} : Ts.len (.cons t ts) = Ts.len ts + 1 := (rfl)
@[simp] theorem wipe_nil {σ : Fr} : wipeF σ [] = σ := (rfl)
@[simp] theorem wipe_cons {σ : Fr} {v : Nat} {vs : List Nat} : wipeF σ (v :: vs) = (wipeF σ vs).set v none := (rfl)
/-! ### the evaluator by places -/
section
variable {C : Cn} {σ : Fr} {h : DH}
@[simp] theorem v_sl {i : Nat} : (ev C (.sl i)).v σ h = match σ[i]? with | some (some d) => .ok d h | _ => .bad := (rfl)
@[simp] theorem v_c {d : D} : (ev C (.c d)).v σ h = .ok d h := (rfl)
@[simp] theorem v_bin {o : BOp} {a b : E} : (ev C (.bin o a b)).v σ h = ((ev C a).v σ h).bind fun x h => ((ev C b).v σ h).bind fun y h => binD h o x y := (rfl)
@[simp] theorem v_neg {a : E} : (ev C (.neg a)).v σ h = ((ev C a).v σ h).bind fun x h => match x with | .int i => .ok (.int (-i)) h | _ => .bad := (rfl)
@[simp] theorem v_cmp {o : COp} {a b : E} : (ev C (.cmp o a b)).v σ h = ((ev C a).v σ h).bind fun x h => ((ev C b).v σ h).bind fun y h => .opt ((cmpD h o x y).map .bl) h := (rfl)
@[simp] theorem v_is {p : Bool} {a : E} {s : Si} : (ev C (.is_ p a s)).v σ h = ((ev C a).v σ h).bind fun x h => .ok (.bl (p == isD x s)) h := (rfl)
@[simp] theorem v_not {a : E} : (ev C (.not_ a)).v σ h = ((ev C a).v σ h).bind fun x h => .opt ((truD h x).map fun b => .bl (!b)) h := (rfl)
@[simp] theorem v_and {a b : E} : (ev C (.and_ a b)).v σ h = ((ev C a).v σ h).bind fun x h => match truD h x with | some true => (ev C b).v σ h | some false => .ok x h | none => .bad := (rfl)
@[simp] theorem v_or {a b : E} : (ev C (.or_ a b)).v σ h = ((ev C a).v σ h).bind fun x h => match truD h x with | some true => .ok x h | some false => (ev C b).v σ h | none => .bad := (rfl)
@[simp] theorem v_ite {t a b : E} : (ev C (.ite t a b)).v σ h = ((ev C t).t σ h).bind fun c h => if c then (ev C a).v σ h else (ev C b).v σ h := (rfl)
@[simp] theorem v_tup {es : Es} : (ev C (.tup es)).v σ h = (evs C es σ h).bind fun xs h => if xs.length ≤ SL then .ok (.tup xs) h else .bad := (rfl)
@[simp] theorem v_ofL {l : L} : (ev C (.ofL l)).v σ h = (evL C l σ h).bind fun xs h => .ok (.ref h.length) (h ++ [.lst xs]) := (rfl)
@[simp] theorem v_ix {a b : E} : (ev C (.ix a b)).v σ h = ((ev C a).v σ h).bind fun x h => ((ev C b).v σ h).bind fun y h => .opt (ixD h x y) h := (rfl)
@[simp] theorem v_ixL {l : L} {b : E} : (ev C (.ixL l b)).v σ h = (evL C l σ h).bind fun xs h => ((ev C b).v σ h).bind fun y h => match y with | .int i => .opt (atI xs i) h | _ => .bad := (rfl)
@[simp] theorem v_sli {a : E} {lo hi : Oe} : (ev C (.sli a lo hi)).v σ h = ((ev C a).v σ h).bind fun x h => (evO C lo σ h).bind fun l h => (evO C hi σ h).bind fun u h => sliD h x l u := (rfl)
@[simp] theorem v_call {f : Nat} {es : Es} : (ev C (.call f es)).v σ h = (evs C es σ h).bind fun xs h => C.fn f xs h := (rfl)
@[simp] theorem v_isi {a : E} {t : Ty} : (ev C (.isi a t)).v σ h = ((ev C a).v σ h).bind fun x h => .opt ((isiD h x t).map .bl) h := (rfl)
@[simp] theorem v_bi {b : Bi} {a : E} : (ev C (.bi b a)).v σ h = ((ev C a).v σ h).bind fun x h => .opt (biD h b x) h := (rfl)
@[simp] theorem v_biL {b : Bl} {l : L} : (ev C (.biL b l)).v σ h = (evL C l σ h).bind fun xs h => .opt (blD b xs) h := (rfl)
@[simp] theorem v_mt {m : Mt} {o : E} {es : Es} : (ev C (.mt m o es)).v σ h = ((ev C o).v σ h).bind fun x h => if mtK h m x then (evs C es σ h).bind fun ys h => mtD h m x ys else .bad := (rfl)
@[simp] theorem v_mtL {m : Ml} {o : E} {l : L} : (ev C (.mtL m o l)).v σ h = ((ev C o).v σ h).bind fun x h => if mlK m x then (evL C l σ h).bind fun ys h => .opt (mlD m x ys) h else .bad := (rfl)
@[simp] theorem v_repl {c : List Nat} {o : E} {ps : List (Nat × List Nat)} : (ev C (.repl c o ps)).v σ h = ((ev C o).v σ h).bind fun x h => match x with
    | .str s => match replD ps s with
      | some r => if c.length + r.length ≤ SL then .ok (.str (c ++ r)) h else .bad
      | none => .bad
    | _ => .bad := (rfl)
@[simp] theorem t_sl {i : Nat} : (ev C (.sl i)).t σ h = ((ev C (.sl i)).v σ h).bind fun x h => .opt (truD h x) h := (rfl)
@[simp] theorem t_c {d : D} : (ev C (.c d)).t σ h = .opt (truD h d) h := (rfl)
@[simp] theorem t_cmp {o : COp} {a b : E} : (ev C (.cmp o a b)).t σ h = ((ev C (.cmp o a b)).v σ h).bind fun x h => .opt (truD h x) h := (rfl)
@[simp] theorem t_is {p : Bool} {a : E} {s : Si} : (ev C (.is_ p a s)).t σ h = ((ev C (.is_ p a s)).v σ h).bind fun x h => .opt (truD h x) h := (rfl)
@[simp] theorem t_isi {a : E} {t : Ty} : (ev C (.isi a t)).t σ h = ((ev C (.isi a t)).v σ h).bind fun x h => .opt (truD h x) h := (rfl)
@[simp] theorem t_call {f : Nat} {es : Es} : (ev C (.call f es)).t σ h = ((ev C (.call f es)).v σ h).bind fun x h => .opt (truD h x) h := (rfl)
@[simp] theorem t_bin {o : BOp} {a b : E} : (ev C (.bin o a b)).t σ h = ((ev C (.bin o a b)).v σ h).bind fun x h => .opt (truD h x) h := (rfl)
@[simp] theorem t_ix {a b : E} : (ev C (.ix a b)).t σ h = ((ev C (.ix a b)).v σ h).bind fun x h => .opt (truD h x) h := (rfl)
@[simp] theorem t_bi {b : Bi} {a : E} : (ev C (.bi b a)).t σ h = ((ev C (.bi b a)).v σ h).bind fun x h => .opt (truD h x) h := (rfl)
@[simp] theorem t_biL {b : Bl} {l : L} : (ev C (.biL b l)).t σ h = ((ev C (.biL b l)).v σ h).bind fun x h => .opt (truD h x) h := (rfl)
@[simp] theorem t_not {a : E} : (ev C (.not_ a)).t σ h = ((ev C a).t σ h).bind fun c h => .ok (!c) h := (rfl)
@[simp] theorem t_and {a b : E} : (ev C (.and_ a b)).t σ h = ((ev C a).t σ h).bind fun c h => if c then (ev C b).t σ h else .ok false h := (rfl)
@[simp] theorem t_or {a b : E} : (ev C (.or_ a b)).t σ h = ((ev C a).t σ h).bind fun c h => if c then .ok true h else (ev C b).t σ h := (rfl)
@[simp] theorem t_ite {t a b : E} : (ev C (.ite t a b)).t σ h = ((ev C t).t σ h).bind fun c h => if c then (ev C a).t σ h else (ev C b).t σ h := (rfl)
@[simp] theorem es_nil : evs C .nil σ h = .ok [] h := (rfl)
@[simp] theorem es_cons {e : E} {es : Es} : evs C (.cons e es) σ h = ((ev C e).v σ h).bind fun x h => (evs C es σ h).bind fun xs h => .ok (x :: xs) h := (rfl)
@[simp] theorem o_none : evO C .none σ h = .ok none h := (rfl)
@[simp] theorem o_some {e : E} : evO C (.some e) σ h = ((ev C e).v σ h).bind fun x h => match x with | .int i => .ok (some i) h | _ => .bad := (rfl)
@[simp] theorem l_disp {es : Es} : evL C (.disp es) σ h = (evs C es σ h).bind fun xs h => if xs.length ≤ SL then .ok xs h else .bad := (rfl)
/-- a comprehension's walk -/
def cpB (C : Cn) (elt : E) (tg : T) (cond : Oe) (σ : Fr) (s : Src) (h : DH) : Out (List D) := (compS C.fuel (cmpT (ev C elt).v (asT C tg) (tsO C cond) σ) s h).noexc
@[simp] theorem l_comp {elt : E} {vs : List Nat} {tg : T} {it : It} {cond : Oe} : evL C (.comp elt vs tg it cond) σ h = (evI C it σ h).bind fun s h => cpB C elt tg cond (wipeF σ vs) s h := (rfl)
@[simp] theorem i_e {a : E} : evI C (.e a) σ h = ((ev C a).v σ h).bind fun x h => .opt (srcD h x) h := (rfl)
@[simp] theorem i_l {l : L} : evI C (.l l) σ h = (evL C l σ h).bind fun xs h => .ok (.items xs) h := (rfl)
@[simp] theorem i_r1 {a : E} : evI C (.r1 a) σ h = ((ev C a).v σ h).bind fun x h => match x with | .int j => if -lim ≤ j ∧ j < lim then .ok (.items (rngL 0 j.toNat)) h else .bad | _ => .bad := (rfl)
@[simp] theorem i_r2 {a b : E} : evI C (.r2 a b) σ h = ((ev C a).v σ h).bind fun x h => ((ev C b).v σ h).bind fun y h => match x, y with | .int i, .int j => if -lim ≤ i ∧ i < lim ∧ -lim ≤ j ∧ j < lim then .ok (.items (rngL i (j - i).toNat)) h else .bad | _, _ => .bad := (rfl)
@[simp] theorem t_slot {i : Nat} {d : D} : asT C (.sl i) d σ h = .ok (σ.set i (some d)) h := (rfl)
@[simp] theorem t_tuple {ts : Ts} {xs : List D} : asT C (.tup ts) (.tup xs) σ h = if xs.length = ts.len then asTs C ts xs σ h else .bad := (rfl)
@[simp] theorem t_sub {a b : E} {d : D} : asT C (.sub a b) d σ h = ((ev C a).v σ h).bind fun x h => ((ev C b).v σ h).bind fun y h => match x, y with
    | .ref n, .int i => match h[n]? with
      | some (.lst xs) => match ixN xs.length i with
        | some j => .ok σ (h.set n (.lst (xs.set j d)))
        | none => .bad
      | _ => .bad
    | _, _ => .bad := (rfl)
@[simp] theorem ts_nil : asTs C .nil [] σ h = .ok σ h := (rfl)
@[simp] theorem ts_cons {t : T} {ts : Ts} {x : D} {xs : List D} : asTs C (.cons t ts) (x :: xs) σ h = (asT C t x σ h).bind fun σ h => (asTs C ts xs σ h).noexc := (rfl)
@[simp] theorem c_none : tsO C .none σ h = .ok true h := (rfl)
@[simp] theorem c_some {e : E} : tsO C (.some e) σ h = (ev C e).t σ h := (rfl)
@[simp] theorem s_asg {t : T} {e : E} : evS C (.asg t e) σ h = ((ev C e).v σ h).sbind σ fun d h => (asT C t d σ h).sbind σ fun σ h => .nx σ h := (rfl)
@[simp] theorem s_aug {i : Nat} {o : BOp} {e : E} : evS C (.aug i o e) σ h = match σ[i]? with
    | some (some x) => ((ev C e).v σ h).sbind σ fun y h => (augD h o x y).sbind σ fun z h => .nx (σ.set i (some z)) h
    | _ => .bad := (rfl)
@[simp] theorem s_ex {e : E} : evS C (.ex e) σ h = ((ev C e).v σ h).sbind σ fun _ h => .nx σ h := (rfl)
@[simp] theorem s_ret {e : E} : evS C (.ret e) σ h = ((ev C e).v σ h).sbind σ fun d h => .rt d h := (rfl)
@[simp] theorem s_retN : evS C .retN σ h = .rt .non h := (rfl)
@[simp] theorem s_ite {t : E} {a b : Ss} : evS C (.ite t a b) σ h = ((ev C t).t σ h).sbind σ fun c h => if c then evSs C a σ h else evSs C b σ h := (rfl)
/-- a loop that is walked -/
def frB (C : Cn) (t : T) (b : Ss) (s : Src) (σ : Fr) (h : DH) : SO := frS C.fuel (fun d σ h => (asT C t d σ h).sbind σ fun σ h => evSs C b σ h) s σ h
@[simp] theorem s_fr {t : T} {it : It} {b : Ss} : evS C (.fr t it b) σ h = (evI C it σ h).sbind σ fun s h => frB C t b s σ h := (rfl)
def whB (C : Cn) (t : E) (b : Ss) (σ : Fr) (h : DH) : SO := whl (ev C t).t (evSs C b) C.fuel σ h
@[simp] theorem s_whl {t : E} {b : Ss} : evS C (.whl t b) σ h = whB C t b σ h := (rfl)
@[simp] theorem s_brk : evS C .brk σ h = .brk σ h := (rfl)
@[simp] theorem s_cnt : evS C .cnt σ h = .cnt σ h := (rfl)
@[simp] theorem s_pass : evS C .pass σ h = .nx σ h := (rfl)
@[simp] theorem s_never : evS C .never σ h = .bad := (rfl)
@[simp] theorem ss_nil : evSs C .nil σ h = .nx σ h := (rfl)
@[simp] theorem ss_cons {s : S} {ss : Ss} : evSs C (.cons s ss) σ h = (evS C s σ h).seq (evSs C ss) := (rfl)
end
/-! ### what is wanted behind it -/
def Out.sat {α : Type} (o : Out α) (Z : α → DH → Prop) : Prop := match o with | .ok a h => Z a h | _ => False
def SO.sat (o : SO) (N : Fr → DH → Prop) (R : D → DH → Prop) (B Ct : Fr → DH → Prop) : Prop := match o with
  | .nx σ h => N σ h | .rt d h => R d h | .brk σ h => B σ h | .cnt σ h => Ct σ h | _ => False
section
variable {α β : Type} {N B Ct : Fr → DH → Prop} {R : D → DH → Prop} {σ : Fr} {h : DH}
@[simp] theorem sat_nx : (SO.nx σ h).sat N R B Ct = N σ h := (rfl)
@[simp] theorem sat_rt {d : D} : (SO.rt d h).sat N R B Ct = R d h := (rfl)
@[simp] theorem sat_brk : (SO.brk σ h).sat N R B Ct = B σ h := (rfl)
@[simp] theorem sat_cnt : (SO.cnt σ h).sat N R B Ct = Ct σ h := (rfl)
@[simp] theorem sat_bad : SO.bad.sat N R B Ct = False := (rfl)
@[simp] theorem osat_ok {a : α} {Z : α → DH → Prop} : (Out.ok a h).sat Z = Z a h := (rfl)
@[simp] theorem osat_bad {Z : α → DH → Prop} : (Out.bad : Out α).sat Z = False := (rfl)
theorem sat_seq {o : SO} {k : Fr → DH → SO} (p : o.sat (fun σ h => (k σ h).sat N R B Ct) R B Ct) : (o.seq k).sat N R B Ct := by cases o <;> exact p
theorem SO.sat.mono {o : SO} {N' B' Ct' : Fr → DH → Prop} {R' : D → DH → Prop} (p : o.sat N R B Ct) (a : ∀ σ h, N σ h → N' σ h) (b : ∀ d h, R d h → R' d h) (c : ∀ σ h, B σ h → B' σ h) (d : ∀ σ h, Ct σ h → Ct' σ h) : o.sat N' R' B' Ct' := by
  cases o <;> first | exact a _ _ p | exact b _ _ p | exact c _ _ p | exact d _ _ p | exact p
theorem sat_bind {o : Out α} {f : α → DH → Out β} {Z : β → DH → Prop} (p : o.sat fun a h => (f a h).sat Z) : (o.bind f).sat Z := by cases o <;> exact p
theorem sat_sbind {o : Out α} {f : α → DH → SO} (p : o.sat fun a h => (f a h).sat N R B Ct) : (o.sbind σ f).sat N R B Ct := by cases o <;> exact p
theorem Out.sat.mono {o : Out α} {Z Z' : α → DH → Prop} (p : o.sat Z) (m : ∀ a h, Z a h → Z' a h) : o.sat Z' := by cases o <;> first | exact m _ _ p | exact p
/-- a call -/
theorem sat_run {C : Cn} {n np : Nat} {b : Ss} {xs : List D} {Z : D → DH → Prop} (hl : xs.length = np) (p : (evSs C b (frame n xs) h).sat (fun _ h => Z .non h) Z (fun _ _ => False) (fun _ _ => False)) : (runD C n np b xs h).sat Z := by
  unfold runD
  rw [if_pos hl]
  cases e : evSs C b (frame n xs) h <;> rw [e] at p <;> exact p
theorem fn_eq {fs : List Fn} {fuel k f : Nat} {xs : List D} {d : Fn} (e : fs[f]? = some d) : (runN fs fuel (k + 1)).fn f xs h = runD (runN fs fuel k) d.n d.np d.b xs h := by
  show (match fs[f]? with | some d => runD (runN fs fuel k) d.n d.np d.b xs h | none => .bad) = _
  rw [e]
theorem sat_fn {fs : List Fn} {fuel k f : Nat} {xs : List D} {d : Fn} {Z : D → DH → Prop} (e : fs[f]? = some d) (hl : xs.length = d.np) (p : (evSs (runN fs fuel k) d.b (frame d.n xs) h).sat (fun _ h => Z .non h) Z (fun _ _ => False) (fun _ _ => False)) : ((runN fs fuel (k + 1)).fn f xs h).sat Z := by
  rw [fn_eq e]; exact sat_run hl p
theorem sat_then {o : SO} {k : Fr → DH → SO} (M : Fr → DH → Prop) (p : o.sat M R B Ct) (q : ∀ σ h, M σ h → (k σ h).sat N R B Ct) : (o.seq k).sat N R B Ct := sat_seq (p.mono q (fun _ _ z => z) (fun _ _ z => z) (fun _ _ z => z))
/-- a loop over items: I by the number of turns done -/
theorem frI_sat {f : D → Fr → DH → SO} (I : Nat → Fr → DH → Prop) (ds : List D) (k : Nat) (h0 : I k σ h) (hs : ∀ i d σ h, ds[i]? = some d → I (k + i) σ h → (f d σ h).sat (I (k + i + 1)) R N (I (k + i + 1))) (he : ∀ σ h, I (k + ds.length) σ h → N σ h) : (frI f ds σ h).sat N R B Ct := by
  induction ds generalizing k σ h with
  | nil => exact he _ _ h0
  | cons d ds ih =>
    have p := hs 0 d σ h rfl h0
    show ((f d σ h).loop (frI f ds)).sat N R B Ct
    have next : ∀ σ h, I (k + 1) σ h → (frI f ds σ h).sat N R B Ct := fun σ h i => ih (k + 1) i (fun j d σ h e i => by
      have := hs (j + 1) d σ h (by simpa using e) (by rw [show k + (j + 1) = k + 1 + j by omega]; exact i)
      rw [show k + (j + 1) + 1 = k + 1 + j + 1 by omega] at this
      exact this) fun σ h i => he σ h (by rw [List.length_cons, show k + (ds.length + 1) = k + 1 + ds.length by omega]; exact i)
    cases e : f d σ h <;> rw [e] at p <;> first | exact next _ _ p | exact p
theorem frB_items {C : Cn} {t : T} {b : Ss} {ds : List D} (I : Nat → Fr → DH → Prop) (h0 : I 0 σ h) (hs : ∀ i d σ h, ds[i]? = some d → I i σ h → ((asT C t d σ h).sbind σ fun σ h => evSs C b σ h).sat (I (i + 1)) R N (I (i + 1))) (he : ∀ σ h, I ds.length σ h → N σ h) : (frB C t b (.items ds) σ h).sat N R B Ct :=
  frI_sat I ds 0 h0 (fun i d σ h e p => by rw [Nat.zero_add] at p ⊢; exact hs i d σ h e p) (fun σ h p => he σ h (by rw [Nat.zero_add] at p; exact p))
/-- while: I with a measure -/
theorem whl_sat {t : Fr → DH → Out Bool} {b : Fr → DH → SO} (I : Nat → Fr → DH → Prop) (hs : ∀ m σ h, I m σ h → (t σ h).sat fun c h => if c then (b σ h).sat (fun σ h => ∃ m', m' < m ∧ I m' σ h) R N (fun σ h => ∃ m', m' < m ∧ I m' σ h) else N σ h) : ∀ (m fu : Nat), m < fu → I m σ h → (whl t b fu σ h).sat N R B Ct := by
  intro m
  induction m using Nat.strongRecOn generalizing σ h with
  | _ m ih =>
    intro fu hf i
    cases fu with
    | zero => omega
    | succ fu =>
      have p := hs m σ h i
      unfold whl
      cases e : t σ h with
      | bad => rw [e] at p; exact p.elim
      | exc _ _ _ => rw [e] at p; exact p.elim
      | ok c h2 =>
        rw [e] at p
        cases c with
        | false => exact p
        | true =>
          have p2 : (b σ h2).sat (fun σ h => ∃ m', m' < m ∧ I m' σ h) R N (fun σ h => ∃ m', m' < m ∧ I m' σ h) := p
          show ((b σ h2).loop (whl t b fu)).sat N R B Ct
          cases e2 : b σ h2 <;> rw [e2] at p2 <;> first | (obtain ⟨m', hm, i'⟩ := p2; exact ih m' hm fu (by omega) i') | exact p2
theorem whB_sat {C : Cn} {t : E} {b : Ss} (I : Nat → Fr → DH → Prop) (m : Nat) (hm : m < C.fuel) (h0 : I m σ h) (hs : ∀ m σ h, I m σ h → ((ev C t).t σ h).sat fun c h => if c then (evSs C b σ h).sat (fun σ h => ∃ m', m' < m ∧ I m' σ h) R N (fun σ h => ∃ m', m' < m ∧ I m' σ h) else N σ h) : (whB C t b σ h).sat N R B Ct :=
  whl_sat I hs m C.fuel hm h0
/-- a comprehension over items: I by what is done and the list so far -/
theorem cpB_items {C : Cn} {elt : E} {tg : T} {cond : Oe} {ds : List D} {Z : List D → DH → Prop} (I : Nat → List D → DH → Prop) (h0 : I 0 [] h)
    (hs : ∀ i d acc h, ds[i]? = some d → I i acc h → (asT C tg d σ h).sat fun σ' h => (tsO C cond σ' h).sat fun b h => if b then ((ev C elt).v σ' h).sat fun y h => acc.length < SL ∧ I (i + 1) (acc ++ [y]) h else I (i + 1) acc h) (he : ∀ acc h, I ds.length acc h → Z acc h) : (cpB C elt tg cond σ (.items ds) h).sat Z := by
  have key : ∀ (ds' : List D) (k : Nat) (acc : List D) (h : DH), (∀ i d, ds'[i]? = some d → ds[k + i]? = some d) → k + ds'.length = ds.length → I k acc h → ((compI (cmpT (ev C elt).v (asT C tg) (tsO C cond) σ) ds' acc h).noexc).sat Z := by
    intro ds'
    induction ds' with
    | nil => intro k acc h _ hk i; exact he acc h (by rw [← hk]; exact i)
    | cons d ds' ih =>
      intro k acc h hd hk i
      have hd' : ∀ i e, ds'[i]? = some e → ds[(k + 1) + i]? = some e := fun i e q => by rw [show k + 1 + i = k + (i + 1) by omega]; exact hd (i + 1) e (by simpa using q)
      have hk' : k + 1 + ds'.length = ds.length := by rw [← hk, List.length_cons]; omega
      have p := hs k d acc h (hd 0 d rfl) i
      unfold compI
      unfold cmpT
      cases e1 : asT C tg d σ h with
      | bad => rw [e1] at p; exact p.elim
      | exc _ _ _ => rw [e1] at p; exact p.elim
      | ok σ' h1 =>
        rw [e1] at p
        have p : (tsO C cond σ' h1).sat fun b h => if b then ((ev C elt).v σ' h).sat fun y h => acc.length < SL ∧ I (k + 1) (acc ++ [y]) h else I (k + 1) acc h := p
        rw [bind_ok]
        cases e2 : tsO C cond σ' h1 with
        | bad => rw [e2] at p; exact p.elim
        | exc _ _ _ => rw [e2] at p; exact p.elim
        | ok b h2 =>
          rw [e2] at p
          rw [bind_ok]
          cases b with
          | false => exact ih (k + 1) acc h2 hd' hk' p
          | true =>
            have p : ((ev C elt).v σ' h2).sat fun y h => acc.length < SL ∧ I (k + 1) (acc ++ [y]) h := p
            rw [if_pos rfl]
            cases e3 : (ev C elt).v σ' h2 with
            | bad => rw [e3] at p; exact p.elim
            | exc _ _ _ => rw [e3] at p; exact p.elim
            | ok y h3 =>
              rw [e3] at p
              have p : acc.length < SL ∧ I (k + 1) (acc ++ [y]) h3 := p
              rw [bind_ok, bind_ok]
              show ((if acc.length < SL then compI (cmpT (ev C elt).v (asT C tg) (tsO C cond) σ) ds' (acc ++ [y]) h3 else .bad).noexc).sat Z
              rw [if_pos p.1]
              exact ih (k + 1) (acc ++ [y]) h3 hd' hk' p.2
  exact key ds 0 [] h (fun i d q => by rw [Nat.zero_add]; exact q) (Nat.zero_add _) h0
theorem rng_get : ∀ {n : Nat} {lo : Int} {i : Nat} {d : D}, (rngL lo n)[i]? = some d → i < n ∧ d = .int (lo + i)
  | 0, lo, i, d, e => by simp [rngL] at e
  | n + 1, lo, 0, d, e => by simp [rngL] at e; exact ⟨Nat.succ_pos _, by rw [← e]; simp⟩
  | n + 1, lo, i + 1, d, e => by
    simp only [rngL, List.getElem?_cons_succ] at e
    obtain ⟨h1, h2⟩ := rng_get e
    exact ⟨by omega, by rw [h2]; congr 1; omega⟩
theorem rng_len : ∀ {n : Nat} {lo : Int}, (rngL lo n).length = n
  | 0, _ => rfl
  | n + 1, lo => by simp [rngL, rng_len]
end
@[simp] theorem ite_sbind {α : Type} {c : Prop} [Decidable c] {a b : Out α} {σ : Fr} {f : α → DH → SO} : (if c then a else b).sbind σ f = if c then a.sbind σ f else b.sbind σ f := by split <;> rfl
@[simp] theorem ite_bind {α β : Type} {c : Prop} [Decidable c] {a b : Out α} {f : α → DH → Out β} : (if c then a else b).bind f = if c then a.bind f else b.bind f := by split <;> rfl
section
variable {h : DH} {i j : Int} {s t : List Nat} {n : Nat} {xs ys : List D} {b : Bool} {x : D} {o : O}
@[simp] theorem tru_bl : truD h (.bl b) = some b := (rfl)
theorem pow_int (q : 0 ≤ j ∧ j ≤ 1000000 ∧ i.natAbs < 18446744073709551616) : binD h .pow (.int i) (.int j) = .ok (.int (i ^ j.toNat)) h := if_pos q
@[simp] theorem tru_int : truD h (.int i) = some (i != 0) := (rfl)
@[simp] theorem add_int : binD h .add (.int i) (.int j) = .ok (.int (i + j)) h := (rfl)
@[simp] theorem sub_int : binD h .sub (.int i) (.int j) = .ok (.int (i - j)) h := (rfl)
@[simp] theorem augd_int : augD h .add (.int i) (.int j) = .ok (.int (i + j)) h := (rfl)
@[simp] theorem augs_int : augD h .sub (.int i) (.int j) = .ok (.int (i - j)) h := (rfl)
theorem mul_int (q : (-big < i ∧ i < big) ∨ (-big < j ∧ j < big)) : binD h .mul (.int i) (.int j) = .ok (.int (i * j)) h := if_pos q
theorem mod_int (q : j ≠ 0) : binD h .mod (.int i) (.int j) = .ok (.int (i.fmod j)) h := if_pos q
theorem fdiv_int (q : j ≠ 0 ∧ j.natAbs < 1073741824) : binD h .fdiv (.int i) (.int j) = .ok (.int (i.fdiv j)) h := if_pos q
theorem add_str (q : s.length + t.length ≤ SL) : binD h .add (.str s) (.str t) = .ok (.str (s ++ t)) h := if_pos q
@[simp] theorem lt_int : cmpD h .lt (.int i) (.int j) = some (decide (i < j)) := (rfl)
@[simp] theorem le_int : cmpD h .le (.int i) (.int j) = some (decide (i ≤ j)) := (rfl)
@[simp] theorem gt_int : cmpD h .gt (.int i) (.int j) = some (decide (j < i)) := (rfl)
@[simp] theorem ge_int : cmpD h .ge (.int i) (.int j) = some (decide (j ≤ i)) := (rfl)
@[simp] theorem eq_int : cmpD h .eq (.int i) (.int j) = some (i == j) := (rfl)
@[simp] theorem ne_int : cmpD h .ne (.int i) (.int j) = some (!(i == j)) := (rfl)
@[simp] theorem eq_str : cmpD h .eq (.str s) (.str t) = some (s == t) := (rfl)
@[simp] theorem ne_str : cmpD h .ne (.str s) (.str t) = some (!(s == t)) := (rfl)
@[simp] theorem cmp_in {y : D} : cmpD h .in_ x y = inD h x y := (rfl)
@[simp] theorem cmp_nin {y : D} : cmpD h .nin x y = (inD h x y).map (!·) := (rfl)
@[simp] theorem lget_zero : lget (.lst xs :: h) 0 = some xs := (rfl)
@[simp] theorem lget_succ : lget (o :: h) (n + 1) = lget h n := (rfl)
@[simp] theorem lget_one : lget (o :: h) 1 = lget h 0 := (rfl)
@[simp] theorem ix_tup : ixD h (.tup xs) (.int i) = atI xs i := (rfl)
@[simp] theorem ix_fl : ixD h (.fl xs) (.int i) = atI xs i := (rfl)
@[simp] theorem ix_ref : ixD h (.ref n) (.int i) = (lget h n).bind fun xs => atI xs i := (rfl)
theorem ix_str (q : s.length ≤ SL) : ixD h (.str s) (.int i) = (atI s i).map fun c => .str [c] := if_pos q
theorem sli_str {lo hi : Option Int} (q : s.length ≤ SL) : sliD h (.str s) lo hi = .ok (.str (cut s lo hi)) h := if_pos q
@[simp] theorem bi_int : biD h .int (.int i) = some (.int i) := (rfl)
theorem bi_len (q : s.length ≤ SL) : biD h .len (.str s) = some (.int s.length) := if_pos q
@[simp] theorem bi_lenT : biD h .len (.tup xs) = some (.int xs.length) := (rfl)
@[simp] theorem bi_lenF : biD h .len (.fl xs) = some (.int xs.length) := (rfl)
@[simp] theorem bi_lenR : biD h .len (.ref n) = match lget h n with | some xs => some (.int xs.length) | none => none := (rfl)
@[simp] theorem bi_tupR : biD h .tuple (.ref n) = (lget h n).map .tup := (rfl)
@[simp] theorem bl_tup : blD .tuple xs = some (.tup xs) := (rfl)
@[simp] theorem bl_len : blD .len xs = some (.int xs.length) := (rfl)
end
theorem atI_nat {α : Type} {xs : List α} {n : Nat} : atI xs (n : Int) = xs[n]? := by
  unfold atI ixN
  by_cases h : n < xs.length
  · simp [h]
  · simp [h]
@[simp] theorem atI_zero {α : Type} {x : α} {xs : List α} : atI (x :: xs) 0 = some x := by simp [atI, ixN]
theorem atI_one {α : Type} {x y : α} {xs : List α} : atI (x :: y :: xs) 1 = some y := atI_nat (n := 1)
theorem atI_in {α : Type} {xs : List α} {i : Int} (h0 : 0 ≤ i) (h1 : i < xs.length) : ∃ x, atI xs i = some x ∧ x ∈ xs := by
  obtain ⟨n, rfl⟩ := Int.eq_ofNat_of_zero_le h0
  rw [atI_nat]
  have hn : n < xs.length := by omega
  exact ⟨xs[n], List.getElem?_eq_getElem hn, List.getElem_mem hn⟩
@[simp] theorem ixN_zero {n : Nat} : ixN (n + 1) 0 = some 0 := by simp [ixN]
theorem ixN_nat {n i : Nat} (h : i < n) : ixN n (i : Int) = some i := by simp [ixN, h]
theorem of_sat {α : Type} {o : Out α} {a : α} {h : DH} (p : o.sat fun r h' => r = a ∧ h' = h) : o = .ok a h := by
  cases o with
  | ok b h' => obtain ⟨rfl, rfl⟩ := p; rfl
  | exc _ _ _ => exact p.elim
  | bad => exact p.elim
@[simp] theorem mlk_join {s : List Nat} : mlK .join (.str s) = true := (rfl)
@[simp] theorem mtk_join {s : List Nat} {h : DH} : mtK h .join (.str s) = true := (rfl)
@[simp] theorem mtk_find2 {s : List Nat} {h : DH} : mtK h .find2 (.str s) = true := (rfl)
@[simp] theorem mtk_find3 {s : List Nat} {h : DH} : mtK h .find3 (.str s) = true := (rfl)
@[simp] theorem src_tup {xs : List D} {h : DH} : srcD h (.tup xs) = some (.items xs) := (rfl)
/-- a comprehension that leaves the heap as it is -/
theorem cpB_map {C : Cn} {elt : E} {tg : T} {σ : Fr} {h : DH} {ds : List D} (g : D → D) (hl : ds.length ≤ SL) (hs : ∀ d ∈ ds, ∃ σ', asT C tg d σ h = .ok σ' h ∧ (ev C elt).v σ' h = .ok (g d) h) : cpB C elt tg .none σ (.items ds) h = .ok (ds.map g) h := by
  have key : ∀ (ds acc : List D), (∀ d ∈ ds, ∃ σ', asT C tg d σ h = .ok σ' h ∧ (ev C elt).v σ' h = .ok (g d) h) → acc.length + ds.length ≤ SL → compI (cmpT (ev C elt).v (asT C tg) (tsO C .none) σ) ds acc h = .ok (acc ++ ds.map g) h := by
    intro ds
    induction ds with
    | nil => intro acc _ _; simp [compI]
    | cons d ds ih =>
      intro acc hs hl
      obtain ⟨σ', h1, h2⟩ := hs d List.mem_cons_self
      rw [List.length_cons] at hl
      unfold compI cmpT
      rw [h1, bind_ok, c_none, bind_ok, if_pos rfl, h2, bind_ok, bind_ok]
      show (if acc.length < SL then compI (cmpT (ev C elt).v (asT C tg) (tsO C .none) σ) ds (acc ++ [g d]) h else .bad) = _
      rw [if_pos (by omega), ih (acc ++ [g d]) (fun e he => hs e (List.mem_cons_of_mem _ he)) (by rw [List.length_append, List.length_singleton]; omega)]
      simp
  have := key ds [] hs (by simpa using hl)
  show (compI _ ds [] h).noexc = _
  rw [this]
  rfl
end FD

set_option autoImplicit false
set_option linter.all false
/-! Plain: decimal texts. -/
namespace FD
def digs (n : Nat) : List Nat := (Nat.toDigits 10 n).map Char.toNat
theorem dch {d : Nat} (h : d < 10) : (Nat.digitChar d).toNat = 48 + d := by
  match d, h with
  | 0, _ => rfl | 1, _ => rfl | 2, _ => rfl | 3, _ => rfl | 4, _ => rfl | 5, _ => rfl | 6, _ => rfl | 7, _ => rfl | 8, _ => rfl | 9, _ => rfl
  | n + 10, h => omega
theorem digs_lt {n : Nat} (h : n < 10) : digs n = [48 + n] := by
  unfold digs
  rw [Nat.toDigits_of_lt_base h]
  simp [dch h]
theorem digs_ge {n : Nat} (h : 10 ≤ n) : digs n = digs (n / 10) ++ [48 + n % 10] := by
  unfold digs
  rw [Nat.toDigits_of_base_le (by decide) h]
  simp [dch (Nat.mod_lt n (by decide : 0 < 10))]
theorem digs_all : ∀ (n : Nat), ∀ c ∈ digs n, 48 ≤ c ∧ c ≤ 57 := by
  intro n
  induction n using Nat.strongRecOn with
  | _ n ih =>
    intro c hc
    by_cases h : n < 10
    · rw [digs_lt h] at hc
      rw [List.mem_singleton.mp hc]; omega
    · rw [digs_ge (by omega)] at hc
      rcases List.mem_append.mp hc with hc | hc
      · exact ih (n / 10) (by omega) c hc
      · rw [List.mem_singleton.mp hc]; omega
theorem digs_head : ∀ (n : Nat), ∃ c r, digs n = c :: r ∧ (c = 48 ↔ n = 0) := by
  intro n
  induction n using Nat.strongRecOn with
  | _ n ih =>
    by_cases h : n < 10
    · exact ⟨48 + n, [], digs_lt h, by omega⟩
    · obtain ⟨c, r, e, q⟩ := ih (n / 10) (by omega)
      refine ⟨c, r ++ [48 + n % 10], by rw [digs_ge (by omega), e]; rfl, ?_⟩
      rw [q]; omega
theorem natOf_app : ∀ (xs ys : List Nat) (a : Nat), natOf a (xs ++ ys) = (natOf a xs).bind fun b => natOf b ys
  | [], ys, a => rfl
  | x :: xs, ys, a => by
    simp only [List.cons_append, natOf]
    cases digit? x with
    | none => rfl
    | some k => exact natOf_app xs ys _
theorem digit_add {d : Nat} (h : d < 10) : digit? (48 + d) = some d := by
  unfold digit?
  rw [if_pos (by omega)]
  congr 1; omega
theorem natOf_digs : ∀ n : Nat, natOf 0 (digs n) = some n := by
  intro n
  induction n using Nat.strongRecOn with
  | _ n ih =>
    by_cases h : n < 10
    · rw [digs_lt h]; simp [natOf, digit_add h]
    · rw [digs_ge (by omega), natOf_app, ih (n / 10) (by omega)]
      have : n % 10 < 10 := by omega
      simp [natOf, digit_add this]
      omega
theorem digs_len {n k : Nat} (hk : 0 < k) (h : n < 10 ^ k) : (digs n).length ≤ k := by
  unfold digs
  rw [List.length_map]
  exact (Nat.length_toDigits_le_iff (by decide) hk).mpr h
theorem strOf_nat (n : Nat) : strOf (n : Int) = digs n := by
  unfold strOf digs
  show (Nat.repr n).toList.map Char.toNat = _
  rw [Nat.repr_eq_ofList_toDigits, String.toList_ofList]
theorem strOf_neg (n : Nat) : strOf (Int.negSucc n) = 45 :: digs (n + 1) := by
  unfold strOf digs
  show (("-" : String) ++ Nat.repr (n + 1)).toList.map Char.toNat = _
  rw [String.toList_append, Nat.repr_eq_ofList_toDigits, List.map_append, String.toList_ofList, String.toList_ofList]
  rfl
theorem intOf_str (i : Int) : intOf (strOf i) = some i := by
  cases i with
  | ofNat n =>
    show intOf (strOf (n : Int)) = some (n : Int)
    rw [strOf_nat]
    obtain ⟨c, r, e, q⟩ := digs_head n
    have hc := digs_all n c (by rw [e]; exact List.mem_cons_self)
    have : intOf (c :: r) = (natOf 0 (c :: r)).map fun (n : Nat) => (n : Int) := by
      unfold intOf
      split
      · rename_i z; cases z
      · rename_i z; cases z; omega
      · rfl
    rw [e, this, ← e, natOf_digs]
    rfl
  | negSucc n =>
    rw [strOf_neg]
    obtain ⟨c, r, e, q⟩ := digs_head (n + 1)
    show (if digs (n + 1) = [] then none else (natOf 0 (digs (n + 1))).map fun (n : Nat) => -(n : Int)) = _
    rw [if_neg (by rw [e]; simp), natOf_digs]
    rfl
end FD

set_option maxRecDepth 100000
namespace K21.A
open FD
/-- law -/
def b0 : Ss := Ss.cons (S.asg (T.sl 1) (E.ofL (L.disp (Es.cons (E.call 1 (Es.cons (E.sl 0) (Es.cons (E.c (D.int 0)) (Es.cons (E.c (D.int 63)) (Es.nil))))) (Es.cons (E.c (D.int 0)) (Es.nil)))))) (Ss.cons (S.fr (T.sl 2) (It.r1 (E.c (D.int 6))) (Ss.cons (S.asg (T.sl 3) (E.call 2 (Es.cons (E.sl 1) (Es.cons (E.c (D.int 4)) (Es.nil))))) (Ss.cons (S.fr (T.sl 4) (It.r1 (E.ixL (L.disp (Es.cons (E.c (D.int 0)) (Es.cons (E.c (D.int 0)) (Es.cons (E.c (D.int 0)) (Es.cons (E.c (D.int 36)) (Es.nil)))))) (E.call 3 (Es.cons (E.sl 1) (Es.cons (E.c (D.int 4)) (Es.nil)))))) (Ss.cons (S.asg (T.sl 3) (E.tup (Es.cons (E.sl 3) (Es.nil)))) (Ss.nil))) (Ss.cons (S.asg (T.sl 5) (E.call 4 (Es.cons (E.sl 3) (Es.nil)))) (Ss.cons (S.ite (E.or_ (E.not_ (E.call 5 (Es.cons (E.call 6 (Es.cons (E.sl 3) (Es.nil))) (Es.cons (E.sl 5) (Es.nil))))) (E.not_ (E.call 5 (Es.cons (E.call 7 (Es.cons (E.sl 5) (Es.nil))) (Es.cons (E.sl 3) (Es.nil)))))) (Ss.cons (S.ret (E.c (D.bl false))) (Ss.nil)) (Ss.nil)) (Ss.nil)))))) (Ss.cons (S.ret (E.c (D.bl true))) (Ss.nil)))
def g0 : Fn := ⟨6, 1, b0⟩
/-- _law_digits -/
def b1 : Ss := Ss.cons (S.asg (T.sl 3) (E.ofL (L.disp (Es.nil)))) (Ss.cons (S.fr (T.sl 4) (It.r2 (E.sl 1) (E.sl 2)) (Ss.cons (S.ite (E.cmp (COp.gt) (E.bi (Bi.len) (E.sl 3)) (E.c (D.int 1500))) (Ss.cons (S.brk) (Ss.nil)) (Ss.nil)) (Ss.cons (S.asg (T.sl 5) (E.call 8 (Es.cons (E.sl 0) (Es.cons (E.sl 4) (Es.nil))))) (Ss.cons (S.ite (E.cmp (COp.lt) (E.sl 5) (E.c (D.int 0))) (Ss.cons (S.asg (T.sl 5) (E.bin (BOp.sub) (E.c (D.int 1)) (E.bin (BOp.mul) (E.c (D.int 2)) (E.sl 5)))) (Ss.nil)) (Ss.nil)) (Ss.cons (S.ite (E.cmp (COp.ge) (E.sl 5) (E.bin (BOp.pow) (E.c (D.int 10)) (E.c (D.int 18)))) (Ss.cons (S.fr (T.sl 6) (It.r1 (E.c (D.int 60))) (Ss.cons (S.ite (E.cmp (COp.gt) (E.sl 5) (E.c (D.int 0))) (Ss.cons (S.ex (E.mt (Mt.append) (E.sl 3) (Es.cons (E.bin (BOp.mod) (E.bi (Bi.int) (E.sl 5)) (E.c (D.int 1000))) (Es.nil)))) (Ss.cons (S.asg (T.sl 5) (E.bin (BOp.fdiv) (E.sl 5) (E.c (D.int 1000)))) (Ss.nil))) (Ss.nil)) (Ss.nil))) (Ss.nil)) (Ss.cons (S.asg (T.sl 7) (E.bin (BOp.mod) (E.bi (Bi.int) (E.bin (BOp.add) (E.bin (BOp.add) (E.bin (BOp.mul) (E.sl 5) (E.c (D.int 48271))) (E.bin (BOp.mul) (E.sl 4) (E.c (D.int 69621)))) (E.c (D.int 11)))) (E.c (D.int 2147483647)))) (Ss.cons (S.fr (T.sl 6) (It.r1 (E.c (D.int 12))) (Ss.cons (S.asg (T.sl 7) (E.bin (BOp.mod) (E.bi (Bi.int) (E.bin (BOp.add) (E.bin (BOp.add) (E.bin (BOp.mul) (E.sl 7) (E.c (D.int 16807))) (E.bin (BOp.mul) (E.c (D.int 7)) (E.sl 6))) (E.c (D.int 1)))) (E.c (D.int 2147483647)))) (Ss.cons (S.ex (E.mt (Mt.append) (E.sl 3) (Es.cons (E.bin (BOp.mod) (E.bi (Bi.int) (E.bin (BOp.fdiv) (E.sl 7) (E.c (D.int 997)))) (E.c (D.int 1000))) (Es.nil)))) (Ss.nil)))) (Ss.nil)))) (Ss.nil)))))) (Ss.cons (S.ret (E.sl 3)) (Ss.nil)))
def g1 : Fn := ⟨8, 3, b1⟩
/-- _law_value -/
def b2 : Ss := Ss.cons (S.asg (T.sl 2) (E.call 3 (Es.cons (E.sl 0) (Es.cons (E.c (D.int 9)) (Es.nil))))) (Ss.cons (S.ite (E.and_ (E.cmp (COp.lt) (E.sl 2) (E.c (D.int 3))) (E.cmp (COp.gt) (E.sl 1) (E.c (D.int 0)))) (Ss.cons (S.ret (E.biL (Bl.tuple) (L.comp (E.call 2 (Es.cons (E.sl 0) (Es.cons (E.bin (BOp.sub) (E.sl 1) (E.c (D.int 1))) (Es.nil)))) [3] (T.sl 3) (It.r1 (E.call 3 (Es.cons (E.sl 0) (Es.cons (E.c (D.int 4)) (Es.nil))))) (Oe.none)))) (Ss.nil)) (Ss.nil)) (Ss.cons (S.ite (E.cmp (COp.eq) (E.sl 2) (E.c (D.int 3))) (Ss.cons (S.ret (E.ixL (L.disp (Es.cons (E.c (D.non)) (Es.cons (E.c (D.bl true)) (Es.cons (E.c (D.bl false)) (Es.nil))))) (E.call 3 (Es.cons (E.sl 0) (Es.cons (E.c (D.int 3)) (Es.nil)))))) (Ss.nil)) (Ss.nil)) (Ss.cons (S.ite (E.cmp (COp.eq) (E.sl 2) (E.c (D.int 4))) (Ss.cons (S.asg (T.sl 4) (E.bin (BOp.sub) (E.bin (BOp.add) (E.bin (BOp.mul) (E.call 3 (Es.cons (E.sl 0) (Es.cons (E.c (D.int 900)) (Es.nil)))) (E.bin (BOp.pow) (E.c (D.int 10)) (E.c (D.int 16)))) (E.call 3 (Es.cons (E.sl 0) (Es.cons (E.c (D.int 900)) (Es.nil))))) (E.c (D.int 450)))) (Ss.cons (S.ret (E.ixL (L.disp (Es.cons (E.sl 4) (Es.cons (E.bin (BOp.sub) (E.c (D.int 0)) (E.sl 4)) (Es.cons (E.bin (BOp.add) (E.bin (BOp.pow) (E.c (D.int 10)) (E.c (D.int 19))) (E.sl 4)) (Es.cons (E.c (D.int 0)) (Es.nil)))))) (E.call 3 (Es.cons (E.sl 0) (Es.cons (E.c (D.int 4)) (Es.nil)))))) (Ss.nil))) (Ss.nil)) (Ss.cons (S.ite (E.cmp (COp.eq) (E.sl 2) (E.c (D.int 5))) (Ss.cons (S.ret (E.bin (BOp.sub) (E.call 3 (Es.cons (E.sl 0) (Es.cons (E.c (D.int 30)) (Es.nil)))) (E.c (D.int 15)))) (Ss.nil)) (Ss.nil)) (Ss.cons (S.asg (T.sl 5) (E.c (D.str [32, 33, 34, 35, 36, 38, 39, 40, 41, 42, 43, 44, 45, 46, 47, 48, 49, 56, 57, 58, 59, 60, 61, 62, 63, 64, 65, 90, 91, 92, 93, 94, 95, 96, 97, 122, 123, 124, 125, 126, 10, 110, 84, 70, 78]))) (Ss.cons (S.ret (E.mtL (Ml.join) (E.c (D.str [])) (L.comp (E.ix (E.sl 5) (E.bin (BOp.mod) (E.bi (Bi.int) (E.call 3 (Es.cons (E.sl 0) (Es.cons (E.c (D.int 900)) (Es.nil))))) (E.bi (Bi.len) (E.sl 5)))) [3] (T.sl 3) (It.r1 (E.call 3 (Es.cons (E.sl 0) (Es.cons (E.c (D.int 9)) (Es.nil))))) (Oe.none)))) (Ss.nil)))))))
def g2 : Fn := ⟨6, 2, b2⟩
/-- _law_draw -/
def b3 : Ss := Ss.cons (S.asg (T.sl 2) (E.ix (E.sl 0) (E.c (D.int 1)))) (Ss.cons (S.asg (T.sub (E.sl 0) (E.c (D.int 1))) (E.bin (BOp.add) (E.sl 2) (E.c (D.int 1)))) (Ss.cons (S.ite (E.cmp (COp.lt) (E.sl 2) (E.bi (Bi.len) (E.ix (E.sl 0) (E.c (D.int 0))))) (Ss.cons (S.ret (E.bin (BOp.mod) (E.bi (Bi.int) (E.ix (E.ix (E.sl 0) (E.c (D.int 0))) (E.sl 2))) (E.sl 1))) (Ss.nil)) (Ss.nil)) (Ss.cons (S.ret (E.bin (BOp.mod) (E.bi (Bi.int) (E.bin (BOp.mul) (E.sl 2) (E.c (D.int 7)))) (E.sl 1))) (Ss.nil))))
def g3 : Fn := ⟨3, 2, b3⟩
/-- _law_plain -/
def b4 : Ss := Ss.cons (S.ite (E.is_ true (E.sl 0) (Si.non)) (Ss.cons (S.ret (E.c (D.str [78]))) (Ss.nil)) (Ss.nil)) (Ss.cons (S.ite (E.is_ true (E.sl 0) (Si.tr)) (Ss.cons (S.ret (E.c (D.str [84]))) (Ss.nil)) (Ss.nil)) (Ss.cons (S.ite (E.is_ true (E.sl 0) (Si.fl)) (Ss.cons (S.ret (E.c (D.str [70]))) (Ss.nil)) (Ss.nil)) (Ss.cons (S.ite (E.isi (E.sl 0) (Ty.int)) (Ss.cons (S.ret (E.bi (Bi.str) (E.sl 0))) (Ss.nil)) (Ss.nil)) (Ss.cons (S.ite (E.isi (E.sl 0) (Ty.tuple)) (Ss.cons (S.ret (E.bin (BOp.add) (E.bin (BOp.add) (E.c (D.str [40])) (E.mtL (Ml.join) (E.c (D.str [32])) (L.comp (E.call 4 (Es.cons (E.sl 1) (Es.nil))) [1] (T.sl 1) (It.e (E.sl 0)) (Oe.none)))) (E.c (D.str [41])))) (Ss.nil)) (Ss.nil)) (Ss.cons (S.ret (E.bin (BOp.add) (E.repl [34] (E.sl 0) [(92, [92, 92]), (34, [92, 34]), (10, [92, 110])]) (E.c (D.str [34])))) (Ss.nil))))))
def g4 : Fn := ⟨2, 1, b4⟩
/-- _law_same -/
def b5 : Ss := Ss.cons (S.ite (E.isi (E.sl 1) (Ty.tuple)) (Ss.cons (S.ite (E.or_ (E.not_ (E.isi (E.sl 0) (Ty.tuple))) (E.cmp (COp.ne) (E.bi (Bi.len) (E.sl 0)) (E.bi (Bi.len) (E.sl 1)))) (Ss.cons (S.ret (E.c (D.bl false))) (Ss.nil)) (Ss.nil)) (Ss.cons (S.fr (T.sl 2) (It.r1 (E.bi (Bi.len) (E.sl 1))) (Ss.cons (S.ite (E.not_ (E.call 5 (Es.cons (E.ix (E.sl 0) (E.sl 2)) (Es.cons (E.ix (E.sl 1) (E.sl 2)) (Es.nil))))) (Ss.cons (S.ret (E.c (D.bl false))) (Ss.nil)) (Ss.nil)) (Ss.nil))) (Ss.cons (S.ret (E.c (D.bl true))) (Ss.nil)))) (Ss.nil)) (Ss.cons (S.ite (E.is_ true (E.sl 1) (Si.non)) (Ss.cons (S.ret (E.is_ true (E.sl 0) (Si.non))) (Ss.nil)) (Ss.nil)) (Ss.cons (S.ite (E.is_ true (E.sl 1) (Si.tr)) (Ss.cons (S.ret (E.is_ true (E.sl 0) (Si.tr))) (Ss.nil)) (Ss.nil)) (Ss.cons (S.ite (E.is_ true (E.sl 1) (Si.fl)) (Ss.cons (S.ret (E.is_ true (E.sl 0) (Si.fl))) (Ss.nil)) (Ss.nil)) (Ss.cons (S.ite (E.isi (E.sl 1) (Ty.int)) (Ss.cons (S.ret (E.and_ (E.isi (E.sl 0) (Ty.int)) (E.and_ (E.not_ (E.isi (E.sl 0) (Ty.bool))) (E.cmp (COp.eq) (E.sl 0) (E.sl 1))))) (Ss.nil)) (Ss.nil)) (Ss.cons (S.ret (E.and_ (E.isi (E.sl 0) (Ty.str)) (E.cmp (COp.eq) (E.sl 0) (E.sl 1)))) (Ss.nil))))))
def g5 : Fn := ⟨3, 2, b5⟩
/-- show_plain -/
def b6 : Ss := Ss.cons (S.ite (E.is_ true (E.sl 0) (Si.non)) (Ss.cons (S.ret (E.c (D.str [78]))) (Ss.nil)) (Ss.nil)) (Ss.cons (S.ite (E.is_ true (E.sl 0) (Si.tr)) (Ss.cons (S.ret (E.c (D.str [84]))) (Ss.nil)) (Ss.nil)) (Ss.cons (S.ite (E.is_ true (E.sl 0) (Si.fl)) (Ss.cons (S.ret (E.c (D.str [70]))) (Ss.nil)) (Ss.nil)) (Ss.cons (S.ite (E.isi (E.sl 0) (Ty.int)) (Ss.cons (S.ret (E.bi (Bi.str) (E.sl 0))) (Ss.nil)) (Ss.nil)) (Ss.cons (S.ite (E.isi (E.sl 0) (Ty.str)) (Ss.cons (S.ret (E.call 9 (Es.cons (E.sl 0) (Es.nil)))) (Ss.nil)) (Ss.nil)) (Ss.cons (S.ret (E.bin (BOp.add) (E.bin (BOp.add) (E.c (D.str [40])) (E.mtL (Ml.join) (E.c (D.str [32])) (L.comp (E.call 6 (Es.cons (E.sl 1) (Es.nil))) [1] (T.sl 1) (It.e (E.sl 0)) (Oe.none)))) (E.c (D.str [41])))) (Ss.nil))))))
def g6 : Fn := ⟨2, 1, b6⟩
/-- read_plain -/
def b7 : Ss := Ss.cons (S.asg (T.tup (Ts.cons (T.sl 1) (Ts.cons (T.sl 2) (Ts.nil)))) (E.call 10 (Es.cons (E.sl 0) (Es.cons (E.c (D.int 0)) (Es.cons (E.c (D.int 0)) (Es.nil)))))) (Ss.cons (S.ite (E.cmp (COp.lt) (E.sl 2) (E.bi (Bi.len) (E.sl 0))) (Ss.cons (S.never) (Ss.nil)) (Ss.nil)) (Ss.cons (S.ret (E.sl 1)) (Ss.nil)))
def g7 : Fn := ⟨3, 1, b7⟩
/-- _law_cell -/
def b8 : Ss := Ss.cons (S.ite (E.cmp (COp.lt) (E.sl 1) (E.bi (Bi.len) (E.sl 0))) (Ss.cons (S.ret (E.ix (E.sl 0) (E.sl 1))) (Ss.nil)) (Ss.nil)) (Ss.cons (S.ret (E.c (D.int 0))) (Ss.nil))
def g8 : Fn := ⟨2, 2, b8⟩
/-- quoted -/
def b9 : Ss := Ss.cons (S.ret (E.bin (BOp.add) (E.repl [34] (E.sl 0) [(92, [92, 92]), (34, [92, 34]), (10, [92, 110])]) (E.c (D.str [34])))) (Ss.nil)
def g9 : Fn := ⟨1, 1, b9⟩
/-- value_at -/
def b10 : Ss := Ss.cons (S.asg (T.sl 3) (E.sli (E.sl 0) (Oe.some (E.sl 1)) (Oe.some (E.bin (BOp.add) (E.sl 1) (E.c (D.int 1)))))) (Ss.cons (S.ite (E.cmp (COp.eq) (E.sl 3) (E.c (D.str [78]))) (Ss.cons (S.ret (E.tup (Es.cons (E.c (D.non)) (Es.cons (E.bin (BOp.add) (E.sl 1) (E.c (D.int 1))) (Es.nil))))) (Ss.nil)) (Ss.nil)) (Ss.cons (S.ite (E.cmp (COp.eq) (E.sl 3) (E.c (D.str [84]))) (Ss.cons (S.ret (E.tup (Es.cons (E.c (D.bl true)) (Es.cons (E.bin (BOp.add) (E.sl 1) (E.c (D.int 1))) (Es.nil))))) (Ss.nil)) (Ss.nil)) (Ss.cons (S.ite (E.cmp (COp.eq) (E.sl 3) (E.c (D.str [70]))) (Ss.cons (S.ret (E.tup (Es.cons (E.c (D.bl false)) (Es.cons (E.bin (BOp.add) (E.sl 1) (E.c (D.int 1))) (Es.nil))))) (Ss.nil)) (Ss.nil)) (Ss.cons (S.ite (E.cmp (COp.eq) (E.sl 3) (E.c (D.str [34]))) (Ss.cons (S.ret (E.call 11 (Es.cons (E.sl 0) (Es.cons (E.bin (BOp.add) (E.sl 1) (E.c (D.int 1))) (Es.nil))))) (Ss.nil)) (Ss.nil)) (Ss.cons (S.ite (E.cmp (COp.eq) (E.sl 3) (E.c (D.str [40]))) (Ss.cons (S.ite (E.cmp (COp.eq) (E.sl 2) (E.c (D.int 40))) (Ss.cons (S.never) (Ss.nil)) (Ss.nil)) (Ss.cons (S.ret (E.call 12 (Es.cons (E.sl 0) (Es.cons (E.bin (BOp.add) (E.sl 1) (E.c (D.int 1))) (Es.cons (E.bin (BOp.add) (E.sl 2) (E.c (D.int 1))) (Es.nil)))))) (Ss.nil))) (Ss.nil)) (Ss.cons (S.ret (E.call 13 (Es.cons (E.sl 0) (Es.cons (E.sl 1) (Es.nil))))) (Ss.nil)))))))
def g10 : Fn := ⟨4, 3, b10⟩
/-- text_at -/
def b11 : Ss := Ss.cons (S.asg (T.sl 2) (E.ofL (L.disp (Es.nil)))) (Ss.cons (S.whl (E.c (D.bl true)) (Ss.cons (S.asg (T.sl 3) (E.mt (Mt.find2) (E.sl 0) (Es.cons (E.c (D.str [34])) (Es.cons (E.sl 1) (Es.nil))))) (Ss.cons (S.asg (T.sl 4) (E.ite (E.cmp (COp.ge) (E.sl 3) (E.c (D.int 0))) (E.sl 3) (E.bi (Bi.len) (E.sl 0)))) (Ss.cons (S.asg (T.sl 5) (E.mt (Mt.find3) (E.sl 0) (Es.cons (E.c (D.str [92])) (Es.cons (E.sl 1) (Es.cons (E.sl 4) (Es.nil)))))) (Ss.cons (S.ite (E.cmp (COp.ge) (E.sl 5) (E.c (D.int 0))) (Ss.cons (S.asg (T.sl 4) (E.sl 5)) (Ss.nil)) (Ss.nil)) (Ss.cons (S.asg (T.sl 6) (E.mt (Mt.find3) (E.sl 0) (Es.cons (E.c (D.str [10])) (Es.cons (E.sl 1) (Es.cons (E.sl 4) (Es.nil)))))) (Ss.cons (S.ite (E.cmp (COp.ge) (E.sl 6) (E.c (D.int 0))) (Ss.cons (S.never) (Ss.nil)) (Ss.nil)) (Ss.cons (S.ex (E.mt (Mt.append) (E.sl 2) (Es.cons (E.sli (E.sl 0) (Oe.some (E.sl 1)) (Oe.some (E.sl 4))) (Es.nil)))) (Ss.cons (S.ite (E.cmp (COp.eq) (E.sl 4) (E.sl 3)) (Ss.cons (S.ret (E.tup (Es.cons (E.mt (Mt.join) (E.c (D.str [])) (Es.cons (E.sl 2) (Es.nil))) (Es.cons (E.bin (BOp.add) (E.sl 4) (E.c (D.int 1))) (Es.nil))))) (Ss.nil)) (Ss.nil)) (Ss.cons (S.ite (E.cmp (COp.ne) (E.sl 4) (E.sl 5)) (Ss.cons (S.never) (Ss.nil)) (Ss.nil)) (Ss.cons (S.asg (T.sl 7) (E.sli (E.sl 0) (Oe.some (E.bin (BOp.add) (E.sl 4) (E.c (D.int 1)))) (Oe.some (E.bin (BOp.add) (E.sl 4) (E.c (D.int 2)))))) (Ss.cons (S.ite (E.or_ (E.cmp (COp.nin) (E.sl 7) (E.tup (Es.cons (E.c (D.str [34])) (Es.cons (E.c (D.str [92])) (Es.cons (E.c (D.str [110])) (Es.nil)))))) (E.cmp (COp.eq) (E.sl 7) (E.c (D.str [])))) (Ss.cons (S.never) (Ss.nil)) (Ss.nil)) (Ss.cons (S.ex (E.mt (Mt.append) (E.sl 2) (Es.cons (E.ite (E.cmp (COp.eq) (E.sl 7) (E.c (D.str [110]))) (E.c (D.str [10])) (E.sl 7)) (Es.nil)))) (Ss.cons (S.asg (T.sl 1) (E.bin (BOp.add) (E.sl 4) (E.c (D.int 2)))) (Ss.nil))))))))))))))) (Ss.nil))
def g11 : Fn := ⟨8, 2, b11⟩
/-- tuple_at -/
def b12 : Ss := Ss.cons (S.ite (E.cmp (COp.eq) (E.sli (E.sl 0) (Oe.some (E.sl 1)) (Oe.some (E.bin (BOp.add) (E.sl 1) (E.c (D.int 1))))) (E.c (D.str [41]))) (Ss.cons (S.ret (E.tup (Es.cons (E.tup (Es.nil)) (Es.cons (E.bin (BOp.add) (E.sl 1) (E.c (D.int 1))) (Es.nil))))) (Ss.nil)) (Ss.nil)) (Ss.cons (S.asg (T.sl 3) (E.ofL (L.disp (Es.nil)))) (Ss.cons (S.whl (E.c (D.bl true)) (Ss.cons (S.asg (T.tup (Ts.cons (T.sl 5) (Ts.cons (T.sl 1) (Ts.nil)))) (E.call 10 (Es.cons (E.sl 0) (Es.cons (E.sl 1) (Es.cons (E.sl 2) (Es.nil)))))) (Ss.cons (S.ex (E.mt (Mt.append) (E.sl 3) (Es.cons (E.sl 5) (Es.nil)))) (Ss.cons (S.asg (T.sl 4) (E.sli (E.sl 0) (Oe.some (E.sl 1)) (Oe.some (E.bin (BOp.add) (E.sl 1) (E.c (D.int 1)))))) (Ss.cons (S.ite (E.cmp (COp.eq) (E.sl 4) (E.c (D.str [41]))) (Ss.cons (S.ret (E.tup (Es.cons (E.bi (Bi.tuple) (E.sl 3)) (Es.cons (E.bin (BOp.add) (E.sl 1) (E.c (D.int 1))) (Es.nil))))) (Ss.nil)) (Ss.nil)) (Ss.cons (S.ite (E.cmp (COp.ne) (E.sl 4) (E.c (D.str [32]))) (Ss.cons (S.never) (Ss.nil)) (Ss.nil)) (Ss.cons (S.aug 1 (BOp.add) (E.c (D.int 1))) (Ss.nil)))))))) (Ss.nil)))
def g12 : Fn := ⟨6, 3, b12⟩
/-- integer_at -/
def b13 : Ss := Ss.cons (S.asg (T.sl 2) (E.ite (E.cmp (COp.eq) (E.sli (E.sl 0) (Oe.some (E.sl 1)) (Oe.some (E.bin (BOp.add) (E.sl 1) (E.c (D.int 1))))) (E.c (D.str [45]))) (E.bin (BOp.add) (E.sl 1) (E.c (D.int 1))) (E.sl 1))) (Ss.cons (S.asg (T.sl 3) (E.sli (E.sl 0) (Oe.some (E.sl 2)) (Oe.some (E.bin (BOp.add) (E.sl 2) (E.c (D.int 1)))))) (Ss.cons (S.ite (E.or_ (E.cmp (COp.eq) (E.sl 3) (E.c (D.str []))) (E.or_ (E.cmp (COp.nin) (E.sl 3) (E.c (D.str [48, 49, 50, 51, 52, 53, 54, 55, 56, 57]))) (E.and_ (E.cmp (COp.eq) (E.sl 3) (E.c (D.str [48]))) (E.cmp (COp.gt) (E.sl 2) (E.sl 1))))) (Ss.cons (S.never) (Ss.nil)) (Ss.nil)) (Ss.cons (S.asg (T.sl 4) (E.bin (BOp.add) (E.sl 2) (E.c (D.int 1)))) (Ss.cons (S.whl (E.and_ (E.cmp (COp.ne) (E.sli (E.sl 0) (Oe.some (E.sl 4)) (Oe.some (E.bin (BOp.add) (E.sl 4) (E.c (D.int 1))))) (E.c (D.str []))) (E.cmp (COp.in_) (E.sli (E.sl 0) (Oe.some (E.sl 4)) (Oe.some (E.bin (BOp.add) (E.sl 4) (E.c (D.int 1))))) (E.c (D.str [48, 49, 50, 51, 52, 53, 54, 55, 56, 57])))) (Ss.cons (S.ite (E.or_ (E.cmp (COp.eq) (E.sl 3) (E.c (D.str [48]))) (E.cmp (COp.eq) (E.bin (BOp.sub) (E.sl 4) (E.sl 2)) (E.c (D.int 2000)))) (Ss.cons (S.never) (Ss.nil)) (Ss.nil)) (Ss.cons (S.aug 4 (BOp.add) (E.c (D.int 1))) (Ss.nil)))) (Ss.cons (S.ret (E.tup (Es.cons (E.bi (Bi.int) (E.sli (E.sl 0) (Oe.some (E.sl 1)) (Oe.some (E.sl 4)))) (Es.cons (E.sl 4) (Es.nil))))) (Ss.nil))))))
def g13 : Fn := ⟨5, 2, b13⟩
def fs : List Fn := [g0, g1, g2, g3, g4, g5, g6, g7, g8, g9, g10, g11, g12, g13]
def lvl : Nat := 150
def fuel : Nat := 100000
end K21.A

set_option linter.all false
namespace K21
open FD
abbrev C (k : Nat) : Cn := runN A.fs A.fuel k
theorem fmod_rng {a m : Int} (hm : 0 < m) : 0 ≤ a.fmod m ∧ a.fmod m < m := ⟨Int.fmod_nonneg_of_pos _ hm, Int.fmod_lt_of_pos _ hm⟩
/-- the heap behind the draws: the digits, the box with its place, more -/
def bx (as : List Int) (p : Int) (g : DH) : DH := .lst (as.map .int) :: .lst [.ref 0, .int p] :: g
theorem draw {k : Nat} {as : List Int} {g : DH} {p m : Int} (hp : 0 ≤ p) (hm : 0 < m) : ∃ r : Int, 0 ≤ r ∧ r < m ∧ (C (k+1)).fn 3 [.ref 1, .int m] (bx as p g) = .ok (.int r) (bx as (p + 1) g) := by
  have hm0 : m ≠ 0 := by omega
  have h7 : ∀ h : DH, binD h .mul (.int p) (.int 7) = .ok (.int (p * 7)) h := fun h => mul_int (.inr (by decide))
  have a1 : ∀ {x y : D}, atI [x, y] 1 = some y := fun {x y} => atI_one
  have n1 : ixN 2 1 = some 1 := rfl
  by_cases hc : p < as.length
  · obtain ⟨x, hx, hm'⟩ := atI_in (xs := as.map D.int) hp (by simpa using hc)
    obtain ⟨v, _, rfl⟩ := List.mem_map.mp hm'
    refine ⟨v.fmod m, (fmod_rng hm).1, (fmod_rng hm).2, ?_⟩
    simp [C, runN, A.fs, A.g3, A.b3, runD, bx, a1, n1, h7, mod_int hm0, hc, hx]
  · refine ⟨(p * 7).fmod m, (fmod_rng hm).1, (fmod_rng hm).2, ?_⟩
    simp [C, runN, A.fs, A.g3, A.b3, runD, bx, a1, n1, h7, mod_int hm0, hc]
theorem cell {k : Nat} {ns : List Int} {h : DH} {i : Int} (h0 : 0 ≤ i) : ∃ v : Int, (C (k+1)).fn 8 [.fl (ns.map .int), .int i] h = .ok (.int v) h := by
  by_cases hc : i < ns.length
  · obtain ⟨x, hx, hm'⟩ := atI_in (xs := ns.map D.int) h0 (by simpa using hc)
    obtain ⟨v, _, rfl⟩ := List.mem_map.mp hm'
    exact ⟨v, by simp [C, runN, A.fs, A.g8, A.b8, runD, hc, hx]⟩
  · exact ⟨0, by simp [C, runN, A.fs, A.g8, A.b8, runD, hc]⟩
def hd (as : List Int) : DH := [.lst (as.map .int)]
theorem app_hd {as : List Int} {v : Int} (h : as.length < SL) : mtD (hd as) .append (.ref 0) [.int v] = .ok .non (hd (as ++ [v])) := by
  show (if (as.map D.int).length < SL then _ else _) = _
  rw [if_pos (by simpa using h)]
  simp [hd]
theorem mtk_hd {as : List Int} : mtK (hd as) .append (.ref 0) = true := rfl
theorem big1 {i j : Int} (h : -big < j ∧ j < big) {q : DH} : binD q .mul (.int i) (.int j) = .ok (.int (i * j)) q := mul_int (.inr h)
theorem big2 {i j : Int} (h : -big < i ∧ i < big) {q : DH} : binD q .mul (.int i) (.int j) = .ok (.int (i * j)) q := mul_int (.inl h)
@[simp] theorem lget_hd {as : List Int} : lget (hd as) 0 = some (as.map .int) := rfl
theorem pow18 {h : DH} : binD h .pow (.int 10) (.int 18) = .ok (.int 1000000000000000000) h := pow_int (by decide)
abbrev dfr (ns : List Int) (a4 a5 a6 a7 : Option D) : Fr := [some (.fl (ns.map .int)), some (.int 0), some (.int 63), some (.ref 0), a4, a5, a6, a7]
theorem digits {k : Nat} {ns : List Int} : ((C (k+2)).fn 1 [.fl (ns.map .int), .int 0, .int 63] []).sat fun d h => ∃ as : List Int, d = .ref 0 ∧ h = hd as ∧ as.length ≤ 10000 := by
  refine sat_fn (d := A.g1) rfl rfl ?_
  simp [A.g1, A.b1, lim]
  refine sat_seq (frB_items (I := fun i σ h => ∃ a4 a5 a6 a7 as, σ = dfr ns a4 a5 a6 a7 ∧ h = hd as ∧ as.length ≤ 1500 + 60 * i) ?_ ?_ ?_)
  · exact ⟨_, _, _, _, [], rfl, rfl, by simp⟩
  · rintro i d σ h hi ⟨a4, a5, a6, a7, as, rfl, rfl, hl⟩
    obtain ⟨hi3, rfl⟩ := rng_get hi
    obtain ⟨v, hv⟩ := cell (k := k) (ns := ns) (h := hd as) (i := (i : Int)) (by omega)
    have m1 : ∀ {x : Int} {h : DH}, binD h .mul (.int x) (.int 48271) = .ok (.int (x * 48271)) h := big1 (by decide)
    have m2 : ∀ {x : Int} {h : DH}, binD h .mul (.int x) (.int 69621) = .ok (.int (x * 69621)) h := big1 (by decide)
    have m3 : ∀ {x : Int} {h : DH}, binD h .mul (.int x) (.int 16807) = .ok (.int (x * 16807)) h := big1 (by decide)
    have m4 : ∀ {x : Int} {h : DH}, binD h .mul (.int 7) (.int x) = .ok (.int (7 * x)) h := big2 (by decide)
    have m5 : ∀ {x : Int} {h : DH}, binD h .mul (.int 2) (.int x) = .ok (.int (2 * x)) h := big2 (by decide)
    have q1 : ∀ {x : Int} {h : DH}, binD h .mod (.int x) (.int 1000) = .ok (.int (x.fmod 1000)) h := mod_int (by decide)
    have q2 : ∀ {x : Int} {h : DH}, binD h .mod (.int x) (.int 2147483647) = .ok (.int (x.fmod 2147483647)) h := mod_int (by decide)
    have d1 : ∀ {x : Int} {h : DH}, binD h .fdiv (.int x) (.int 1000) = .ok (.int (x.fdiv 1000)) h := fdiv_int (by decide)
    have d2 : ∀ {x : Int} {h : DH}, binD h .fdiv (.int x) (.int 997) = .ok (.int (x.fdiv 997)) h := fdiv_int (by decide)
    by_cases c1 : 1500 < (as.length : Int)
    · simp [c1]
      exact ⟨_, rfl, by omega⟩
    · simp [c1, hv, m5]
      refine sat_then (fun σ h => ∃ w : Int, σ = dfr ns (some (.int i)) (some (.int w)) a6 a7 ∧ h = hd as) (by split <;> exact ⟨_, rfl, rfl⟩) ?_
      rintro σ h ⟨w, rfl, rfl⟩
      by_cases c3 : 1000000000000000000 ≤ w
      · simp [pow18, c3, lim]
        refine sat_seq (sat_seq (frB_items (I := fun j σ h => ∃ (w : Int) (a6 a7 : Option D) (as' : List Int), σ = dfr ns (some (.int i)) (some (.int w)) a6 a7 ∧ h = hd as' ∧ as'.length ≤ as.length + j) ?_ ?_ ?_))
        · exact ⟨_, _, _, _, rfl, rfl, by simp⟩
        · rintro j d σ h hj ⟨w, a6, a7, as', rfl, rfl, hl'⟩
          obtain ⟨hj3, rfl⟩ := rng_get hj
          have hs : as'.length < SL := by simp [SL]; omega
          by_cases c4 : 0 < w
          · simp [c4, mtk_hd, q1, app_hd hs, d1]
            exact ⟨_, rfl, by simp; omega⟩
          · simp [c4]
            exact ⟨_, rfl, by omega⟩
        · rintro σ h ⟨w, a6, a7, as', rfl, rfl, hl'⟩
          simp
          refine ⟨_, rfl, ?_⟩
          rw [rng_len] at hl'
          omega
      · simp [pow18, c3, lim, m1, m2, q2]
        refine sat_seq (sat_seq (frB_items (I := fun j σ h => ∃ (w u : Int) (a6 : Option D) (as' : List Int), σ = dfr ns (some (.int i)) (some (.int w)) a6 (some (.int u)) ∧ h = hd as' ∧ as'.length ≤ as.length + j) ?_ ?_ ?_))
        · exact ⟨_, _, _, _, rfl, rfl, by simp⟩
        · rintro j d σ h hj ⟨w, u, a6, as', rfl, rfl, hl'⟩
          obtain ⟨hj3, rfl⟩ := rng_get hj
          have hs : as'.length < SL := by simp [SL]; omega
          simp [m3, m4, mtk_hd, q1, q2, d2, app_hd hs]
          exact ⟨_, rfl, by simp; omega⟩
        · rintro σ h ⟨w, u, a6, as', rfl, rfl, hl'⟩
          simp
          refine ⟨_, rfl, ?_⟩
          rw [rng_len] at hl'
          omega
  · rintro σ h ⟨a4, a5, a6, a7, as, rfl, rfl, hl⟩
    simp
    exact ⟨_, rfl, by rw [rng_len] at hl; omega⟩
end K21

set_option linter.all false
namespace K21
open FD
/-! ### texts of values -/
def esc1 (c : Nat) : List Nat := if c = 92 then [92, 92] else if c = 34 then [92, 34] else if c = 10 then [92, 110] else [c]
def esc (s : List Nat) : List Nat := s.flatMap esc1
mutual
def txt : D → List Nat
  | .non => [78]
  | .bl true => [84]
  | .bl false => [70]
  | .int i => strOf i
  | .str s => 34 :: (esc s ++ [34])
  | .tup xs => 40 :: (joinS [32] (txts xs) ++ [41])
  | _ => []
def txts : List D → List (List Nat)
  | [] => []
  | x :: xs => txt x :: txts xs
end
theorem txts_map : ∀ xs : List D, txts xs = xs.map txt
  | [] => rfl
  | x :: xs => by simp [txts, txts_map xs]
inductive Val : Nat → D → Prop where
  | non {d : Nat} : Val d .non
  | bl {d : Nat} (b : Bool) : Val d (.bl b)
  | int {d : Nat} (i : Int) (h : i.natAbs < 10 ^ 22) : Val d (.int i)
  | str {d : Nat} (s : List Nat) (h : s.length ≤ 8) (q : ∀ c ∈ s, c < 1114112) : Val d (.str s)
  | tup {d : Nat} (xs : List D) (h : ∀ x ∈ xs, Val d x) : Val (d + 1) (.tup xs)
theorem Val.mono {d e : Nat} {v : D} (h : Val d v) (q : d ≤ e) : Val e v := by
  induction h generalizing e with
  | non => exact .non
  | bl b => exact .bl b
  | int i h => exact .int i h
  | str s h q' => exact .str s h q'
  | tup xs h ih =>
    cases e with
    | zero => omega
    | succ e => exact .tup xs fun x hx => ih x hx (by omega)
theorem esc_rep : ∀ s : List Nat, rep1 10 [92, 110] (rep1 34 [92, 34] (rep1 92 [92, 92] s)) = esc s
  | [] => rfl
  | c :: s => by
    have ih := esc_rep s
    unfold rep1 esc at ih ⊢
    simp only [List.flatMap_cons, List.flatMap_append]
    rw [ih]
    congr 1
    unfold esc1
    by_cases h1 : c = 92
    · subst h1; rfl
    · by_cases h2 : c = 34
      · subst h2; rfl
      · by_cases h3 : c = 10
        · subst h3; rfl
        · simp [h1, h2, h3]
theorem rep1_len (c : Nat) (z s : List Nat) (hz : z.length = 2) : (rep1 c z s).length ≤ 2 * s.length := by
  induction s with
  | nil => simp [rep1]
  | cons x s ih =>
    unfold rep1 at ih ⊢
    rw [List.flatMap_cons, List.length_append, List.length_cons]
    have : (if x = c then z else [x]).length ≤ 2 := by split <;> simp [hz]
    omega
theorem replD_esc {s : List Nat} (h : s.length ≤ 8) : replD [(92, [92, 92]), (34, [92, 34]), (10, [92, 110])] s = some (esc s) := by
  have l1 := rep1_len 92 [92, 92] s rfl
  have l2 := rep1_len 34 [92, 34] (rep1 92 [92, 92] s) rfl
  unfold replD
  rw [if_pos (by simp [SL]; omega)]
  unfold replD
  rw [if_pos (by simp [SL]; omega)]
  unfold replD
  rw [if_pos (by simp [SL]; omega)]
  unfold replD
  rw [esc_rep]
theorem esc_len {s : List Nat} (h : s.length ≤ 8) : (esc s).length ≤ 64 := by
  have l1 := rep1_len 92 [92, 92] s rfl
  have l2 := rep1_len 34 [92, 34] (rep1 92 [92, 92] s) rfl
  have l3 := rep1_len 10 [92, 110] (rep1 34 [92, 34] (rep1 92 [92, 92] s)) rfl
  rw [esc_rep] at l3
  omega
/-! ### the join's length -/
theorem join_len : ∀ ss : List (List Nat), (joinS [32] ss).length + (if ss = [] then 0 else 1) = (ss.map (·.length)).sum + ss.length
  | [] => rfl
  | [x] => by simp [joinS]
  | x :: y :: r => by
    have ih := join_len (y :: r)
    simp [joinS] at ih ⊢
    omega
theorem mem_join {ss : List (List Nat)} {s : List Nat} (h : s ∈ ss) : s.length ≤ (joinS [32] ss).length := by
  induction ss with
  | nil => cases h
  | cons x r ih =>
    cases r with
    | nil => rw [List.mem_singleton.mp h]; exact Nat.le_refl _
    | cons y r =>
      show s.length ≤ (x ++ [32] ++ joinS [32] (y :: r)).length
      rw [List.length_append, List.length_append]
      rcases List.mem_cons.mp h with rfl | h
      · omega
      · have := ih h; omega
theorem strsOf_map : ∀ ss : List (List Nat), strsOf (ss.map .str) = some ss
  | [] => rfl
  | s :: ss => by simp [strsOf, strsOf_map ss]
def B : Nat := 1000000
theorem joinM {xs : List D} (hl : (txt (.tup xs)).length ≤ B) : mlD .join (.str [32]) (xs.map fun x => .str (txt x)) = some (.str (joinS [32] (txts xs))) := by
  have e : (xs.map fun x => D.str (txt x)) = (txts xs).map .str := by rw [txts_map, List.map_map]; rfl
  rw [e]
  show (match strsOf ((txts xs).map .str) with
    | some ys => if (ys.map (fun y : List Nat => y.length)).sum + ys.length * [32].length ≤ SL then some (D.str (joinS [32] ys)) else none
    | none => none) = _
  rw [strsOf_map]
  have h1 := join_len (txts xs)
  have h2 : (joinS [32] (txts xs)).length ≤ B := by
    simp [txt] at hl
    omega
  refine if_pos ?_
  simp only [List.length_singleton, Nat.mul_one]
  have : (if txts xs = [] then 0 else 1) ≤ 1 := by split <;> omega
  simp only [SL, B] at *
  omega
theorem mem_len {xs : List D} {x : D} (h : x ∈ xs) : (txt x).length ≤ (txt (.tup xs)).length := by
  have := mem_join (ss := txts xs) (s := txt x) (by rw [txts_map]; exact List.mem_map_of_mem h)
  simp [txt]
  omega
theorem int_bits {i : Int} (h : i.natAbs < 10 ^ 22) : i.natAbs.log2 < 1920 := by
  by_cases h0 : i.natAbs = 0
  · rw [h0]; decide
  · have h1 : i.natAbs.log2 < 80 := by
      rw [Nat.log2_lt h0]
      exact Nat.lt_trans h (by decide)
    omega
/-! ### both writers -/
theorem take_get {xs : List D} {i : Nat} {d : D} (h : xs[i]? = some d) : xs.take (i + 1) = xs.take i ++ [d] := by
  rw [List.take_succ, h]; rfl
theorem txt_two (xs : List D) : 2 ≤ (txt (.tup xs)).length := by simp [txt]
theorem txts_len : ∀ xs : List D, (txts xs).length = xs.length
  | [] => rfl
  | x :: xs => by simp [txts, txts_len xs]
theorem many {xs : List D} (hl : (txt (.tup xs)).length ≤ B) : xs.length ≤ SL := by
  have h1 := join_len (txts xs)
  rw [txts_len] at h1
  have h2 : (joinS [32] (txts xs)).length ≤ B := by simp [txt] at hl; omega
  simp only [SL, B] at *
  have : (if txts xs = [] then 0 else 1) ≤ 1 := by split <;> omega
  omega
theorem plain_ok {d : Nat} {v : D} (hv : Val d v) : ∀ {k : Nat} {h : DH}, (txt v).length ≤ B → (C (k + d + 1)).fn 4 [v] h = .ok (.str (txt v)) h := by
  induction hv with
  | non => intro k h _; refine of_sat (sat_fn (d := A.g4) rfl rfl ?_); simp [A.g4, A.b4, isD, txt]
  | bl b => intro k h _; refine of_sat (sat_fn (d := A.g4) rfl rfl ?_); cases b <;> simp [A.g4, A.b4, isD, txt]
  | int i hi => intro k h _; refine of_sat (sat_fn (d := A.g4) rfl rfl ?_); simp [A.g4, A.b4, isD, txt, isiD, biD, int_bits hi]
  | str s hs q =>
    intro k h _
    refine of_sat (sat_fn (d := A.g4) rfl rfl ?_)
    have := esc_len hs
    have e : 1 + (esc s).length ≤ SL := by simp [SL]; omega
    have e2 : (34 :: esc s).length + [34].length ≤ SL := by simp [SL]; omega
    simp [A.g4, A.b4, isD, txt, isiD, replD_esc hs, e, add_str e2]
  | tup xs hx ih =>
    intro k h hl
    refine of_sat (sat_fn (d := A.g4) rfl rfl ?_)
    have m := cpB_map (C := C (k + _ + 1)) (elt := E.call 4 (Es.cons (E.sl 1) Es.nil)) (tg := T.sl 1) (σ := [some (D.tup xs), none]) (h := h) (fun x => .str (txt x)) (many hl) (fun x hx => ⟨[some (D.tup xs), some x], rfl, by simp; exact ih x hx (Nat.le_trans (mem_len hx) hl)⟩)
    have j := joinM hl
    have hl' : (joinS [32] (txts xs)).length + 2 ≤ B := by simp [txt] at hl; omega
    have e1 : [40].length + (joinS [32] (txts xs)).length ≤ SL := by simp [SL, B] at *; omega
    have e2 : (40 :: joinS [32] (txts xs)).length + [41].length ≤ SL := by simp [SL, B] at *; omega
    have m' : cpB (runN A.fs A.fuel (k + (_ + 1))) (E.call 4 (Es.cons (E.sl 1) Es.nil)) (T.sl 1) Oe.none [some (D.tup xs), none] (.items xs) h = .ok (xs.map fun x => .str (txt x)) h := m
    simp [A.g4, A.b4, isD, txt, isiD, m', j, add_str e1, add_str e2]
theorem quoted_ok {k : Nat} {h : DH} {s : List Nat} (hs : s.length ≤ 8) : (C (k + 1)).fn 9 [.str s] h = .ok (.str (txt (.str s))) h := by
  refine of_sat (sat_fn (d := A.g9) rfl rfl ?_)
  have := esc_len hs
  have e : 1 + (esc s).length ≤ SL := by simp [SL]; omega
  have e2 : (34 :: esc s).length + [34].length ≤ SL := by simp [SL]; omega
  simp [A.g9, A.b9, txt, replD_esc hs, e, add_str e2]
theorem show_ok {d : Nat} {v : D} (hv : Val d v) : ∀ {k : Nat} {h : DH}, (txt v).length ≤ B → (C (k + d + 2)).fn 6 [v] h = .ok (.str (txt v)) h := by
  induction hv with
  | non => intro k h _; refine of_sat (sat_fn (d := A.g6) rfl rfl ?_); simp [A.g6, A.b6, isD, txt]
  | bl b => intro k h _; refine of_sat (sat_fn (d := A.g6) rfl rfl ?_); cases b <;> simp [A.g6, A.b6, isD, txt]
  | int i hi => intro k h _; refine of_sat (sat_fn (d := A.g6) rfl rfl ?_); simp [A.g6, A.b6, isD, txt, isiD, biD, int_bits hi]
  | @str d s hs q =>
    intro k h _
    refine of_sat (sat_fn (d := A.g6) rfl rfl ?_)
    have m := quoted_ok (k := k + d) (h := h) hs
    simp [A.g6, A.b6, isD, isiD, m]
  | @tup d xs hx ih =>
    intro k h hl
    refine of_sat (sat_fn (d := A.g6) rfl rfl ?_)
    have m := cpB_map (C := C (k + d + 2)) (elt := E.call 6 (Es.cons (E.sl 1) Es.nil)) (tg := T.sl 1) (σ := [some (D.tup xs), none]) (h := h) (fun x => .str (txt x)) (many hl) (fun x hx => ⟨[some (D.tup xs), some x], rfl, by simp; exact ih x hx (Nat.le_trans (mem_len hx) hl)⟩)
    have j := joinM hl
    have hl' : (joinS [32] (txts xs)).length + 2 ≤ B := by simp [txt] at hl; omega
    have e1 : [40].length + (joinS [32] (txts xs)).length ≤ SL := by simp [SL, B] at *; omega
    have e2 : (40 :: joinS [32] (txts xs)).length + [41].length ≤ SL := by simp [SL, B] at *; omega
    have m' : cpB (runN A.fs A.fuel (k + (d + 1) + 1)) (E.call 6 (Es.cons (E.sl 1) Es.nil)) (T.sl 1) Oe.none [some (D.tup xs), none] (.items xs) h = .ok (xs.map fun x => .str (txt x)) h := m
    simp [A.g6, A.b6, isD, txt, isiD, m', j, add_str e1, add_str e2]
end K21

set_option linter.all false
namespace K21
open FD
/-! ### reading: places -/
theorem sIx_nat {n d a : Nat} : sIx n d (some (a : Int)) = min a n := by
  simp only [sIx]
  rw [if_neg (by omega)]
  simp
theorem cut_at {t rest : List Nat} {p n : Nat} (h : t.drop p = rest) : cut t (some (p : Int)) (some ((p : Int) + (n : Int))) = rest.take n := by
  have e : (p : Int) + (n : Int) = ((p + n : Nat) : Int) := by omega
  unfold cut
  rw [e, sIx_nat, sIx_nat, ← h]
  by_cases hp : p ≤ t.length
  · rw [Nat.min_eq_left hp]
    by_cases hq : p + n ≤ t.length
    · rw [Nat.min_eq_left hq, show p + n - p = n by omega]
    · rw [Nat.min_eq_right (by omega)]
      rw [List.take_of_length_le (by simp), List.take_of_length_le (by simp; omega)]
  · rw [List.drop_eq_nil_of_le (by omega), List.drop_eq_nil_of_le (by omega)]
    simp
theorem cut_one {t rest : List Nat} {p : Nat} (h : t.drop p = rest) : cut t (some (p : Int)) (some ((p : Int) + 1)) = rest.take 1 := cut_at (n := 1) h
theorem drop_more {t a b : List Nat} {p : Nat} (h : t.drop p = a ++ b) : t.drop (p + a.length) = b := by
  rw [← List.drop_drop, h]; simp
def figs : List Nat := [48, 49, 50, 51, 52, 53, 54, 55, 56, 57]
theorem figs_mem {c : Nat} (h : 48 ≤ c ∧ c ≤ 57) : figs.contains c = true := by
  have : c = 48 ∨ c = 49 ∨ c = 50 ∨ c = 51 ∨ c = 52 ∨ c = 53 ∨ c = 54 ∨ c = 55 ∨ c = 56 ∨ c = 57 := by omega
  rcases this with rfl | rfl | rfl | rfl | rfl | rfl | rfl | rfl | rfl | rfl <;> rfl
theorem figs_not {c : Nat} (h : c < 48) : figs.contains c = false := by
  have : ∀ d ∈ figs, d ≠ c := by
    intro d hd
    have : 48 ≤ d := by
      simp [figs] at hd
      omega
    omega
  simp only [List.contains_eq_mem, decide_eq_false_iff_not]
  exact fun hm => this c hm rfl
/-- what may stand behind a value -/
def Term (rest : List Nat) : Prop := rest = [] ∨ ∃ r, rest = 32 :: r ∨ rest = 41 :: r
/-! ### whole numbers -/
theorem integer_at {k : Nat} {h : DH} {t sg ds rest : List Nat} {p c : Nat} {ds' : List Nat} {i : Int} (ht : t.length ≤ B) (hp : t.drop p = sg ++ (ds ++ rest)) (hs : sg = [] ∨ sg = [45]) (hd : ds = c :: ds') (ha : ∀ x ∈ ds, 48 ≤ x ∧ x ≤ 57) (h0 : c = 48 → ds' = [] ∧ sg = [])
    (hl : ds.length ≤ 600) (hr : Term rest) (hi : intOf (sg ++ ds) = some i) : ((C (k + 1)).fn 13 [.str t, .int p] h).sat fun r h' => r = .tup [.int i, .int ((p : Int) + (sg.length : Int) + (ds.length : Int))] ∧ h' = h := by
  refine sat_fn (d := A.g13) rfl rfl ?_
  have tl : t.length ≤ SL := by simp only [SL, B] at *; omega
  have hc := ha c (by rw [hd]; exact List.mem_cons_self)
  have hb : t.drop (p + sg.length) = ds ++ rest := drop_more hp
  -- the sign
  have e1 : cut t (some (p : Int)) (some ((p : Int) + 1)) = (sg ++ (ds ++ rest)).take 1 := cut_one hp
  have e2 : cut t (some ((p : Int) + (sg.length : Int))) (some ((p : Int) + (sg.length : Int) + 1)) = [c] := by
    have := cut_one hb
    rw [hd] at this
    rw [show (p : Int) + (sg.length : Int) = ((p + sg.length : Nat) : Int) by omega]
    exact this
  have nf : figs.contains c = true := figs_mem hc
  have n45 : c ≠ 45 := by omega
  have ic : inD h (.str [c]) (.str [48, 49, 50, 51, 52, 53, 54, 55, 56, 57]) = some true := by show some (figs.contains c) = _; rw [nf]
  obtain ⟨b, hbg, hcut⟩ : ∃ b : Nat, b = p + sg.length ∧ (sg = [] → b = p) := ⟨_, rfl, fun e => by rw [e]; rfl⟩
  rw [show (p : Int) + (sg.length : Int) = (b : Int) by omega] at e2 ⊢
  rw [← hbg] at hb
  rw [hd] at hb
  have hb1 : t.drop (b + 1) = ds' ++ rest := drop_more (a := [c]) hb
  have hfuel : (runN A.fs A.fuel k).fuel = 100000 := by cases k <;> rfl
  simp only [A.g13, A.b13, ss_cons]
  refine sat_then (fun σ h' => σ = [some (.str t), some (.int p), some (.int b), none, none] ∧ h = h') ?_ ?_
  · rcases hs with rfl | rfl
    · have e1' : cut t (some (p : Int)) (some ((p : Int) + 1)) = [c] := by rw [e1, hd]; rfl
      simp [sli_str tl, e1', n45]
      simp at hbg
      omega
    · have e1' : cut t (some (p : Int)) (some ((p : Int) + 1)) = [45] := by rw [e1]; rfl
      simp [sli_str tl, e1']
      simp at hbg
      omega
  rintro _ _ ⟨rfl, rfl⟩
  simp [sli_str tl, e2, ic]
  refine sat_then (fun σ h' => σ = [some (.str t), some (.int p), some (.int b), some (.str [c]), none] ∧ h = h') ?_ ?_
  · split
    · rename_i z
      have := hcut (h0 z).2
      rw [if_neg (by omega)]
      exact ⟨rfl, rfl⟩
    · exact ⟨rfl, rfl⟩
  rintro _ _ ⟨rfl, rfl⟩
  simp [sli_str tl]
  refine sat_then (fun σ h' => σ = [some (.str t), some (.int p), some (.int b), some (.str [c]), some (.int ((b : Int) + (ds.length : Int)))] ∧ h = h') ?_ ?_
  · refine whB_sat (fun m σ h' => ∃ j : Nat, j + m = ds'.length ∧ σ = [some (.str t), some (.int p), some (.int b), some (.str [c]), some (.int ((b : Int) + 1 + (j : Int)))] ∧ h = h') ds'.length (by rw [hfuel]; rw [hd] at hl; simp at hl; omega) ⟨0, by omega, by simp, rfl⟩ ?_
    rintro m _ _ ⟨j, hj, rfl, rfl⟩
    have hj1 : t.drop (b + 1 + j) = ds'.drop j ++ rest := by
      rw [← List.drop_drop, hb1, List.drop_append_of_le_length (by omega)]
    have e3 := cut_one hj1
    rw [show ((b + 1 + j : Nat) : Int) = (b : Int) + 1 + (j : Int) by omega] at e3
    by_cases hm : m = 0
    · rw [List.drop_eq_nil_of_le (by omega), List.nil_append] at e3
      have fin : (b : Int) + 1 + (j : Int) = (b : Int) + (ds.length : Int) := by rw [hd]; simp; omega
      rw [fin] at e3
      rcases hr with rfl | ⟨r, rfl | rfl⟩
      · simp [sli_str tl, e3, fin]
      · have : inD h (.str [32]) (.str [48, 49, 50, 51, 52, 53, 54, 55, 56, 57]) = some false := rfl
        simp [sli_str tl, e3, fin, this]
      · have : inD h (.str [41]) (.str [48, 49, 50, 51, 52, 53, 54, 55, 56, 57]) = some false := rfl
        simp [sli_str tl, e3, fin, this]
    · have hlt : j < ds'.length := by omega
      rw [List.drop_eq_getElem_cons hlt] at e3
      replace e3 : cut t (some ((b : Int) + 1 + (j : Int))) (some ((b : Int) + 1 + (j : Int) + 1)) = [ds'[j]] := e3
      have hx : 48 ≤ ds'[j] ∧ ds'[j] ≤ 57 := ha _ (by rw [hd]; exact List.mem_cons_of_mem _ (List.getElem_mem hlt))
      have ix : inD h (.str [ds'[j]]) (.str [48, 49, 50, 51, 52, 53, 54, 55, 56, 57]) = some true := by show some (figs.contains _) = _; rw [figs_mem hx]
      have nc : c ≠ 48 := fun z => by have := (h0 z).1; rw [this] at hlt; simp at hlt
      have n2 : ¬ ((b : Int) + 1 + (j : Int) - (b : Int) = 2000) := by rw [hd] at hl; simp at hl; omega
      simp [sli_str tl, e3, ix, nc, n2]
      exact ⟨m - 1, by omega, j + 1, by omega, by omega⟩
  rintro _ _ ⟨rfl, rfl⟩
  have e4 : cut t (some (p : Int)) (some ((b : Int) + (ds.length : Int))) = sg ++ ds := by
    have := cut_at (n := sg.length + ds.length) hp
    rw [show (p : Int) + ((sg.length + ds.length : Nat) : Int) = (b : Int) + (ds.length : Int) by omega, ← List.append_assoc, List.take_left' (by simp)] at this
    exact this
  have bi : biD h .int (.str (sg ++ ds)) = some (.int i) := by
    show (if (sg ++ ds).length ≤ 640 then (intOf (sg ++ ds)).map D.int else none) = _
    rw [if_pos (by rcases hs with rfl | rfl <;> simp <;> omega), hi]
    rfl
  simp [sli_str tl, e4, bi, SL]
end K21

set_option linter.all false
set_option maxRecDepth 10000
namespace K21
open FD
/-! ### texts -/
theorem fndL_hit {c : Nat} {r : List Nat} : ∀ {a : List Nat} {k : Nat}, c ∉ a → fndL c (a ++ c :: r) k = some (k + a.length)
  | [], k, _ => by simp [fndL]
  | x :: a, k, h => by
    have hx : x ≠ c := fun e => h (by simp [e])
    have := fndL_hit (a := a) (k := k + 1) (r := r) fun m => h (List.mem_cons_of_mem _ m)
    simp only [List.cons_append, fndL, if_neg hx, this, List.length_cons]
    congr 1; omega
theorem fndL_miss {c : Nat} : ∀ {a : List Nat} {k : Nat}, c ∉ a → fndL c a k = none
  | [], k, _ => rfl
  | x :: a, k, h => by
    have hx : x ≠ c := fun e => h (by simp [e])
    simp only [fndL, if_neg hx]
    exact fndL_miss fun m => h (List.mem_cons_of_mem _ m)
theorem fndL_skip {c : Nat} {r : List Nat} : ∀ {a : List Nat} {k : Nat}, c ∉ a → fndL c (a ++ r) k = fndL c r (k + a.length)
  | [], k, _ => by simp
  | x :: a, k, h => by
    have hx : x ≠ c := fun e => h (by simp [e])
    simp only [List.cons_append, fndL, if_neg hx]
    rw [fndL_skip fun m => h (List.mem_cons_of_mem _ m)]
    congr 1; simp; omega
theorem fndL_some {c : Nat} : ∀ {a : List Nat} {k : Nat}, c ∈ a → ∃ j, fndL c a k = some j ∧ k ≤ j ∧ j < k + a.length
  | x :: a, k, h => by
    by_cases hx : x = c
    · exact ⟨k, by simp [fndL, hx], Nat.le_refl _, by simp⟩
    · obtain ⟨j, h1, h2, h3⟩ := fndL_some (a := a) (k := k + 1) (by
        rcases List.mem_cons.mp h with e | e
        · exact absurd e.symm hx
        · exact e)
      exact ⟨j, by simp only [fndL, if_neg hx, h1], by omega, by simp; omega⟩
theorem find2 {h : DH} {t : List Nat} {c q : Nat} : mtD h .find2 (.str t) [.str [c], .int (q : Int)] = .ok (.int (fnd t c q t.length)) h := by
  show Out.ok (D.int (fnd t c (fromIx t.length (q : Int)) t.length)) h = _
  have : fromIx t.length (q : Int) = q := by unfold fromIx; rw [if_neg (by omega)]; omega
  rw [this]
theorem find3 {h : DH} {t : List Nat} {c q j : Nat} : mtD h .find3 (.str t) [.str [c], .int (q : Int), .int (j : Int)] = .ok (.int (fnd t c q (min j t.length))) h := by
  show (if (0 : Int) ≤ (j : Int) then Out.ok (D.int (fnd t c (fromIx t.length (q : Int)) (min (j : Int).toNat t.length))) h else .bad) = _
  have : fromIx t.length (q : Int) = q := by unfold fromIx; rw [if_neg (by omega)]; omega
  rw [this, if_pos (by omega), Int.toNat_natCast]
theorem take_drop {t a b : List Nat} {q : Nat} (h : t.drop q = a ++ b) : (t.take (min (q + a.length) t.length)).drop q = a := by
  rw [List.drop_take, h]
  have : t.length - q = a.length + b.length := by rw [← List.length_drop, h, List.length_append]
  rw [show min (q + a.length) t.length - q = a.length by omega]
  simp
def fI : Option Nat → Int
  | some k => k
  | none => -1
theorem fnd_all {t a : List Nat} {c q : Nat} (h : t.drop q = a) : fnd t c q t.length = fI (fndL c a q) := by
  unfold fnd
  rw [List.take_length, h]
  cases fndL c a q <;> rfl
theorem fnd_to {t a b : List Nat} {c q j : Nat} (h : t.drop q = a ++ b) (hj : j = q + a.length) : fnd t c q (min j t.length) = fI (fndL c a q) := by
  subst hj
  unfold fnd
  rw [take_drop h]
  cases fndL c a q <;> rfl
def spec (c : Nat) : Bool := c == 92 || c == 34 || c == 10
def esc2 (c : Nat) : Nat := if c = 10 then 110 else c
theorem esc_plain : ∀ {s : List Nat}, (∀ c ∈ s, spec c = false) → esc s = s
  | [], _ => rfl
  | c :: s, h => by
    have hc := h c List.mem_cons_self
    simp [spec] at hc
    have ih := esc_plain fun x hx => h x (List.mem_cons_of_mem _ hx)
    show esc1 c ++ esc s = c :: s
    rw [ih]
    simp [esc1, hc]
theorem esc_spec {c : Nat} (h : spec c = true) : esc1 c = [92, esc2 c] := by
  simp [spec] at h
  rcases h with (rfl | rfl) | rfl <;> rfl
theorem esc_split (s : List Nat) : (∀ c ∈ s, spec c = false) ∨ ∃ s1 c s3, s = s1 ++ c :: s3 ∧ (∀ x ∈ s1, spec x = false) ∧ spec c = true := by
  induction s with
  | nil => exact .inl fun c hc => by cases hc
  | cons x s ih =>
    by_cases hx : spec x = true
    · exact .inr ⟨[], x, s, rfl, (fun c hc => by cases hc), hx⟩
    · have hx' : spec x = false := by simpa using hx
      rcases ih with ih | ⟨s1, c, s3, rfl, h1, h2⟩
      · refine .inl fun c hc => ?_
        rcases List.mem_cons.mp hc with rfl | hc
        · exact hx'
        · exact ih c hc
      · refine .inr ⟨x :: s1, c, s3, rfl, fun c hc => ?_, h2⟩
        rcases List.mem_cons.mp hc with rfl | hc
        · exact hx'
        · exact h1 c hc
theorem esc_app (a b : List Nat) : esc (a ++ b) = esc a ++ esc b := by simp [esc]
theorem not_spec {s : List Nat} (h : ∀ c ∈ s, spec c = false) {x : Nat} (hx : spec x = true) : x ∉ s := fun m => by rw [h x m] at hx; cases hx
theorem join_nil : ∀ ps : List (List Nat), joinS [] ps = ps.flatten
  | [] => rfl
  | [x] => by simp [joinS]
  | x :: y :: r => by
    have := join_nil (y :: r)
    simp [joinS] at this ⊢
    exact this
theorem get_mid {h g : DH} {o : O} : (h ++ o :: g)[h.length]? = some o := by simp
theorem lget_mid {h g : DH} {xs : List D} : lget (h ++ .lst xs :: g) h.length = some xs := by unfold lget; rw [get_mid]
theorem set_mid {h g : DH} {o o' : O} : (h ++ o :: g).set h.length o' = h ++ o' :: g := by simp
theorem app_mid {h g : DH} {xs : List D} {y : D} (hl : xs.length < SL) : mtD (h ++ .lst xs :: g) .append (.ref h.length) [y] = .ok .non (h ++ .lst (xs ++ [y]) :: g) := by
  show appD (h ++ .lst xs :: g) (.ref h.length) [y] = _
  unfold appD
  dsimp only
  rw [get_mid]
  dsimp only
  rw [if_pos hl, set_mid]
theorem mtk_mid {h g : DH} {xs : List D} : mtK (h ++ .lst xs :: g) .append (.ref h.length) = true := by
  show (lget (h ++ .lst xs :: g) h.length).isSome = true
  rw [lget_mid]; rfl
theorem joi_mid {h g : DH} {ps : List (List Nat)} (hl : ps.flatten.length ≤ SL) : mtD (h ++ .lst (ps.map .str) :: g) .join (.str []) [.ref h.length] = .ok (.str ps.flatten) (h ++ .lst (ps.map .str) :: g) := by
  show joiD (h ++ .lst (ps.map .str) :: g) (.str []) [.ref h.length] = _
  unfold joiD
  dsimp only
  rw [get_mid]
  dsimp only
  have : mlD .join (.str []) (ps.map .str) = some (.str ps.flatten) := by
    show (match strsOf (ps.map .str) with
      | some ys => if (ys.map (fun y : List Nat => y.length)).sum + ys.length * ([] : List Nat).length ≤ SL then some (D.str (joinS [] ys)) else none
      | none => none) = _
    rw [strsOf_map]
    dsimp only
    rw [join_nil, if_pos]
    rw [List.length_flatten] at hl
    simpa using hl
  rw [this]
  rfl
theorem text_at {k : Nat} {h : DH} {t s rest : List Nat} {p : Nat} (ht : t.length ≤ B) (hp : t.drop p = esc s ++ 34 :: rest) (hs : s.length ≤ 8) : ((C (k + 1)).fn 11 [.str t, .int p] h).sat fun r h' => r = .tup [.str s, .int ((p : Int) + ((esc s).length : Int) + 1)] ∧ ∃ g, h' = h ++ g := by
  refine sat_fn (d := A.g11) rfl rfl ?_
  have tl : t.length ≤ SL := by simp only [SL, B] at *; omega
  have hfuel : (runN A.fs A.fuel k).fuel = 100000 := by cases k <;> rfl
  simp [A.g11, A.b11]
  refine sat_seq (whB_sat (fun m σ h' => ∃ (s2 : List Nat) (ps : List (List Nat)) (q : Nat) (a3 a4 a5 a6 a7 : Option D), s2.length = m ∧ s = ps.flatten ++ s2 ∧ ps.length ≤ 2 * (s.length - s2.length) ∧ q + (esc s2).length = p + (esc s).length ∧ t.drop q = esc s2 ++ 34 :: rest ∧
    σ = [some (.str t), some (.int q), some (.ref h.length), a3, a4, a5, a6, a7] ∧ h' = h ++ [.lst (ps.map .str)]) s.length (by rw [hfuel]; omega) ⟨s, [], p, none, none, none, none, none, rfl, rfl, by simp, rfl, hp, rfl, rfl⟩ ?_)
  rintro m _ _ ⟨s2, ps, q, a3, a4, a5, a6, a7, hm, hs2, hps, hq, hd, rfl, rfl⟩
  have l2 : ps.flatten.length + s2.length = s.length := by rw [hs2, List.length_append]
  have hpl : (ps.map D.str).length < SL := by simp [SL]; omega
  simp
  rcases esc_split s2 with hpl2 | ⟨s1, c, s3, rfl, hpl1, hc⟩
  · -- the end
    rw [esc_plain hpl2] at hd hq
    obtain ⟨e, he⟩ : ∃ e : Nat, e = q + s2.length := ⟨_, rfl⟩
    have n34 : 34 ∉ s2 := not_spec hpl2 rfl
    have f1 := fnd_all (c := 34) hd
    rw [fndL_hit n34, ← he] at f1
    have f2 := fnd_to (c := 92) hd he
    rw [fndL_miss (not_spec hpl2 rfl)] at f2
    have f3 := fnd_to (c := 10) hd he
    rw [fndL_miss (not_spec hpl2 rfl)] at f3
    have e1 : cut t (some (q : Int)) (some (e : Int)) = s2 := by
      have := cut_at (n := s2.length) hd
      rw [show (q : Int) + (s2.length : Int) = (e : Int) by omega] at this
      rw [this]; simp
    have a1 : mtD (h ++ [O.lst (ps.map D.str)]) .append (.ref h.length) [.str s2] = .ok .non (h ++ [.lst ((ps ++ [s2]).map D.str)]) := by
      rw [app_mid hpl]; simp
    have j1 : mtD (h ++ [O.lst (ps.map D.str ++ [D.str s2])]) .join (.str []) [.ref h.length] = .ok (.str s) (h ++ [.lst (ps.map D.str ++ [D.str s2])]) := by
      have := joi_mid (h := h) (g := []) (ps := ps ++ [s2]) (by simp [SL] at *; omega)
      rw [List.map_append, List.flatten_append] at this
      rw [hs2]
      simpa using this
    have k1 : mtK (h ++ [O.lst (ps.map D.str)]) .append (.ref h.length) = true := mtk_mid
    rw [List.map_append] at a1
    have sl2 : 2 ≤ SL := by decide
    simp [find2, f1, fI, find3, f2, f3, bi_len tl, sli_str tl, e1, k1, a1, j1, sl2]
    omega
  · -- a sign behind a slash
    have he : esc (s1 ++ c :: s3) = s1 ++ (92 :: esc2 c :: esc s3) := by
      rw [esc_app, esc_plain hpl1]
      show s1 ++ (esc1 c ++ esc s3) = _
      rw [esc_spec hc]; rfl
    rw [he] at hd hq
    have hd' : t.drop q = s1 ++ (92 :: (esc2 c :: (esc s3 ++ 34 :: rest))) := by rw [hd]; simp
    obtain ⟨e, hee⟩ : ∃ e : Nat, e = q + s1.length := ⟨_, rfl⟩
    have hd2 : t.drop (e + 1) = esc2 c :: (esc s3 ++ 34 :: rest) := by
      have := drop_more (a := s1 ++ [92]) (b := esc2 c :: (esc s3 ++ 34 :: rest)) (p := q) (by rw [hd']; simp)
      have e9 : q + (s1 ++ [92]).length = e + 1 := by simp; omega
      rw [e9] at this
      exact this
    have hd3 : t.drop (e + 2) = esc s3 ++ 34 :: rest := drop_more (a := [esc2 c]) hd2
    obtain ⟨j, hj1, hj2, hj3⟩ := fndL_some (c := 34) (a := esc2 c :: (esc s3 ++ 34 :: rest)) (k := q + (s1 ++ [92]).length) (by simp)
    have hj2' : e + 1 ≤ j := by simp at hj2; omega
    have f1 := fnd_all (c := 34) hd'
    rw [show s1 ++ (92 :: (esc2 c :: (esc s3 ++ 34 :: rest))) = (s1 ++ [92]) ++ (esc2 c :: (esc s3 ++ 34 :: rest)) by simp, fndL_skip (by simp; exact not_spec hpl1 rfl), hj1] at f1
    have f2 : fnd t 92 q (min j t.length) = fI (some e) := by
      obtain ⟨n, hn⟩ : ∃ n, j = q + (s1 ++ 92 :: (esc2 c :: (esc s3 ++ 34 :: rest)).take n).length := by
        refine ⟨j - (e + 1), ?_⟩
        have : (List.take (j - (e + 1)) (esc2 c :: (esc s3 ++ 34 :: rest))).length = j - (e + 1) := by
          rw [List.length_take]
          have : (s1 ++ [92]).length = s1.length + 1 := by simp
          omega
        rw [List.length_append, List.length_cons, this]
        omega
      have := fnd_to (c := 92) (t := t) (a := s1 ++ 92 :: (esc2 c :: (esc s3 ++ 34 :: rest)).take n) (b := (esc2 c :: (esc s3 ++ 34 :: rest)).drop n) (q := q) (by rw [hd', List.append_assoc, List.cons_append, List.take_append_drop]) hn
      rw [this, fndL_hit (not_spec hpl1 rfl), hee]
    have f3 := fnd_to (c := 10) hd' hee
    rw [fndL_miss (not_spec hpl1 rfl)] at f3
    have e1 : cut t (some (q : Int)) (some (e : Int)) = s1 := by
      have := cut_at (n := s1.length) hd'
      rw [show (q : Int) + (s1.length : Int) = (e : Int) by omega] at this
      rw [this]; simp
    have e2 : cut t (some ((e : Int) + 1)) (some ((e : Int) + 2)) = [esc2 c] := by
      have := cut_at (n := 1) hd2
      rw [show ((e + 1 : Nat) : Int) + ((1 : Nat) : Int) = (e : Int) + 2 by omega, show ((e + 1 : Nat) : Int) = (e : Int) + 1 by omega] at this
      exact this
    have a1 : mtD (h ++ [O.lst (ps.map D.str)]) .append (.ref h.length) [.str s1] = .ok .non (h ++ [.lst ((ps ++ [s1]).map D.str)]) := by
      rw [app_mid hpl]; simp
    have a2 : mtD (h ++ [O.lst ((ps ++ [s1]).map D.str)]) .append (.ref h.length) [.str [c]] = .ok .non (h ++ [.lst ((ps ++ [s1] ++ [[c]]).map D.str)]) := by
      rw [app_mid (by simp [SL] at *; omega)]; simp
    have k1 : mtK (h ++ [O.lst (ps.map D.str)]) .append (.ref h.length) = true := mtk_mid
    have k2 : mtK (h ++ [O.lst ((ps ++ [s1]).map D.str)]) .append (.ref h.length) = true := mtk_mid
    have ej : ¬ ((e : Int) = (j : Int)) := by omega
    have in3 : ∀ {h : DH}, inD h (.str [esc2 c]) (.tup [.str [34], .str [92], .str [110]]) = some true := by
      intro h
      simp [spec] at hc
      rcases hc with (rfl | rfl) | rfl <;> rfl
    have back : (if esc2 c = 110 then [10] else [esc2 c]) = [c] := by
      simp [spec] at hc
      rcases hc with (rfl | rfl) | rfl <;> rfl
    rw [List.map_append] at a1
    have k2' : mtK (h ++ [O.lst (ps.map D.str ++ [D.str s1])]) .append (.ref h.length) = true := mtk_mid
    have a2' : mtD (h ++ [O.lst (ps.map D.str ++ [D.str s1])]) .append (.ref h.length) [.str [c]] = .ok .non (h ++ [.lst ((ps ++ [s1, [c]]).map D.str)]) := by
      rw [app_mid (by simp [SL] at *; omega)]; simp
    have fin : ∃ m', m' < m ∧ ∃ s2 : List Nat, s2.length = m' ∧ ∃ x : List (List Nat), s = x.flatten ++ s2 ∧ x.length ≤ 2 * (s.length - s2.length) ∧ ∃ x_1 : Nat, x_1 + (esc s2).length = p + (esc s).length ∧ List.drop x_1 t = esc s2 ++ 34 :: rest ∧ (e : Int) + 2 = (x_1 : Int) ∧ (ps ++ [s1, [c]]).map D.str = x.map D.str := by
      refine ⟨s3.length, ?_, s3, rfl, ps ++ [s1, [c]], ?_, ?_, e + 2, ?_, hd3, by omega, rfl⟩
      · rw [← hm]; simp; omega
      · rw [hs2]; simp
      · simp at hps l2 ⊢; omega
      · simp at hq; omega
    clear a2 k2
    simp [find2, f1, fI, find3, f2, f3, bi_len tl, sli_str tl, e1, e2, k1, a1, ej, in3, SL, k2']
    by_cases h110 : esc2 c = 110
    · have e10 : c = 10 := by
        simp [spec] at hc
        rcases hc with (rfl | rfl) | rfl
        · simp [esc2] at h110
        · simp [esc2] at h110
        · rfl
      subst e10
      simp [h110, a2']
      simpa using fin
    · have ec : esc2 c = c := by
        unfold esc2 at h110 ⊢
        split at h110
        · exact absurd rfl h110
        · rename_i z; rw [if_neg z]
      simp [ec] at h110
      simp [h110, ec, a2']
      simpa using fin
end K21

set_option linter.all false
set_option maxRecDepth 10000
namespace K21
open FD
theorem sat_ex {α : Type} {o : Out α} {Z : α → DH → Prop} (p : o.sat Z) : ∃ a h', o = .ok a h' ∧ Z a h' := by
  cases o with
  | ok a h' => exact ⟨a, h', rfl, p⟩
  | exc _ _ _ => exact p.elim
  | bad => exact p.elim
theorem str_head (i : Int) : ∃ c r, strOf i = c :: r ∧ (c = 45 ∨ (48 ≤ c ∧ c ≤ 57)) := by
  cases i with
  | ofNat n =>
    obtain ⟨c, r, e, _⟩ := digs_head n
    exact ⟨c, r, (strOf_nat n).trans e, .inr (digs_all n c (by rw [e]; exact List.mem_cons_self))⟩
  | negSucc n => exact ⟨45, _, strOf_neg n, .inl rfl⟩
theorem txt_head {d : Nat} {v : D} (h : Val d v) : ∃ c r, txt v = c :: r ∧ c ≠ 41 := by
  cases h with
  | non => exact ⟨78, [], rfl, by decide⟩
  | bl b => cases b; exact ⟨70, [], rfl, by decide⟩; exact ⟨84, [], rfl, by decide⟩
  | int i h =>
    obtain ⟨c, r, e, q⟩ := str_head i
    exact ⟨c, r, e, by omega⟩
  | str s h q => exact ⟨34, _, rfl, by decide⟩
  | tup xs h => exact ⟨40, _, rfl, by decide⟩
theorem tuple_at {K : Nat} {h : DH} {t rest : List Nat} {xs : List D} {p d : Nat} {w : Int} (ht : t.length ≤ B) (hv : ∀ x ∈ xs, Val d x) (hn : xs.length < 50000)
    (hm : ∀ x ∈ xs, ∀ (h : DH) (q : Nat) (rest : List Nat), t.drop q = txt x ++ rest → Term rest → ((C K).fn 10 [.str t, .int (q : Int), .int w] h).sat fun r h' => r = .tup [x, .int ((q : Int) + ((txt x).length : Int))] ∧ ∃ g, h' = h ++ g)
    (hp : t.drop p = joinS [32] (txts xs) ++ 41 :: rest) : ((C (K + 1)).fn 12 [.str t, .int (p : Int), .int w] h).sat fun r h' => r = .tup [.tup xs, .int ((p : Int) + ((joinS [32] (txts xs)).length : Int) + 1)] ∧ ∃ g, h' = h ++ g := by
  refine sat_fn (d := A.g12) rfl rfl ?_
  have tl : t.length ≤ SL := by simp only [SL, B] at *; omega
  have sl2 : 2 ≤ SL := by decide
  have hfuel : (runN A.fs A.fuel K).fuel = 100000 := by cases K <;> rfl
  cases xs with
  | nil =>
    have e : cut t (some (p : Int)) (some ((p : Int) + 1)) = [41] := by rw [cut_one hp]; rfl
    simp [A.g12, A.b12, sli_str tl, e, sl2, txts, joinS]
  | cons x ys =>
    have e : cut t (some (p : Int)) (some ((p : Int) + 1)) ≠ [41] := by
      obtain ⟨c, r, e1, e2⟩ := txt_head (hv x List.mem_cons_self)
      have : ∃ r', joinS [32] (txts (x :: ys)) = c :: r' := by
        cases ys with
        | nil => exact ⟨r, e1⟩
        | cons y ys => exact ⟨r ++ ([32] ++ joinS [32] (txts (y :: ys))), by simp [txts, joinS, e1]⟩
      obtain ⟨r', e3⟩ := this
      rw [cut_one hp, e3]
      intro z
      cases z
      exact e2 rfl
    simp [A.g12, A.b12, sli_str tl, e]
    refine sat_seq (whB_sat (fun m σ h' => ∃ (dn : List D) (y : D) (rm : List D) (q : Nat) (a4 a5 : Option D) (g : DH), rm.length = m ∧ x :: ys = dn ++ y :: rm ∧ q + (joinS [32] (txts (y :: rm))).length = p + (joinS [32] (txts (x :: ys))).length ∧ t.drop q = joinS [32] (txts (y :: rm)) ++ 41 :: rest ∧
      σ = [some (.str t), some (.int q), some (.int w), some (.ref h.length), a4, a5] ∧ h' = h ++ .lst dn :: g) ys.length (by rw [hfuel]; simp at hn; omega) ⟨[], x, ys, p, none, none, [], rfl, rfl, rfl, hp, rfl, rfl⟩ ?_)
    rintro m _ _ ⟨dn, y, rm, q, a4, a5, g, hm1, hx, hq, hd, rfl, rfl⟩
    have hy : y ∈ x :: ys := by rw [hx]; simp
    have hdn : dn.length < SL := by
      have := congrArg List.length hx
      simp [SL] at *; omega
    obtain ⟨q', hq'⟩ : ∃ q' : Nat, q' = q + (txt y).length := ⟨_, rfl⟩
    have step : ∀ (rest' : List Nat), t.drop q = txt y ++ rest' → Term rest' → ∃ g', (C K).fn 10 [.str t, .int (q : Int), .int w] (h ++ .lst dn :: g) = .ok (.tup [y, .int (q' : Int)]) (h ++ .lst dn :: g') := by
      intro rest' e1 e2
      obtain ⟨r, h', e3, rfl, g', rfl⟩ := sat_ex (hm y hy (h ++ .lst dn :: g) q rest' e1 e2)
      exact ⟨g ++ g', by rw [e3, hq']; simp⟩
    have k1 : ∀ {g : DH}, mtK (h ++ .lst dn :: g) .append (.ref h.length) = true := mtk_mid
    have a1 : ∀ {g : DH}, mtD (h ++ .lst dn :: g) .append (.ref h.length) [y] = .ok .non (h ++ .lst (dn ++ [y]) :: g) := app_mid hdn
    cases rm with
    | nil =>
      have hd' : t.drop q = txt y ++ 41 :: rest := hd
      obtain ⟨g', e1⟩ := step _ hd' (.inr ⟨rest, .inr rfl⟩)
      have hd2 : t.drop q' = 41 :: rest := by rw [hq']; exact drop_more hd'
      have e2 : cut t (some (q' : Int)) (some ((q' : Int) + 1)) = [41] := by rw [cut_one hd2]; rfl
      have l1 : lget (h ++ .lst (dn ++ [y]) :: g') h.length = some (dn ++ [y]) := lget_mid
      simp [e1, k1, a1, sli_str tl, e2, l1, sl2]
      refine ⟨by rw [← hx], ?_⟩
      have : (joinS [32] (txts [y])).length = (txt y).length := rfl
      simp [this] at hq
      omega
    | cons z rm =>
      have hd' : t.drop q = txt y ++ 32 :: (joinS [32] (txts (z :: rm)) ++ 41 :: rest) := by rw [hd]; simp [txts, joinS]
      obtain ⟨g', e1⟩ := step _ hd' (.inr ⟨_, .inl rfl⟩)
      have hd2 : t.drop q' = 32 :: (joinS [32] (txts (z :: rm)) ++ 41 :: rest) := by rw [hq']; exact drop_more hd'
      have e2 : cut t (some (q' : Int)) (some ((q' : Int) + 1)) = [32] := by rw [cut_one hd2]; rfl
      have hd3 : t.drop (q' + 1) = joinS [32] (txts (z :: rm)) ++ 41 :: rest := drop_more (a := [32]) hd2
      have hlen : (joinS [32] (txts (y :: z :: rm))).length = (txt y).length + 1 + (joinS [32] (txts (z :: rm))).length := by simp [txts, joinS]; omega
      simp [e1, k1, a1, sli_str tl, e2]
      refine ⟨rm.length, by rw [← hm1]; simp, dn ++ [y], z, rm, rfl, by rw [hx]; simp, q' + 1, ?_, hd3, by omega, rfl⟩
      rw [hlen] at hq
      omega
theorem Term.of {c : Nat} {r : List Nat} (h : c = 32 ∨ c = 41) : Term (c :: r) := by
  rcases h with rfl | rfl
  · exact .inr ⟨r, .inl rfl⟩
  · exact .inr ⟨r, .inr rfl⟩
theorem value_at {d : Nat} {v : D} (hv : Val d v) : ∀ {k : Nat} {h : DH} {t rest : List Nat} {p w : Nat}, t.length ≤ B → (txt v).length ≤ 40000 → t.drop p = txt v ++ rest → Term rest → w + d ≤ 40 →
    ((C (k + 2 * d + 2)).fn 10 [.str t, .int (p : Int), .int (w : Int)] h).sat fun r h' => r = .tup [v, .int ((p : Int) + ((txt v).length : Int))] ∧ ∃ g, h' = h ++ g := by
  have sl2 : 2 ≤ SL := by decide
  induction hv with
  | non =>
    intro k h t rest p w ht hl hp hr hw
    have tl : t.length ≤ SL := by simp only [SL, B] at *; omega
    have e : cut t (some (p : Int)) (some ((p : Int) + 1)) = [78] := by rw [cut_one hp]; rfl
    refine sat_fn (d := A.g10) rfl rfl ?_
    simp [A.g10, A.b10, sli_str tl, e, sl2, txt]
  | bl b =>
    intro k h t rest p w ht hl hp hr hw
    have tl : t.length ≤ SL := by simp only [SL, B] at *; omega
    refine sat_fn (d := A.g10) rfl rfl ?_
    cases b with
    | true =>
      have e : cut t (some (p : Int)) (some ((p : Int) + 1)) = [84] := by rw [cut_one hp]; rfl
      simp [A.g10, A.b10, sli_str tl, e, sl2, txt]
    | false =>
      have e : cut t (some (p : Int)) (some ((p : Int) + 1)) = [70] := by rw [cut_one hp]; rfl
      simp [A.g10, A.b10, sli_str tl, e, sl2, txt]
  | @int d i hi =>
    intro k h t rest p w ht hl hp hr hw
    have tl : t.length ≤ SL := by simp only [SL, B] at *; omega
    obtain ⟨c, r, e1, e2⟩ := str_head i
    have e : cut t (some (p : Int)) (some ((p : Int) + 1)) = [c] := by
      rw [cut_one hp]
      show List.take 1 (strOf i ++ rest) = _
      rw [e1]; rfl
    have n1 : c ≠ 78 ∧ c ≠ 84 ∧ c ≠ 70 ∧ c ≠ 34 ∧ c ≠ 40 := by omega
    have key : ((C (k + 2 * d + 1)).fn 13 [.str t, .int (p : Int)] h).sat fun r h' => r = .tup [.int i, .int ((p : Int) + ((strOf i).length : Int))] ∧ h' = h := by
      have hp' : t.drop p = strOf i ++ rest := hp
      cases i with
      | ofNat n =>
        obtain ⟨c, r, q1, q2⟩ := digs_head n
        have es : strOf (Int.ofNat n) = digs n := strOf_nat n
        have hb : (digs n).length ≤ 22 := digs_len (by decide) (by simpa using hi)
        rw [es] at hp' ⊢
        have := integer_at (k := k + 2 * d) (h := h) (sg := []) (ds := digs n) (i := (n : Int)) ht hp' (.inl rfl) q1 (digs_all n) (fun z => by
          have z0 := q2.mp z
          subst z0
          have : digs 0 = [48] := digs_lt (by decide)
          rw [this] at q1
          cases q1
          exact ⟨rfl, rfl⟩) (by omega) hr (by rw [List.nil_append, ← strOf_nat]; exact intOf_str _)
        simpa using this
      | negSucc n =>
        obtain ⟨c, r, q1, q2⟩ := digs_head (n + 1)
        have es : strOf (Int.negSucc n) = 45 :: digs (n + 1) := strOf_neg n
        have hb : (digs (n + 1)).length ≤ 22 := digs_len (by decide) (by simpa using hi)
        rw [es] at hp' ⊢
        have := integer_at (k := k + 2 * d) (h := h) (sg := [45]) (ds := digs (n + 1)) (i := Int.negSucc n) ht hp' (.inr rfl) q1 (digs_all (n + 1)) (fun z => by
          have z0 := q2.mp z
          omega) (by omega) hr (by rw [List.singleton_append, ← strOf_neg]; exact intOf_str _)
        refine this.mono fun a h' z => ⟨?_, z.2⟩
        rw [z.1]
        simp
        omega
    obtain ⟨r', h', e3, rfl, rfl⟩ := sat_ex key
    refine sat_fn (d := A.g10) rfl rfl ?_
    simp [A.g10, A.b10, sli_str tl, e, n1, e3, txt]
  | @str d s hs hq =>
    intro k h t rest p w ht hl hp hr hw
    have tl : t.length ≤ SL := by simp only [SL, B] at *; omega
    have hp' : t.drop p = 34 :: (esc s ++ 34 :: rest) := by rw [hp]; simp [txt]
    have e : cut t (some (p : Int)) (some ((p : Int) + 1)) = [34] := by rw [cut_one hp']; rfl
    have hd : t.drop (p + 1) = esc s ++ 34 :: rest := drop_more (a := [34]) hp'
    obtain ⟨r', h', e3, rfl, g, rfl⟩ := sat_ex (text_at (k := k + 2 * d) (h := h) ht hd hs)
    have e3' : (C (k + 2 * d + 1)).fn 11 [.str t, .int ((p : Int) + 1)] h = _ := e3
    refine sat_fn (d := A.g10) rfl rfl ?_
    simp [A.g10, A.b10, sli_str tl, e, e3', txt]
    omega
  | @tup d xs hx ih =>
    intro k h t rest p w ht hl hp hr hw
    have tl : t.length ≤ SL := by simp only [SL, B] at *; omega
    have hp' : t.drop p = 40 :: (joinS [32] (txts xs) ++ 41 :: rest) := by rw [hp]; simp [txt]
    have e : cut t (some (p : Int)) (some ((p : Int) + 1)) = [40] := by rw [cut_one hp']; rfl
    have hd : t.drop (p + 1) = joinS [32] (txts xs) ++ 41 :: rest := drop_more (a := [40]) hp'
    have hn : xs.length < 50000 := by
      have h1 := join_len (txts xs)
      rw [txts_len] at h1
      simp [txt] at hl
      have : (if txts xs = [] then 0 else 1) ≤ 1 := by split <;> omega
      omega
    obtain ⟨r', h', e3, rfl, g, rfl⟩ := sat_ex (tuple_at (K := k + 2 * d + 2) (h := h) (w := ((w + 1 : Nat) : Int)) ht hx hn (fun x hx' h q rest e1 e2 => ih x hx' ht (Nat.le_trans (mem_len hx') hl) e1 e2 (by omega)) hd)
    have e3' : (C (k + 2 * d + 2 + 1)).fn 12 [.str t, .int ((p : Int) + 1), .int ((w : Int) + 1)] h = _ := e3
    have nw : ¬ ((w : Int) = 40) := by omega
    refine sat_fn (d := A.g10) rfl rfl ?_
    have e4 : (runN A.fs A.fuel (k + 2 * (d + 1) + 1)).fn 12 [.str t, .int ((p : Int) + 1), .int ((w : Int) + 1)] h = _ := e3'
    simp [A.g10, A.b10, sli_str tl, e, nw, e4, txt]
    omega
end K21

set_option linter.all false
set_option maxRecDepth 10000
namespace K21
open FD
theorem few {xs : List D} (hl : (txt (.tup xs)).length ≤ 40000) : xs.length < 50000 := by
  have h1 := join_len (txts xs)
  rw [txts_len] at h1
  simp [txt] at hl
  have : (if txts xs = [] then 0 else 1) ≤ 1 := by split <;> omega
  omega
theorem same_str {k : Nat} {h : DH} {s : List Nat} : (C (k + 1)).fn 5 [.str s, .str s] h = .ok (.bl true) h := by
  refine of_sat (sat_fn (d := A.g5) rfl rfl ?_)
  simp [A.g5, A.b5, isiD, isD]
theorem same_ok {d : Nat} {v : D} (hv : Val d v) : ∀ {k : Nat} {h : DH}, (txt v).length ≤ 40000 → (C (k + d + 1)).fn 5 [v, v] h = .ok (.bl true) h := by
  induction hv with
  | non => intro k h hl; refine of_sat (sat_fn (d := A.g5) rfl rfl ?_); simp [A.g5, A.b5, isiD, isD]
  | bl b => intro k h hl; refine of_sat (sat_fn (d := A.g5) rfl rfl ?_); cases b <;> simp [A.g5, A.b5, isiD, isD]
  | int i hi => intro k h hl; refine of_sat (sat_fn (d := A.g5) rfl rfl ?_); simp [A.g5, A.b5, isiD, isD]
  | str s hs hq => intro k h hl; exact same_str
  | @tup d xs hx ih =>
    intro k h hl
    refine of_sat (sat_fn (d := A.g5) rfl rfl ?_)
    have hn := few hl
    have hlim : ((xs.length : Nat) : Int) < 4611686018427387904 := by omega
    have hlim0 : (-4611686018427387904 : Int) ≤ ((xs.length : Nat) : Int) := by omega
    simp [A.g5, A.b5, isiD, lim, hlim, hlim0]
    refine sat_seq (sat_seq (frB_items (I := fun i σ h' => ∃ a, σ = [some (.tup xs), some (.tup xs), a] ∧ h = h') ⟨_, rfl, rfl⟩ ?_ ?_))
    · rintro i dd _ _ hi ⟨a, rfl, rfl⟩
      obtain ⟨h1, rfl⟩ := rng_get hi
      have h1' : i < xs.length := h1
      have e : atI xs (i : Int) = some xs[i] := by rw [atI_nat, List.getElem?_eq_getElem h1']
      have c := ih xs[i] (List.getElem_mem h1') (k := k) (h := h) (Nat.le_trans (mem_len (List.getElem_mem h1')) hl)
      have c' : (runN A.fs A.fuel (k + (d + 1))).fn 5 [xs[i], xs[i]] h = .ok (.bl true) h := c
      simp [e, c']
    · rintro _ _ ⟨a, rfl, rfl⟩
      simp
/-! ### what is drawn -/
def Lm : Nat → Nat
  | 0 => 70
  | d + 1 => 3 * Lm d + 10
theorem Lm_ge (d : Nat) : 70 ≤ Lm d := by
  induction d with
  | zero => exact Nat.le_refl _
  | succ d ih => simp only [Lm]; omega
theorem strOf_len {i : Int} (h : i.natAbs < 10 ^ 22) : (strOf i).length ≤ 23 := by
  cases i with
  | ofNat n => rw [show strOf (Int.ofNat n) = digs n from strOf_nat n]; have := digs_len (n := n) (k := 22) (by decide) (by simpa using h); omega
  | negSucc n => rw [strOf_neg]; have := digs_len (n := n + 1) (k := 22) (by decide) (by simpa using h); simp; omega
theorem join_le {L : Nat} : ∀ ss : List (List Nat), (∀ s ∈ ss, s.length ≤ L) → (joinS [32] ss).length ≤ ss.length * (L + 1)
  | [], _ => by simp [joinS]
  | [x], h => by have := h x List.mem_cons_self; simp [joinS]; omega
  | x :: y :: r, h => by
    have ih := join_le (y :: r) fun s hs => h s (List.mem_cons_of_mem _ hs)
    have := h x List.mem_cons_self
    rw [List.length_cons, Nat.add_mul]
    simp [joinS] at ih ⊢
    omega
def signs : List Nat := [32, 33, 34, 35, 36, 38, 39, 40, 41, 42, 43, 44, 45, 46, 47, 48, 49, 56, 57, 58, 59, 60, 61, 62, 63, 64, 65, 90, 91, 92, 93, 94, 95, 96, 97, 122, 123, 124, 125, 126, 10, 110, 84, 70, 78]
/-- what a draw of values promises -/
def VO (dep : Nat) (as : List Int) (g : DH) (v : D) (h' : DH) : Prop := Val dep v ∧ (txt v).length ≤ Lm dep ∧ ∃ p : Int, 0 ≤ p ∧ h' = bx as p g
theorem VO_int {dep : Nat} {as : List Int} {g : DH} {i p : Int} (h : i.natAbs < 10 ^ 22) (hp : 0 ≤ p) : VO dep as g (.int i) (bx as p g) := by
  refine ⟨.int i h, ?_, p, hp, rfl⟩
  have := strOf_len h
  have := Lm_ge dep
  show (strOf i).length ≤ _
  omega
theorem drawE {k : Nat} {as : List Int} {g : DH} {p m : Int} (hp : 0 ≤ p) (hm : 0 < m) : ∃ r : Nat, (r : Int) < m ∧ (C (k+1)).fn 3 [.ref 1, .int m] (bx as p g) = .ok (.int (r : Int)) (bx as (p + 1) g) := by
  obtain ⟨r, h0, h1, e⟩ := draw (k := k) (as := as) (g := g) hp hm
  obtain ⟨n, rfl⟩ := Int.eq_ofNat_of_zero_le h0
  exact ⟨n, h1, e⟩
theorem pow16 {h : DH} : binD h .pow (.int 10) (.int 16) = .ok (.int 10000000000000000) h := pow_int (by decide)
theorem pow19 {h : DH} : binD h .pow (.int 10) (.int 19) = .ok (.int 10000000000000000000) h := pow_int (by decide)
theorem flat1 : ∀ s : List Nat, (s.map fun c => [c]).flatten = s
  | [] => rfl
  | x :: r => by have := flat1 r; simp at this ⊢; exact this
theorem sl4 : 4 ≤ SL := by decide
theorem sl3 : 3 ≤ SL := by decide
theorem value_step (dep : Nat) {K : Nat} {as : List Int} {p : Int} {g : DH} (hd : dep ≤ 4) (hp : 0 ≤ p) (hrec : 0 < dep → ∀ p : Int, 0 ≤ p → ((C (K + 1)).fn 2 [.ref 1, .int ((dep : Int) - 1)] (bx as p g)).sat (VO (dep - 1) as g)) :
    ((C (K + 2)).fn 2 [.ref 1, .int (dep : Int)] (bx as p g)).sat (VO dep as g) := by
  refine sat_fn (d := A.g2) rfl rfl ?_
  obtain ⟨kind, hk, e1⟩ := drawE (k := K) (as := as) (g := g) hp (m := 9) (by decide)
  by_cases c1 : kind < 3 ∧ 0 < dep
  · obtain ⟨many, hmn, e2⟩ := drawE (k := K) (as := as) (g := g) (p := p + 1) (by omega) (m := 4) (by decide)
    have hmn' : many < 4 := by omega
    have hlim : ((many : Nat) : Int) < 4611686018427387904 := by omega
    have hlim0 : (-4611686018427387904 : Int) ≤ ((many : Nat) : Int) := by omega
    have hk3 : (kind : Int) < 3 := by omega
    have hd0 : (0 : Int) < (dep : Int) := by omega
    have walk := cpB_items (C := C (K + 1)) (elt := E.call 2 (Es.cons (E.sl 0) (Es.cons (E.bin (BOp.sub) (E.sl 1) (E.c (D.int 1))) (Es.nil)))) (tg := T.sl 3) (cond := Oe.none) (σ := [some (.ref 1), some (.int (dep : Int)), some (.int (kind : Int)), none, none, none]) (ds := rngL 0 many) (h := bx as (p + 1 + 1) g)
      (Z := fun acc h => (∀ v ∈ acc, Val (dep - 1) v ∧ (txt v).length ≤ Lm (dep - 1)) ∧ acc.length = many ∧ ∃ p : Int, 0 ≤ p ∧ h = bx as p g)
      (fun i acc h => (∀ v ∈ acc, Val (dep - 1) v ∧ (txt v).length ≤ Lm (dep - 1)) ∧ acc.length = i ∧ ∃ p : Int, 0 ≤ p ∧ h = bx as p g)
      ⟨(fun v hv => by cases hv), rfl, p + 1 + 1, by omega, rfl⟩ (by
        rintro i d acc _ hi ⟨h1, h2, q, hq, rfl⟩
        obtain ⟨h3, rfl⟩ := rng_get hi
        obtain ⟨v, h', e3, h4, h5, q', hq', rfl⟩ := sat_ex (hrec c1.2 q hq)
        simp [e3]
        refine ⟨by simp [SL]; omega, fun w hw => ?_, h2, q', hq', rfl⟩
        rcases hw with hw | rfl
        · exact h1 w hw
        · exact ⟨h4, h5⟩) (by
        rintro acc h ⟨h1, h2, h3⟩
        exact ⟨h1, by rw [h2, rng_len], h3⟩)
    obtain ⟨acc, h', e3, h1, h2, q, hq, rfl⟩ := sat_ex walk
    have e3' : cpB (runN A.fs A.fuel (K + 1)) (E.call 2 (Es.cons (E.sl 0) (Es.cons (E.bin (BOp.sub) (E.sl 1) (E.c (D.int 1))) (Es.nil)))) (T.sl 3) Oe.none [some (.ref 1), some (.int (dep : Int)), some (.int (kind : Int)), none, none, none] (.items (rngL 0 many)) (bx as (p + 1 + 1) g) = _ := e3
    simp [A.g2, A.b2, e1, hk3, c1.2, e2, lim, hlim, hlim0, e3']
    obtain ⟨dep', rfl⟩ : ∃ d, dep = d + 1 := ⟨dep - 1, by omega⟩
    refine ⟨.tup acc fun x hx => (h1 x hx).1, ?_, q, hq, rfl⟩
    have := join_le (L := Lm dep') (txts acc) (by
      intro s hs
      rw [txts_map] at hs
      obtain ⟨x, hx, rfl⟩ := List.mem_map.mp hs
      exact (h1 x hx).2)
    rw [txts_len, h2] at this
    have h3 : many * (Lm dep' + 1) ≤ 3 * (Lm dep' + 1) := Nat.mul_le_mul_right _ (by omega)
    simp only [txt, List.length_cons, List.length_append, List.length_nil, Lm]
    omega
  · have cc : ∀ {N R B' Ct} , (evSs (runN A.fs A.fuel (K + 1)) (match A.b2 with | .cons _ (.cons _ s) => s | _ => .nil) [some (.ref 1), some (.int (dep : Int)), some (.int (kind : Int)), none, none, none] (bx as (p + 1) g)).sat N R B' Ct → (evSs (runN A.fs A.fuel (K + 1)) A.g2.b (frame A.g2.n [.ref 1, .int (dep : Int)]) (bx as p g)).sat N R B' Ct := by
      intro N R B' Ct q
      by_cases k3 : (kind : Int) < 3
      · have d0 : dep = 0 := by omega
        subst d0
        simp [A.g2, A.b2, e1, k3]
        simpa [A.b2] using q
      · simp [A.g2, A.b2, e1, k3]
        simpa [A.b2] using q
    refine cc ?_
    have k6 : kind = 3 ∨ kind = 4 ∨ kind = 5 ∨ (kind ≠ 3 ∧ kind ≠ 4 ∧ kind ≠ 5) := by omega
    rcases k6 with rfl | rfl | rfl | ⟨n3, n4, n5⟩
    · obtain ⟨r, hr, e2⟩ := drawE (k := K) (as := as) (g := g) (p := p + 1) (by omega) (m := 3) (by decide)
      have : r = 0 ∨ r = 1 ∨ r = 2 := by omega
      have q : 0 ≤ p + 1 + 1 := by omega
      have l1 := Lm_ge dep
      rcases this with rfl | rfl | rfl
      · simp [A.b2, e2, sl3]
        exact ⟨.non, by simp [txt]; omega, _, q, rfl⟩
      · have : atI [D.non, .bl true, .bl false] 1 = some (.bl true) := rfl
        simp at e2
        simp [A.b2, e2, sl3, this]
        exact ⟨.bl _, by simp [txt]; omega, _, q, rfl⟩
      · have : atI [D.non, .bl true, .bl false] 2 = some (.bl false) := rfl
        simp at e2
        simp [A.b2, e2, sl3, this]
        exact ⟨.bl _, by simp [txt]; omega, _, q, rfl⟩
    · obtain ⟨a, ha, e2⟩ := drawE (k := K) (as := as) (g := g) (p := p + 1) (by omega) (m := 900) (by decide)
      obtain ⟨b, hb, e3⟩ := drawE (k := K) (as := as) (g := g) (p := p + 1 + 1) (by omega) (m := 900) (by decide)
      obtain ⟨r, hr, e4⟩ := drawE (k := K) (as := as) (g := g) (p := p + 1 + 1 + 1) (by omega) (m := 4) (by decide)
      have m1 : ∀ {h : DH}, binD h .mul (.int (a : Int)) (.int 10000000000000000) = .ok (.int ((a : Int) * 10000000000000000)) h := big1 (by decide)
      obtain ⟨z, hz⟩ : ∃ z : Int, z = (a : Int) * 10000000000000000 + (b : Int) - 450 := ⟨_, rfl⟩
      have q : 0 ≤ p + 1 + 1 + 1 + 1 := by omega
      have : ∃ i : Int, atI [D.int z, .int (0 - z), .int (10000000000000000000 + z), .int 0] (r : Int) = some (.int i) ∧ i.natAbs < 10 ^ 22 := by
        have : r = 0 ∨ r = 1 ∨ r = 2 ∨ r = 3 := by omega
        rcases this with rfl | rfl | rfl | rfl
        · exact ⟨_, rfl, by omega⟩
        · exact ⟨_, rfl, by omega⟩
        · exact ⟨_, rfl, by omega⟩
        · exact ⟨_, rfl, by omega⟩
      obtain ⟨i, e5, hi⟩ := this
      have e5' : atI [D.int z, .int (-z), .int (10000000000000000000 + z), .int 0] (r : Int) = some (.int i) := by rw [← Int.zero_sub]; exact e5
      simp [A.b2, e2, e3, e4, pow16, pow19, m1, ← hz, sl4, e5']
      exact VO_int hi q
    · obtain ⟨a, ha, e2⟩ := drawE (k := K) (as := as) (g := g) (p := p + 1) (by omega) (m := 30) (by decide)
      simp [A.b2, e2]
      exact VO_int (by omega) (by omega)
    · obtain ⟨many, hmn, e2⟩ := drawE (k := K) (as := as) (g := g) (p := p + 1) (by omega) (m := 9) (by decide)
      have hlim : ((many : Nat) : Int) < 4611686018427387904 := by omega
      have hlim0 : (-4611686018427387904 : Int) ≤ ((many : Nat) : Int) := by omega
      have hmn' : many ≤ 8 := by omega
      have n3' : ¬ ((kind : Int) = 3) := by omega
      have n4' : ¬ ((kind : Int) = 4) := by omega
      have n5' : ¬ ((kind : Int) = 5) := by omega
      have slen : signs.length = 45 := rfl
      have ssl : signs.length ≤ SL := by rw [slen]; decide
      have md : ∀ {x : Int} {h : DH}, binD h .mod (.int x) (.int 45) = .ok (.int (x.fmod 45)) h := mod_int (by decide)
      have bl : ∀ {h : DH}, biD h .len (.str signs) = some (.int 45) := by intro h; rw [bi_len ssl, slen]; rfl
      have walk := cpB_items (C := C (K + 1)) (elt := (E.ix (E.sl 5) (E.bin (BOp.mod) (E.bi (Bi.int) (E.call 3 (Es.cons (E.sl 0) (Es.cons (E.c (D.int 900)) (Es.nil))))) (E.bi (Bi.len) (E.sl 5))))) (tg := T.sl 3) (cond := Oe.none) (σ := [some (.ref 1), some (.int (dep : Int)), some (.int (kind : Int)), none, none, some (.str signs)]) (ds := rngL 0 many) (h := bx as (p + 1 + 1) g)
        (Z := fun acc h => ∃ s : List Nat, acc = s.map (fun c => .str [c]) ∧ s.length = many ∧ (∀ c ∈ s, c ∈ signs) ∧ ∃ p : Int, 0 ≤ p ∧ h = bx as p g)
        (fun i acc h => ∃ s : List Nat, acc = s.map (fun c => .str [c]) ∧ s.length = i ∧ (∀ c ∈ s, c ∈ signs) ∧ ∃ p : Int, 0 ≤ p ∧ h = bx as p g)
        ⟨[], rfl, rfl, (fun c hc => by cases hc), p + 1 + 1, by omega, rfl⟩ (by
          rintro i d _ _ hi ⟨s, rfl, h2, h3, q, hq, rfl⟩
          obtain ⟨h4, rfl⟩ := rng_get hi
          obtain ⟨r, hr, e3⟩ := drawE (k := K) (as := as) (g := g) (p := q) hq (m := 900) (by decide)
          obtain ⟨c, e4, hc⟩ := atI_in (xs := signs) (i := (r : Int).fmod 45) (fmod_rng (by decide)).1 (by rw [slen]; exact (fmod_rng (by decide)).2)
          simp [e3, bl, md, ix_str ssl, e4]
          refine ⟨by simp [SL]; omega, s ++ [c], by simp, by simp [h2], fun x hx => ?_, q + 1, by omega, rfl⟩
          rcases List.mem_append.mp hx with hx | hx
          · exact h3 x hx
          · rw [List.mem_singleton.mp hx]; exact hc) (by
          rintro acc h ⟨s, h1, h2, h3⟩
          exact ⟨s, h1, by rw [h2, rng_len], h3⟩)
      obtain ⟨acc, h', e3, s, rfl, h2, h3, q, hq, rfl⟩ := sat_ex walk
      have jm : mlD .join (.str []) (s.map fun c => D.str [c]) = some (.str s) := by
        have e : (s.map fun c => D.str [c]) = (s.map fun c => [c]).map .str := by rw [List.map_map]; rfl
        have e2 := flat1 s
        show (match strsOf (s.map fun c => D.str [c]) with
          | some ys => if (ys.map (fun y : List Nat => y.length)).sum + ys.length * ([] : List Nat).length ≤ SL then some (D.str (joinS [] ys)) else none
          | none => none) = _
        rw [e, strsOf_map]
        dsimp only
        rw [join_nil, e2, if_pos]
        have : ((s.map fun c => [c]).map (fun y : List Nat => y.length)).sum = s.length := by rw [← List.length_flatten, e2]
        rw [this]
        simp [SL]
        omega
      have e3' : cpB (runN A.fs A.fuel (K + 1)) (E.ix (E.sl 5) (E.bin (BOp.mod) (E.bi (Bi.int) (E.call 3 (Es.cons (E.sl 0) (Es.cons (E.c (D.int 900)) (Es.nil))))) (E.bi (Bi.len) (E.sl 5)))) (T.sl 3) Oe.none [some (.ref 1), some (.int (dep : Int)), some (.int (kind : Int)), none, none, some (.str signs)] (.items (rngL 0 many)) (bx as (p + 1 + 1) g) = _ := e3
      have fold : [32, 33, 34, 35, 36, 38, 39, 40, 41, 42, 43, 44, 45, 46, 47, 48, 49, 56, 57, 58, 59, 60, 61, 62, 63, 64, 65, 90, 91, 92, 93, 94, 95, 96, 97, 122, 123, 124, 125, 126, 10, 110, 84, 70, 78] = signs := rfl
      simp [A.b2, n3', n4', n5', e2, lim, hlim, hlim0, fold, e3', jm]
      have hsl : s.length ≤ 8 := by omega
      refine ⟨.str s hsl fun c hc => ?_, ?_, q, hq, rfl⟩
      · have : ∀ c ∈ signs, c < 1114112 := by decide
        exact this c (h3 c hc)
      · have := esc_len hsl
        have := Lm_ge dep
        simp [txt]
        omega
theorem value_ok : ∀ (dep : Nat) {k : Nat} {as : List Int} {p : Int} {g : DH}, dep ≤ 4 → 0 ≤ p → ((C (k + dep + 2)).fn 2 [.ref 1, .int (dep : Int)] (bx as p g)).sat (VO dep as g) := by
  intro dep
  induction dep with
  | zero => intro k as p g hd hp; exact value_step 0 hd hp fun z => absurd z (by omega)
  | succ dep ih =>
    intro k as p g hd hp
    refine value_step (dep + 1) (K := k + dep + 1) hd hp fun _ q hq => ?_
    have := ih (k := k) (as := as) (g := g) (by omega) hq
    rw [show ((dep + 1 : Nat) : Int) - 1 = (dep : Int) by omega]
    exact this
theorem read_ok {v : D} {k : Nat} {h : DH} (hv : Val 40 v) (hl : (txt v).length ≤ 40000) : ((C (k + 83)).fn 7 [.str (txt v)] h).sat fun r h' => r = v ∧ ∃ g, h' = h ++ g := by
  refine sat_fn (d := A.g7) rfl rfl ?_
  have tl : (txt v).length ≤ SL := by simp only [SL]; omega
  obtain ⟨r, h', e, rfl, g, rfl⟩ := sat_ex (value_at (k := k) (h := h) (t := txt v) (rest := []) (p := 0) (w := 0) hv (by simp only [B]; omega) hl (by simp) (.inl rfl) (by omega))
  have e' : (runN A.fs A.fuel (k + 82)).fn 10 [.str (txt v), .int 0, .int 0] h = _ := e
  simp [A.g7, A.b7, e', bi_len tl]
theorem law_ok (ns : List Int) : ∃ h', (C 150).fn 0 [.fl (ns.map .int)] [] = .ok (.bl true) h' := by
  suffices h : ((C 150).fn 0 [.fl (ns.map .int)] []).sat fun r _ => r = .bl true by
    obtain ⟨r, h', e, rfl⟩ := sat_ex h
    exact ⟨h', e⟩
  refine sat_fn (d := A.g0) rfl rfl ?_
  obtain ⟨r, h', e1, as, rfl, rfl, hl⟩ := sat_ex (digits (k := 147) (ns := ns))
  have e1' : (runN A.fs A.fuel 149).fn 1 [.fl (ns.map .int), .int 0, .int 63] [] = _ := e1
  have sl2 : 2 ≤ SL := by decide
  simp [A.g0, A.b0, e1', sl2, lim]
  refine sat_seq (frB_items (I := fun i σ h => ∃ (p : Int) (g : DH) (a2 a3 a4 a5 : Option D), 0 ≤ p ∧ σ = [some (.fl (ns.map .int)), some (.ref 1), a2, a3, a4, a5] ∧ h = bx as p g) ?_ ?_ ?_)
  · exact ⟨0, [], _, _, _, _, by omega, rfl, rfl⟩
  · rintro i d _ _ hi ⟨p, g, a2, a3, a4, a5, hp, rfl, rfl⟩
    obtain ⟨_, rfl⟩ := rng_get hi
    obtain ⟨v, h', e2, hv, hvl, q, hq, rfl⟩ := sat_ex (value_ok 4 (k := 143) (as := as) (g := g) (by omega) hp)
    have e2' : (runN A.fs A.fuel 149).fn 2 [.ref 1, .int 4] (bx as p g) = _ := e2
    obtain ⟨r, hr, e3⟩ := drawE (k := 148) (as := as) (g := g) hq (m := 4) (by decide)
    have e3' : (runN A.fs A.fuel 149).fn 3 [.ref 1, .int 4] (bx as q g) = _ := e3
    obtain ⟨wr, hwr, e4⟩ : ∃ wr : Nat, wr ≤ 36 ∧ atI [D.int 0, .int 0, .int 0, .int 36] (r : Int) = some (.int (wr : Int)) := by
      have : r = 0 ∨ r = 1 ∨ r = 2 ∨ r = 3 := by omega
      rcases this with rfl | rfl | rfl | rfl
      · exact ⟨0, by omega, rfl⟩
      · exact ⟨0, by omega, rfl⟩
      · exact ⟨0, by omega, rfl⟩
      · exact ⟨36, by omega, rfl⟩
    have hlim : ((wr : Nat) : Int) < 4611686018427387904 := by omega
    have hlim0 : (-4611686018427387904 : Int) ≤ ((wr : Nat) : Int) := by omega
    have sl1 : 1 ≤ SL := by decide
    simp [e2', e3', sl4, e4, lim, hlim, hlim0]
    refine sat_then (fun σ h => ∃ (v : D) (a4 : Option D), Val 40 v ∧ (txt v).length ≤ 40000 ∧ σ = [some (.fl (ns.map .int)), some (.ref 1), some (.int (i : Int)), some v, a4, a5] ∧ h = bx as (q + 1) g) ?_ ?_
    · refine frB_items (I := fun j σ h => ∃ (v : D) (a4 : Option D), Val (4 + j) v ∧ (txt v).length ≤ Lm 4 + 2 * j ∧ σ = [some (.fl (ns.map .int)), some (.ref 1), some (.int (i : Int)), some v, a4, a5] ∧ h = bx as (q + 1) g) ?_ ?_ ?_
      · exact ⟨v, _, hv, by omega, rfl, rfl⟩
      · rintro j d _ _ hj ⟨v, a4, h1, h2, rfl, rfl⟩
        obtain ⟨_, rfl⟩ := rng_get hj
        simp [sl1]
        refine ⟨.tup [v] fun x hx => by rw [List.mem_singleton.mp hx]; exact h1, ?_⟩
        simp [txt, txts, joinS]
        omega
      · rintro _ _ ⟨v, a4, h1, h2, rfl, rfl⟩
        rw [rng_len] at h1 h2
        have : Lm 4 = 6070 := rfl
        exact ⟨v, a4, h1.mono (by omega), by omega, rfl, rfl⟩
    · rintro _ _ ⟨v, a4, h1, h2, rfl, rfl⟩
      have hB : (txt v).length ≤ B := by simp only [B]; omega
      have e5 : (runN A.fs A.fuel 149).fn 4 [v] (bx as (q + 1) g) = .ok (.str (txt v)) (bx as (q + 1) g) := plain_ok h1 (k := 108) hB
      have e6 : (runN A.fs A.fuel 149).fn 6 [v] (bx as (q + 1) g) = .ok (.str (txt v)) (bx as (q + 1) g) := show_ok h1 (k := 107) hB
      have e7 : (runN A.fs A.fuel 149).fn 5 [.str (txt v), .str (txt v)] (bx as (q + 1) g) = .ok (.bl true) (bx as (q + 1) g) := same_str (k := 148)
      obtain ⟨w, h', e8, hw, g', rfl⟩ := sat_ex (read_ok (k := 66) (h := bx as (q + 1) g) h1 h2)
      rw [hw] at e8
      have e8' : (runN A.fs A.fuel 149).fn 7 [.str (txt v)] (bx as (q + 1) g) = _ := e8
      have e9 : ∀ h : DH, (runN A.fs A.fuel 149).fn 5 [v, v] h = .ok (.bl true) h := fun h => same_ok h1 (k := 108) h2
      simp [e5, e6, e7, e8', e9]
      exact ⟨q + 1, by omega, g ++ g', by simp [bx]⟩
  · rintro _ _ ⟨p, g, a2, a3, a4, a5, hp, rfl, rfl⟩
    simp
theorem plain (ns : List Int) (h : ns.length ≤ 63) : ∃ h', (runN A.fs A.fuel A.lvl).fn 0 [.fl (ns.map .int)] [] = .ok (.bl true) h' := law_ok ns
end K21



set_option Elab.async false
set_option linter.all false
set_option maxRecDepth 100000
set_option maxHeartbeats 0
namespace K21
open PySem PySem.Spec PyProof.Rows L2 FD
def top (i : Nat) : Stmt := PySem.Challenge.pw_flathold_k21_plain_there_and_back.main.body.getD i (.Pass ⟨0, 0, 0, 0⟩)
/-- law -/
def f0 : Df := ⟨"law", ["script", "box", "turn", "value", "k", "text"], ["script"], top 21⟩
/-- _law_digits -/
def f1 : Df := ⟨"_law_digits", ["script", "first", "last", "digits", "k", "cell", "turn", "seed"], ["script", "first", "last"], top 16⟩
/-- _law_value -/
def f2 : Df := ⟨"_law_value", ["box", "deep", "kind", "k", "number", "signs"], ["box", "deep"], top 20⟩
/-- _law_draw -/
def f3 : Df := ⟨"_law_draw", ["box", "many", "at"], ["box", "many"], top 17⟩
/-- _law_plain -/
def f4 : Df := ⟨"_law_plain", ["value", "one"], ["value"], top 19⟩
/-- _law_same -/
def f5 : Df := ⟨"_law_same", ["actual", "due", "k"], ["actual", "due"], top 18⟩
/-- show_plain -/
def f6 : Df := ⟨"show_plain", ["value", "member"], ["value"], top 7⟩
/-- read_plain -/
def f7 : Df := ⟨"read_plain", ["text", "value", "place"], ["text"], top 9⟩
/-- _law_cell -/
def f8 : Df := ⟨"_law_cell", ["script", "k"], ["script", "k"], top 15⟩
/-- quoted -/
def f9 : Df := ⟨"quoted", ["text"], ["text"], top 8⟩
/-- value_at -/
def f10 : Df := ⟨"value_at", ["text", "place", "within", "sign"], ["text", "place", "within"], top 10⟩
/-- text_at -/
def f11 : Df := ⟨"text_at", ["text", "place", "parts", "quote", "end", "slash", "feed", "behind"], ["text", "place"], top 12⟩
/-- tuple_at -/
def f12 : Df := ⟨"tuple_at", ["text", "place", "within", "members", "sign", "member"], ["text", "place", "within"], top 13⟩
/-- integer_at -/
def f13 : Df := ⟨"integer_at", ["text", "place", "begin", "sign", "end"], ["text", "place"], top 11⟩
def ds : List Df := [f0, f1, f2, f3, f4, f5, f6, f7, f8, f9, f10, f11, f12, f13]
def fns : List (Str × Nat) := [("law", 0), ("_law_digits", 1), ("_law_value", 2), ("_law_draw", 3), ("_law_plain", 4), ("_law_same", 5), ("show_plain", 6), ("read_plain", 7), ("_law_cell", 8), ("quoted", 9), ("value_at", 10), ("text_at", 11), ("tuple_at", 12), ("integer_at", 13)]
def gs : List Gc := [.int "MOST_BRACKETS" (40), .str "FIGURES" [48, 49, 50, 51, 52, 53, 54, 55, 56, 57], .int "MOST_FIGURES" (2000)]
def free : List Str := ["range", "len", "int", "tuple", "isinstance", "str", "bool"]
theorem ok0 : DfOk (tblOf fns gs free) f0 A.g0 := ⟨C8.fnScope_by (by kernel_rfl), rfl, rfl, by kernel_rfl⟩
theorem bi0 : BindOk f0 := fun _ _ _ _ _ _ us hl => match us, hl with | [_], _ => rfl
theorem ok1 : DfOk (tblOf fns gs free) f1 A.g1 := ⟨C8.fnScope_by (by kernel_rfl), rfl, rfl, by kernel_rfl⟩
theorem bi1 : BindOk f1 := fun _ _ _ _ _ _ us hl => match us, hl with | [_, _, _], _ => rfl
theorem ok2 : DfOk (tblOf fns gs free) f2 A.g2 := ⟨C8.fnScope_by (by kernel_rfl), rfl, rfl, by kernel_rfl⟩
theorem bi2 : BindOk f2 := fun _ _ _ _ _ _ us hl => match us, hl with | [_, _], _ => rfl
theorem ok3 : DfOk (tblOf fns gs free) f3 A.g3 := ⟨C8.fnScope_by (by kernel_rfl), rfl, rfl, by kernel_rfl⟩
theorem bi3 : BindOk f3 := fun _ _ _ _ _ _ us hl => match us, hl with | [_, _], _ => rfl
theorem ok4 : DfOk (tblOf fns gs free) f4 A.g4 := ⟨C8.fnScope_by (by kernel_rfl), rfl, rfl, by kernel_rfl⟩
theorem bi4 : BindOk f4 := fun _ _ _ _ _ _ us hl => match us, hl with | [_], _ => rfl
theorem ok5 : DfOk (tblOf fns gs free) f5 A.g5 := ⟨C8.fnScope_by (by kernel_rfl), rfl, rfl, by kernel_rfl⟩
theorem bi5 : BindOk f5 := fun _ _ _ _ _ _ us hl => match us, hl with | [_, _], _ => rfl
theorem ok6 : DfOk (tblOf fns gs free) f6 A.g6 := ⟨C8.fnScope_by (by kernel_rfl), rfl, rfl, by kernel_rfl⟩
theorem bi6 : BindOk f6 := fun _ _ _ _ _ _ us hl => match us, hl with | [_], _ => rfl
theorem ok7 : DfOk (tblOf fns gs free) f7 A.g7 := ⟨C8.fnScope_by (by kernel_rfl), rfl, rfl, by kernel_rfl⟩
theorem bi7 : BindOk f7 := fun _ _ _ _ _ _ us hl => match us, hl with | [_], _ => rfl
theorem ok8 : DfOk (tblOf fns gs free) f8 A.g8 := ⟨C8.fnScope_by (by kernel_rfl), rfl, rfl, by kernel_rfl⟩
theorem bi8 : BindOk f8 := fun _ _ _ _ _ _ us hl => match us, hl with | [_, _], _ => rfl
theorem ok9 : DfOk (tblOf fns gs free) f9 A.g9 := ⟨C8.fnScope_by (by kernel_rfl), rfl, rfl, by kernel_rfl⟩
theorem bi9 : BindOk f9 := fun _ _ _ _ _ _ us hl => match us, hl with | [_], _ => rfl
theorem ok10 : DfOk (tblOf fns gs free) f10 A.g10 := ⟨C8.fnScope_by (by kernel_rfl), rfl, rfl, by kernel_rfl⟩
theorem bi10 : BindOk f10 := fun _ _ _ _ _ _ us hl => match us, hl with | [_, _, _], _ => rfl
theorem ok11 : DfOk (tblOf fns gs free) f11 A.g11 := ⟨C8.fnScope_by (by kernel_rfl), rfl, rfl, by kernel_rfl⟩
theorem bi11 : BindOk f11 := fun _ _ _ _ _ _ us hl => match us, hl with | [_, _], _ => rfl
theorem ok12 : DfOk (tblOf fns gs free) f12 A.g12 := ⟨C8.fnScope_by (by kernel_rfl), rfl, rfl, by kernel_rfl⟩
theorem bi12 : BindOk f12 := fun _ _ _ _ _ _ us hl => match us, hl with | [_, _, _], _ => rfl
theorem ok13 : DfOk (tblOf fns gs free) f13 A.g13 := ⟨C8.fnScope_by (by kernel_rfl), rfl, rfl, by kernel_rfl⟩
theorem bi13 : BindOk f13 := fun _ _ _ _ _ _ us hl => match us, hl with | [_, _], _ => rfl
theorem oks : Oks (tblOf fns gs free) ds A.fs := .cons ok0 (.cons ok1 (.cons ok2 (.cons ok3 (.cons ok4 (.cons ok5 (.cons ok6 (.cons ok7 (.cons ok8 (.cons ok9 (.cons ok10 (.cons ok11 (.cons ok12 (.cons ok13 (.nil))))))))))))))
theorem binds : ∀ d ∈ ds, BindOk d := List.forall_mem_cons.mpr ⟨bi0, List.forall_mem_cons.mpr ⟨bi1, List.forall_mem_cons.mpr ⟨bi2, List.forall_mem_cons.mpr ⟨bi3, List.forall_mem_cons.mpr ⟨bi4, List.forall_mem_cons.mpr ⟨bi5, List.forall_mem_cons.mpr ⟨bi6, List.forall_mem_cons.mpr ⟨bi7, List.forall_mem_cons.mpr ⟨bi8, List.forall_mem_cons.mpr ⟨bi9, List.forall_mem_cons.mpr ⟨bi10, List.forall_mem_cons.mpr ⟨bi11, List.forall_mem_cons.mpr ⟨bi12, List.forall_mem_cons.mpr ⟨bi13, (fun d hd => by cases hd)⟩⟩⟩⟩⟩⟩⟩⟩⟩⟩⟩⟩⟩⟩
theorem lawD : ds[0]? = some f0 := rfl
def fn : List He.DefD := ds.map dfOf
def fa : List He.Fa := faOf ds gs free []
abbrev R : PySem.W.OpenRow := PySem.W.OpenLaw.row PySem.Challenge.rw_flathold_k21_plain_there_and_back
abbrev hk : PySem.W.Hook := He.hookD 4 fa fn
def ob (s : PySem.W.SharedT) : He.AlD := He.obsDG 4 fa fn (HandSHeadRun.getT s)
theorem ob_eq (s : PySem.W.SharedT) : ob s = hk.obs s.abs := He.obsDG_eq (HandSHeadRun.getT_eq s)
def loose : List Str := ["FlatError", "BadPlain", "FIGURES", "MOST_FIGURES", "MOST_BRACKETS", "show_plain", "quoted", "read_plain", "value_at", "integer_at", "text_at", "tuple_at", "_law_cell", "_law_digits", "_law_draw", "_law_same", "_law_plain", "_law_value"]
theorem run (w : World) : HandSHeadRun.RunEq R (PySem.W.view R.prog [21]) hk ob 4000 loose w := by
  intro os
  kernel_rfl
end K21
open PySem PySem.W PySem.Calls PyProof.Rows FD
theorem PySem.Challenge.cw_flathold_k21_plain_there_and_back_holds : PySem.Challenge.rw_flathold_k21_plain_there_and_back.Holds := by
  w_on; o_law
  refine HandSHeadRun.head_any (r := OpenLaw.row PySem.Challenge.rw_flathold_k21_plain_there_and_back) (q := view (OpenLaw.row PySem.Challenge.rw_flathold_k21_plain_there_and_back).prog [21]) (H := K21.hk) (ob := K21.ob) (M := 4000) (loose := K21.loose) (d := HandSHeadRun.topDef (OpenLaw.row PySem.Challenge.rw_flathold_k21_plain_there_and_back).prog 21) (kwd := []) K21.ob_eq
    (by kernel_rfl) (fun s => by kernel_rfl) K21.run (by kernel_rfl) (by kernel_rfl) (by kernel_rfl) (by rfl) (by first | assumption | decide +kernel) (by decide +kernel) ⟨rfl, rfl, rfl, rfl, rfl, by decide +kernel⟩ ?hw ?hc
  case hw => w_witness2
  case hc =>
    refine L2.walk_ofE (l := PySem.Challenge.rw_flathold_k21_plain_there_and_back) (n := 63) (k := K21.A.lvl) (x := "script") (CX := FD.CXn) rfl (by decide) (by kernel_rfl) ⟨rfl, by decide, by decide⟩ ?F (fun _ _ _ _ z => z)
    intro w mg fa h Y G hmg0
    obtain ⟨K, KX, c⟩ := Y
    have hmg : mg ("law" : PySem.Str) = some (.ref fa) := by
      have e : (HandSHeadRun.topDef (OpenLaw.row PySem.Challenge.rw_flathold_k21_plain_there_and_back).prog 21).name = ("law" : PySem.Str) := by kernel_rfl
      rw [← e]
      exact hmg0
    obtain ⟨fd, hb, hF⟩ := FD.facts_ok (P := (PySem.Challenge.rw_flathold_k21_plain_there_and_back).prog) (w := w) (cls := fun _ => none) (fuel := K21.A.fuel) (k := K21.A.lvl) K21.oks K21.binds (by kernel_rfl) K21.lawD rfl rfl KX G hmg c
    exact ⟨K, fd, _, KX, hb, fun H a ns hl hO hS => law_sp hO hS (K21.plain ns hl), fun base hK hN => noX (hF base hK hN)⟩

