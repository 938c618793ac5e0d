import PyProof.Rows.All
import Wide.All
import OpenK.AllK
import Wide.FinOn
import HandS.ForMost
import HandS.ForExc
import HandS.Walk
import HandS.IsInst
import HandS.Wide
import HandS.TupAny
import HandS.Deep
import HandS.Style
import HandS.SortRule
import KE.SortData
import HandS.HeadHook1
import HandS.Zip
import KE.GoesNew
import HandS.More
import HandS.ExcIs
import HandS.ExcOwn
import HandS.Codes
import HandS.Flow
import HandS.SetTxt0
import HandS.Set
import HandS.Strs
import HandS.SetFor
import HandS.Replace
import HandS.DeepEq
import HandS.Conv
import HandS.HeadHook2
import KE.DataMinMax
import PyProof.MinMaxWalk
import PyProof.FString5
import HandS.Head0
import HandS.Head1
import HandS.Head2
import HandS.HeadEnd
import HandS.HeadHook4
import PyProof.AutoSeq1
import KE.KDictCopyH
import HandS.TupSets
import HandS.Dict
import PySem.Challenge.RW_dialslips_k54_whole_listed
set_option Elab.async false
set_option linter.all false
set_option maxRecDepth 100000
set_option maxHeartbeats 0
namespace Pv
/-! ### pure data, results, slots -/
inductive D where
  | non | bl (b : Bool) | int (i : Int) | str (l : List Nat)
  | tup (ds : List D) | lst (ds : List D) | dic (kvs : List (List Nat × D)) | obj (a : Nat) | fn (n : String)
  deriving Inhabited
abbrev LIM : Nat := 16777216
inductive Sl where
  | fz (d : D) | ow (d : D)
abbrev En := List (Option Sl)
def gt : En → Nat → Option Sl
  | [], _ => none
  | x :: _, 0 => x
  | _ :: r, i + 1 => gt r i
def pt : En → Nat → Option Sl → En
  | [], _, _ => []
  | _ :: r, 0, s => s :: r
  | x :: r, i + 1, s => x :: pt r i s
def wipeE (env : En) : List Nat → En
  | [] => env
  | v :: vs => pt (wipeE env vs) v none
inductive Res (α : Type) where
  | ok (a : α) | exc (c : String) | bad
def Res.bind {α β : Type} : Res α → (α → Res β) → Res β
  | .ok a, f => f a
  | .exc c, _ => .exc c
  | .bad, _ => .bad
/-- where nothing may be raised -/
def Res.calm {α : Type} : Res α → Res α
  | .ok a => .ok a
  | .exc _ => .bad
  | .bad => .bad
inductive Fl where
  | nx (env : En) | ret (d : D) | brk (env : En) | cont (env : En) | exc (c : String) (env : En) | bad
def Res.fl {α : Type} (r : Res α) (env : En) (f : α → Fl) : Fl := match r with
  | .ok a => f a
  | .exc c => .exc c env
  | .bad => .bad
/-! ### expressions -/
abbrev Xv := En → Res D
abbrev Tv := En → Res Bool
abbrev Av := En → Res (List D)
def rdV (i : Nat) : Xv := fun env => match gt env i with
  | some (.fz d) => .ok d
  | _ => .bad
def rdB (i : Nat) : Xv := fun env => match gt env i with
  | some (.fz d) => .ok d
  | some (.ow d) => .ok d
  | none => .bad
def xC (d : D) : Xv := fun _ => .ok d
def xU (f : D → Res D) (a : Xv) : Xv := fun env => (a env).bind fun x => (f x).calm
def xOp (f : D → D → Res D) (a b : Xv) : Xv := fun env => (a env).bind fun x => (b env).bind fun y => (f x y).calm
def x3 (f : D → D → D → Res D) (a b c : Xv) : Xv := fun env => (a env).bind fun x => (b env).bind fun y => (c env).bind fun z => (f x y z).calm
def asB : D → Res Bool
  | .bl b => .ok b
  | _ => .bad
def xChain (f g : D → D → Res D) (a b c : Xv) : Xv := fun env => (a env).bind fun x => (b env).bind fun y => (f x y).calm.bind fun z => (asB z).bind fun k => if k = true then (c env).bind fun w => (g y w).calm else .ok (.bl false)
def xAnd (a b : Xv) : Xv := fun env => (a env).bind fun x => (asB x).bind fun c => if c = true then b env else .ok (.bl false)
def xOr (a b : Xv) : Xv := fun env => (a env).bind fun x => (asB x).bind fun c => if c = true then .ok (.bl true) else b env
def xNot (a : Xv) : Xv := fun env => (a env).bind fun x => (asB x).bind fun c => .ok (.bl (!c))
def xIf (t : Tv) (a b : Xv) : Xv := fun env => (t env).bind fun x => if x = true then a env else b env
def tVal (a : Xv) : Tv := fun env => (a env).bind asB
def tNt (t : Tv) : Tv := fun env => (t env).bind fun b => .ok (!b)
def tAn (t u : Tv) : Tv := fun env => (t env).bind fun x => if x = true then u env else .ok false
def tOr' (t u : Tv) : Tv := fun env => (t env).bind fun x => if x = true then .ok true else u env
def tYs : Tv := fun _ => .ok true
def aNil : Av := fun _ => .ok []
def aCons (a : Xv) (r : Av) : Av := fun env => (a env).bind fun x => (r env).bind fun xs => .ok (x :: xs)
def xTup (a : Av) : Xv := fun env => (a env).bind fun xs => if xs.length ≤ LIM then .ok (.tup xs) else .bad
def xLst (a : Av) : Xv := fun env => (a env).bind fun xs => if xs.length ≤ LIM then .ok (.lst xs) else .bad
def xCall (f : List D → Res D) (a : Av) : Xv := fun env => (a env).bind f
/-! ### targets, walks -/
inductive Tg where
  | nm (i : Nat) | tp (is : List Nat)
def ptAll : List Nat → List D → En → Option En
  | [], [], env => some env
  | i :: is, d :: ds, env => ptAll is ds (pt env i (some (.fz d)))
  | _, _, _ => none
def stT : Tg → D → En → Option En
  | .nm i, d, env => some (pt env i (some (.fz d)))
  | .tp is, .tup ds, env => ptAll is ds env
  | .tp _, _, _ => none
def itD : D → Res (List D)
  | .lst ds => .ok ds
  | .tup ds => .ok ds
  | .str l => .ok (l.map fun c => .str [c])
  | .dic kvs => .ok (kvs.map fun kv => .str kv.1)
  | _ => .bad
def iAny (a : Xv) : Av := fun env => (a env).bind itD
def rngD (lo : Int) (n : Nat) : List D := (List.range n).map fun (i : Nat) => D.int (lo + (i : Int))
def rng1 : D → Res (List D)
  | .int j => if -(2 ^ 62) ≤ j ∧ j < 2 ^ 62 ∧ j.toNat ≤ LIM then .ok (rngD 0 j.toNat) else .bad
  | _ => .bad
def rng2 : D → D → Res (List D)
  | .int i, .int j => if (-(2 ^ 62) ≤ i ∧ i < 2 ^ 62 ∧ -(2 ^ 62) ≤ j ∧ j < 2 ^ 62) ∧ (j - i).toNat ≤ LIM then .ok (rngD i (j - i).toNat) else .bad
  | _, _ => .bad
def iR1 (a : Xv) : Av := fun env => (a env).bind rng1
def iR2 (a b : Xv) : Av := fun env => (a env).bind fun x => (b env).bind fun y => rng2 x y
/-- zip of two, a list, a tuple or a text each (no dict) -/
def zpD : D → Res (List D)
  | .lst ds => .ok ds
  | .tup ds => .ok ds
  | .str l => .ok (l.map fun c => .str [c])
  | _ => .bad
def zipW (xs ys : List D) : List D := List.zipWith (fun p q => .tup [p, q]) xs ys
def zipD : D → D → Res (List D)
  | .lst a, .lst b => .ok (zipW a b)
  | .tup a, .tup b => .ok (zipW a b)
  | .str a, .str b => .ok (zipW (a.map fun c => .str [c]) (b.map fun c => .str [c]))
  | _, _ => .bad
def iZip (a b : Xv) : Av := fun env => (a env).bind fun x => (b env).bind fun y => zipD x y
def enumD (n : Nat) : List D → List D
  | [] => []
  | d :: r => .tup [.int (n : Int), d] :: enumD (n + 1) r
def iEnum (a : Xv) : Av := fun env => (a env).bind fun x => (zpD x).bind fun xs => .ok (enumD 0 xs)
/-- [e for T in xs if t] -/
def lcD (T : Tg) (t : Tv) (e : Xv) (env : En) : List D → Res (List D)
  | [] => .ok []
  | x :: xs => match stT T x env with
    | none => .bad
    | some env2 => (t env2).calm.bind fun b => if b = true then (e env2).calm.bind fun y => (lcD T t e env xs).bind fun r => .ok (y :: r) else lcD T t e env xs
def xLc (T : Tg) (own : List Nat) (iv : Av) (t : Tv) (e : Xv) : Xv := fun env => (iv env).bind fun xs => (lcD T t e (wipeE env own) xs).bind fun r => .ok (.lst r)
/-! ### statements -/
abbrev Sv := En → Fl
def sNil : Sv := fun env => .nx env
def sSeq (s r : Sv) : Sv := fun env => match s env with
  | .nx env' => r env'
  | f => f
def sExpr (a : Xv) : Sv := fun env => (a env).fl env fun _ => .nx env
def sRet (a : Xv) : Sv := fun env => (a env).fl env fun d => .ret d
def sIf (t : Tv) (s r : Sv) : Sv := fun env => (t env).fl env fun b => if b = true then s env else r env
def sAsg (T : Tg) (a : Xv) : Sv := fun env => (a env).fl env fun d => match stT T d env with
  | some env' => .nx env'
  | none => .bad
def sRaise (c : String) : Sv := fun env => .exc c env
def sCont : Sv := fun env => .cont env
def sBrk : Sv := fun env => .brk env
/-- owned things, several at once -/
abbrev Ov := En → Res (List Sl)
def oNil : Ov := fun _ => .ok []
def oF (a : Xv) (r : Ov) : Ov := fun env => (a env).bind fun x => (r env).bind fun xs => .ok (.fz x :: xs)
def oL (a : Av) (r : Ov) : Ov := fun env => (a env).bind fun xs => if xs.length ≤ LIM then (r env).bind fun ss => .ok (.ow (.lst xs) :: ss) else .bad
def oD (r : Ov) : Ov := fun env => (r env).bind fun ss => .ok (.ow (.dic []) :: ss)
def ptSl : List Nat → List Sl → En → Option En
  | [], [], env => some env
  | i :: is, s :: ss, env => ptSl is ss (pt env i (some s))
  | _, _, _ => none
def sOwn (is : List Nat) (o : Ov) : Sv := fun env => (o env).fl env fun ss => match ptSl is ss env with
  | some env' => .nx env'
  | none => .bad
def sApp (i : Nat) (a : Xv) : Sv := fun env => match gt env i with
  | some (.ow (.lst ds)) => (a env).fl env fun d => if ds.length < LIM then .nx (pt env i (some (.ow (.lst (ds ++ [d]))))) else .bad
  | _ => .bad
def exD : D → Res (List D)
  | .lst es => .ok es
  | _ => .bad
def sExt (i : Nat) (a : Xv) : Sv := fun env => match gt env i with
  | some (.ow (.lst ds)) => (a env).fl env fun d => match exD d with
    | .ok es => if ds.length + es.length ≤ LIM then .nx (pt env i (some (.ow (.lst (ds ++ es))))) else .bad
    | _ => .bad
  | _ => .bad
def putD (kvs : List (List Nat × D)) (k : List Nat) (v : D) : List (List Nat × D) :=
  if kvs.any (fun kv => decide (kv.1 = k)) then kvs.map fun kv => if kv.1 = k then (kv.1, v) else kv else kvs ++ [(k, v)]
/-- d[k] = v: the value first -/
def sPut (i : Nat) (kx vx : Xv) : Sv := fun env => (vx env).fl env fun v => match gt env i with
  | some (.ow (.dic kvs)) => (kx env).fl env fun k => match k with
    | .str key => if kvs.length < LIM then .nx (pt env i (some (.ow (.dic (putD kvs key v))))) else .bad
    | _ => .bad
  | _ => .bad
def frz (i : Nat) (env : En) : En := match gt env i with
  | some (.ow d) => pt env i (some (.fz d))
  | _ => env
def sFrz (i : Nat) (s : Sv) : Sv := fun env => s (frz i env)
def forD (T : Tg) (b : Sv) : List D → En → Fl
  | [], env => .nx env
  | x :: xs, env => match stT T x env with
    | none => .bad
    | some env2 => match b env2 with
      | .nx e => forD T b xs e
      | .cont e => forD T b xs e
      | .brk e => .nx e
      | f => f
def sFor (T : Tg) (iv : Av) (b : Sv) : Sv := fun env => (iv env).fl env fun xs => forD T b xs env
def whD (t : Tv) (b : Sv) : Nat → En → Fl
  | 0, _ => .bad
  | n + 1, env => (t env).fl env fun c => if c = true then (match b env with
      | .nx e => whD t b n e
      | .cont e => whD t b n e
      | .brk e => .nx e
      | f => f) else .nx env
def noX : Fl → Fl
  | .exc _ _ => .bad
  | f => f
/-- for T in e, e a list, a tuple, a text, or a dict (its keys; nothing is raised then) -/
def forA (T : Tg) (b : Sv) (env : En) : D → Fl
  | .dic kvs => noX (forD T b (kvs.map fun kv => .str kv.1) env)
  | d => match zpD d with
    | .ok xs => forD T b xs env
    | _ => .bad
def sForA (T : Tg) (a : Xv) (b : Sv) : Sv := fun env => (a env).fl env fun d => forA T b env d
def iSeq (a : Xv) : Av := fun env => (a env).bind zpD
def sWh (fu : En → Nat) (t : Tv) (b : Sv) : Sv := fun env => whD t b (fu env) env
/-- try: b, except that returns -/
def sTry (i : Nat) (cat : String → Option Bool) (r : String → Option D) (b : Sv) : Sv := fun env => match b env with
  | .exc c env' => (match cat c with
    | some true => if i < env'.length then (match r c with
      | some d => .ret d
      | none => .bad) else .bad
    | some false => .exc c env'
    | none => .bad)
  | f => f
/-- isinstance(e, C) in the except suite -/
def xIs (i : Nat) (a : Nat) (b : Bool) : Xv := fun env => match gt env i with
  | some (.fz (.obj a')) => if a' = a then .ok (.bl b) else .bad
  | _ => .bad
/-! ### defs -/
def iniE (n : Nat) (ds : List D) : En := ds.map (fun d => some (.fz d)) ++ List.replicate (n - ds.length) none
def outOf : Fl → Res D
  | .ret d => .ok d
  | .nx _ => .ok .non
  | .exc c _ => .exc c
  | _ => .bad
def mkFn (n m : Nat) (sv : Sv) (ds : List D) : Res D := if ds.length = n then outOf (sv (iniE m ds)) else .bad
def fuel (i : Nat) (env : En) : Nat := match gt env i with
  | some (.fz (.int j)) => j.toNat + 1
  | _ => 0
def f0 (g : Res D) : List D → Res D
  | [] => g
  | _ => .bad
def f1 (g : D → Res D) : List D → Res D
  | [a] => g a
  | _ => .bad
def f2 (g : D → D → Res D) : List D → Res D
  | [a, b] => g a b
  | _ => .bad
def f3 (g : D → D → D → Res D) : List D → Res D
  | [a, b, c] => g a b c
  | _ => .bad
def f4 (g : D → D → D → D → Res D) : List D → Res D
  | [a, b, c, d] => g a b c d
  | _ => .bad
end Pv

namespace Pv
/-! ### shapes of data -/
mutual
/-- no dict, no other object within -/
def plain : D → Bool
  | .tup ds => plains ds
  | .lst ds => plains ds
  | .dic _ => false
  | .obj _ => false
  | .fn _ => false
  | _ => true
def plains : List D → Bool
  | [] => true
  | d :: ds => plain d && plains ds
end
mutual
def dep : D → Nat
  | .tup ds => deps ds + 1
  | .lst ds => deps ds + 1
  | _ => 0
def deps : List D → Nat
  | [] => 0
  | d :: ds => max (dep d) (deps ds)
end
mutual
def deq : D → D → Bool
  | .non, .non => true
  | .bl a, .bl b => a == b
  | .bl a, .int j => (if a then 1 else 0) == j
  | .int i, .bl b => i == (if b then 1 else 0)
  | .int i, .int j => i == j
  | .str x, .str y => x == y
  | .lst xs, .lst ys => deqs xs ys
  | .tup xs, .tup ys => deqs xs ys
  | _, _ => false
def deqs : List D → List D → Bool
  | [], [] => true
  | x :: xs, y :: ys => deq x y && deqs xs ys
  | _, _ => false
end
mutual
/-- comparable place by place -/
def alk : D → D → Bool
  | .non, .non => true
  | .bl _, .bl _ => true
  | .int _, .int _ => true
  | .str _, .str _ => true
  | .lst xs, .lst ys => alks xs ys
  | .tup xs, .tup ys => alks xs ys
  | _, _ => false
def alks : List D → List D → Bool
  | x :: xs, y :: ys => alk x y && alks xs ys
  | _, _ => true
end
mutual
def dlt : D → D → Bool
  | .bl a, .bl b => decide ((if a then 1 else 0 : Int) < (if b then 1 else 0))
  | .int i, .int j => decide (i < j)
  | .str x, .str y => decide (x < y)
  | .lst xs, .lst ys => dlts xs ys
  | .tup xs, .tup ys => dlts xs ys
  | _, _ => false
def dlts : List D → List D → Bool
  | [], [] => false
  | [], _ :: _ => true
  | _ :: _, [] => false
  | x :: xs, y :: ys => if deq x y = true then dlts xs ys else dlt x y
end
def isNon : D → Bool
  | .non => true
  | _ => false
def flat : D → Bool
  | .non => true
  | .bl _ => true
  | .int _ => true
  | .str _ => true
  | _ => false
/-! ### operators -/
def addD : D → D → Res D
  | .int i, .int j => .ok (.int (i + j))
  | .str a, .str b => if a.length + b.length ≤ LIM then .ok (.str (a ++ b)) else .bad
  | .lst a, .lst b => if a.length + b.length ≤ LIM then .ok (.lst (a ++ b)) else .bad
  | .tup a, .tup b => if a.length + b.length ≤ LIM then .ok (.tup (a ++ b)) else .bad
  | _, _ => .bad
def subD : D → D → Res D
  | .int i, .int j => .ok (.int (i - j))
  | _, _ => .bad
def mulD : D → D → Res D
  | .int i, .int j => if (-(2 ^ 64) < i ∧ i < 2 ^ 64) ∨ (-(2 ^ 64) < j ∧ j < 2 ^ 64) then .ok (.int (i * j)) else .bad
  | .str a, .int j => if 0 ≤ j ∧ a.length * j.toNat ≤ LIM ∧ j ≤ LIM then .ok (.str (List.replicate j.toNat a).flatten) else .bad
  | .lst a, .int j => if -(2 ^ 63) ≤ j ∧ j < 2 ^ 63 ∧ a.length * j.toNat ≤ LIM then .ok (.lst (List.replicate j.toNat a).flatten) else .bad
  | _, _ => .bad
def fdivD : D → D → Res D
  | .int i, .int j => if 0 < j ∧ j < 2 ^ 64 then .ok (.int (i / j)) else .bad
  | _, _ => .bad
def modD : D → D → Res D
  | .int i, .int j => if 0 < j then .ok (.int (i % j)) else .bad
  | _, _ => .bad
def powD : D → D → Res D
  | .int i, .int j => if 0 ≤ j ∧ j ≤ 1000000 ∧ i.natAbs < 2 ^ 64 then .ok (.int (i ^ j.toNat)) else .bad
  | _, _ => .bad
/-! ### comparisons -/
def ltD (d e : D) : Res D := if plain d = true ∧ plain e = true ∧ alk d e = true ∧ isNon d = false ∧ min (dep d) (dep e) ≤ 60 then .ok (.bl (dlt d e)) else .bad
def leD : D → D → Res D
  | .int i, .int j => .ok (.bl (decide (i ≤ j)))
  | _, _ => .bad
def gtD : D → D → Res D
  | .int i, .int j => .ok (.bl (decide (j < i)))
  | _, _ => .bad
def geD : D → D → Res D
  | .int i, .int j => .ok (.bl (decide (j ≤ i)))
  | _, _ => .bad
def eqD (d e : D) : Res D := if plain d = true ∧ plain e = true ∧ min (dep d) (dep e) ≤ 60 then .ok (.bl (deq d e)) else .bad
def neD (d e : D) : Res D := if plain d = true ∧ plain e = true ∧ min (dep d) (dep e) ≤ 60 then .ok (.bl (!deq d e)) else .bad
def isD : D → D → Res D
  | .bl a, .bl b => .ok (.bl (decide (a = b)))
  | .dic _, .non => .bad
  | .obj _, .non => .bad
  | .fn _, .non => .bad
  | d, .non => .ok (.bl (isNon d))
  | _, _ => .bad
def isnD (d e : D) : Res D := (isD d e).bind fun z => match z with
  | .bl b => .ok (.bl (!b))
  | _ => .bad
/-- x in y -/
def inB : D → D → Res Bool
  | .str [c], .str l => .ok (decide (c ∈ l))
  | d, .lst ds => if flat d = true ∧ ds.all flat = true then .ok (ds.any fun z => deq z d) else if plain d = true ∧ plains ds = true ∧ dep d + deps ds ≤ 60 then .ok (ds.any fun z => deq z d) else .bad
  | d, .tup ds => if flat d = true ∧ ds.all flat = true then .ok (ds.any fun z => deq z d) else .bad
  | .str k, .dic kvs => .ok (kvs.any fun kv => decide (kv.1 = k))
  | _, _ => .bad
def inD (d e : D) : Res D := (inB d e).bind fun b => .ok (.bl b)
def ninD (d e : D) : Res D := (inB d e).bind fun b => .ok (.bl (!b))
/-! ### items, slices -/
def ixN (n : Nat) (i : Int) : Option Nat := if 0 ≤ i then (if i < n then some i.toNat else none) else if -(n : Int) ≤ i then some (i + n).toNat else none
def atD {α : Type} (xs : List α) (i : Int) : Option α := (ixN xs.length i).bind fun j => xs[j]?
def lookD (kvs : List (List Nat × D)) (k : List Nat) : Option D := (kvs.find? fun kv => decide (kv.1 = k)).map (·.2)
def ixD : D → D → Res D
  | .lst ds, .int i => match atD ds i with
    | some d => .ok d
    | none => .bad
  | .tup ds, .int i => match atD ds i with
    | some d => .ok d
    | none => .bad
  | .str l, .int i => match atD l i with
    | some c => .ok (.str [c])
    | none => .bad
  | .dic kvs, .str k => match lookD kvs k with
    | some d => .ok d
    | none => .bad
  | _, _ => .bad
def sIx (n d : Nat) : Option Int → Nat
  | none => d
  | some v => (if v < 0 then max (v + (n : Int)) 0 else min v (n : Int)).toNat
def cutD {α : Type} (xs : List α) (lo hi : Option Int) : List α := (xs.drop (sIx xs.length 0 lo)).take (sIx xs.length xs.length hi - sIx xs.length 0 lo)
def slD (lo hi : Option Int) : D → Res D
  | .lst ds => .ok (.lst (cutD ds lo hi))
  | .tup ds => .ok (.tup (cutD ds lo hi))
  | .str l => .ok (.str (cutD l lo hi))
  | _ => .bad
def asI : D → Res Int
  | .int i => .ok i
  | _ => .bad
def oI : Option Xv → En → Res (Option Int)
  | none, _ => .ok none
  | some a, env => (a env).bind fun d => (asI d).bind fun i => .ok (some i)
def xSl (a : Xv) (lo hi : Option Xv) : Xv := fun env => (a env).bind fun x => (oI lo env).bind fun l => (oI hi env).bind fun h => (slD l h x).calm
def isDic : D → Bool
  | .dic _ => true
  | _ => false
def isStr : D → Bool
  | .str _ => true
  | _ => false
def isLst : D → Bool
  | .lst _ => true
  | _ => false
/-- o.m(b), o.m(b, c): the object's kind is asked first -/
def xM (ok : D → Bool) (f : D → D → Res D) (a b : Xv) : Xv := fun env => (a env).bind fun x => if ok x = true then (b env).bind fun y => (f x y).calm else .bad
def xM2 (ok : D → Bool) (f : D → D → D → Res D) (a b c : Xv) : Xv := fun env => (a env).bind fun x => if ok x = true then (b env).bind fun y => (c env).bind fun z => (f x y z).calm else .bad
/-! ### built-ins -/
def lenD : D → Res D
  | .lst ds => .ok (.int ds.length)
  | .tup ds => .ok (.int ds.length)
  | .str l => .ok (.int l.length)
  | .dic kvs => .ok (.int kvs.length)
  | _ => .bad
def asBs : List D → Option (List Bool)
  | [] => some []
  | .bl b :: r => (asBs r).map (b :: ·)
  | _ => none
def allD : D → Res D
  | .lst ds => match asBs ds with
    | some bs => .ok (.bl (bs.all id))
    | none => .bad
  | _ => .bad
def anyD : D → Res D
  | .lst ds => match asBs ds with
    | some bs => .ok (.bl (bs.any id))
    | none => .bad
  | _ => .bad
inductive Ty where
  | int | bool | str | tuple | list
def isiB : Ty → D → Option Bool
  | _, .obj _ => none
  | _, .fn _ => none
  | .int, .int _ => some true
  | .int, .bl _ => some true
  | .bool, .bl _ => some true
  | .str, .str _ => some true
  | .tuple, .tup _ => some true
  | .list, .lst _ => some true
  | _, _ => some false
def isiD (T : Ty) (d : D) : Res D := match isiB T d with
  | some b => .ok (.bl b)
  | none => .bad
def intD : D → Res D
  | .int i => .ok (.int i)
  | .bl b => .ok (.int (if b then 1 else 0))
  | _ => .bad
def tupD : D → Res D
  | .lst ds => .ok (.tup ds)
  | .tup ds => .ok (.tup ds)
  | _ => .bad
def lisD : D → Res D
  | .lst ds => .ok (.lst ds)
  | .tup ds => .ok (.lst ds)
  | .dic kvs => .ok (.lst (kvs.map fun kv => .str kv.1))
  | _ => .bad
def asSs : List D → Option (List (List Nat))
  | [] => some []
  | .str l :: r => (asSs r).map (l :: ·)
  | _ => none
def joinL (sep : List Nat) : List (List Nat) → List Nat
  | [] => []
  | [a] => a
  | a :: r => a ++ sep ++ joinL sep r
def joinD : D → D → Res D
  | .str sep, .lst ds => match asSs ds with
    | some ls => if (ls.map List.length).sum + ls.length * sep.length ≤ LIM then .ok (.str (joinL sep ls)) else .bad
    | none => .bad
  | _, _ => .bad
def get1 : D → D → Res D
  | .dic kvs, .str k => .ok ((lookD kvs k).getD .non)
  | _, _ => .bad
def get2 : D → D → D → Res D
  | .dic kvs, .str k, d => .ok ((lookD kvs k).getD d)
  | _, _, _ => .bad
/-- sorted -/
def dle (a b : D) : Bool := !dlt b a
def alkAll (ds : List D) : Bool := ds.all fun a => ds.all fun b => alk a b
def srtOk (ds : List D) : Bool := plains ds && alkAll ds && decide (deps ds ≤ 60) && (ds.all (fun d => match d with | .tup (_ :: _) => true | _ => false) || ds.all (fun d => match d with | .non => false | .tup _ => false | _ => true))
def sortD : D → Res D
  | .lst ds => if srtOk ds = true then .ok (.lst (ds.mergeSort dle)) else .bad
  | .dic kvs => .ok (.lst ((kvs.map fun kv => D.str kv.1).mergeSort dle))
  | _ => .bad
def fstT : List Bool → Nat → Option Nat
  | [], _ => none
  | true :: _, j => some j
  | false :: r, j => fstT r (j + 1)
def idxT : D → Res D
  | .lst ds => match asBs ds with
    | some bs => match fstT bs 0 with
      | some j => .ok (.int (j : Nat))
      | none => .bad
    | none => .bad
  | _ => .bad
/-! ### slots -/
theorem pt_len : ∀ (e : En) (i : Nat) (s : Option Sl), (pt e i s).length = e.length
  | [], _, _ => rfl
  | _ :: _, 0, _ => rfl
  | _ :: r, i + 1, s => congrArg (· + 1) (pt_len r i s)
theorem gt_pt_same : ∀ (e : En) (i : Nat) (s : Option Sl), i < e.length → gt (pt e i s) i = s
  | [], _, _, h => absurd h (Nat.not_lt_zero _)
  | _ :: _, 0, _, _ => rfl
  | _ :: r, i + 1, s, h => gt_pt_same r i s (Nat.lt_of_succ_lt_succ h)
theorem gt_pt_ne : ∀ (e : En) (i j : Nat) (s : Option Sl), i ≠ j → gt (pt e i s) j = gt e j
  | [], _, _, _, _ => rfl
  | _ :: _, 0, 0, _, h => absurd rfl h
  | _ :: _, 0, _ + 1, _, _ => rfl
  | _ :: _, _ + 1, 0, _, _ => rfl
  | _ :: r, i + 1, j + 1, s, h => gt_pt_ne r i j s (fun e => h (congrArg (· + 1) e))
theorem gt_lt : ∀ (e : En) (i : Nat) (s : Sl), gt e i = some s → i < e.length
  | [], _, _, h => by cases h
  | _ :: _, 0, _, _ => Nat.succ_pos _
  | _ :: r, i + 1, s, h => Nat.succ_lt_succ (gt_lt r i s h)
end Pv

namespace Pv
open PySem PySem.Spec L2

theorem lim : sizeLine = LIM := sizeLine_eq
def tx (l : List Nat) : Str := ⟨l.toArray⟩
theorem tx_inj {a b : List Nat} (h : tx a = tx b) : a = b := by
  have e : a.toArray = b.toArray := congrArg Str.cps h
  have := congrArg Array.toList e
  simpa using this
theorem tx_list (l : List Nat) : (tx l).cps.toList = l := by simp [tx]
theorem tx_len (l : List Nat) : (tx l).length = l.length := by simp [tx, Str.length]
def E0h : Hp := fun _ => none
def okS (l : List Nat) : Prop := l.length ≤ LIM ∧ ∀ c ∈ l, c < 1114112
instance (l : List Nat) : Decidable (okS l) := by unfold okS; infer_instance
def Ts (K : PySem.W.Frag) (F : Hp) (a : Addr) (vs : List V) : Prop := F a = some (.tup vs) ∨ SqT K E0h a vs
theorem sqT_up {K : PySem.W.Frag} {H : Hp} {a : Addr} {vs : List V} (h : SqT K E0h a vs) : SqT K H a vs := by
  rcases h with (h | ⟨o, h⟩) | h
  · exact absurd h (by simp [E0h])
  · exact absurd h (by simp [E0h])
  · exact .inr h
mutual
inductive Rp (K : PySem.W.Frag) (F : Hp) : V → D → Prop
  | non : Rp K F .non .non
  | bl (b : Bool) : Rp K F (.bl b) (.bl b)
  | int (i : Int) : Rp K F (.int i) (.int i)
  | str (l : List Nat) : okS l → Rp K F (.str (tx l)) (.str l)
  | tup {a : Addr} {vs : List V} {ds : List D} : Ts K F a vs → vs.length ≤ LIM → RpA K F vs ds → Rp K F (.ref a) (.tup ds)
  | lst {a : Addr} {vs : List V} {ds : List D} : F a = some (.lst vs) → vs.length ≤ LIM → RpA K F vs ds → Rp K F (.ref a) (.lst ds)
  | dic {a : Addr} {kvs : List (Key × V)} {ds : List (List Nat × D)} : F a = some (.dK kvs) → kvs.length ≤ LIM → RpK K F kvs ds → Rp K F (.ref a) (.dic ds)
  | obj (a : Addr) : Rp K F (.ref a) (.obj a)
  | fn (n : String) : Rp K F (.ref (He.ga K (Str.ofString n))) (.fn n)
inductive RpA (K : PySem.W.Frag) (F : Hp) : List V → List D → Prop
  | nil : RpA K F [] []
  | cons {v : V} {vs : List V} {d : D} {ds : List D} : Rp K F v d → RpA K F vs ds → RpA K F (v :: vs) (d :: ds)
inductive RpK (K : PySem.W.Frag) (F : Hp) : List (Key × V) → List (List Nat × D) → Prop
  | nil : RpK K F [] []
  | cons {k : List Nat} {v : V} {kvs : List (Key × V)} {d : D} {ds : List (List Nat × D)} : okS k → Rp K F v d → RpK K F kvs ds → RpK K F ((Sum.inr (tx k), v) :: kvs) ((k, d) :: ds)
end
section
variable {K : PySem.W.Frag} {F F' : Hp}
mutual
theorem Rp.mono (h : ∀ a u, F a = some u → F' a = some u) : ∀ {v : V} {d : D}, Rp K F v d → Rp K F' v d
  | _, _, .non => .non
  | _, _, .bl b => .bl b
  | _, _, .int i => .int i
  | _, _, .str l z => .str l z
  | _, _, .tup q z r => .tup (q.imp (h _ _) id) z (RpA.mono h r)
  | _, _, .lst q z r => .lst (h _ _ q) z (RpA.mono h r)
  | _, _, .dic q z r => .dic (h _ _ q) z (RpK.mono h r)
  | _, _, .obj a => .obj a
  | _, _, .fn n => .fn n
theorem RpA.mono (h : ∀ a u, F a = some u → F' a = some u) : ∀ {vs : List V} {ds : List D}, RpA K F vs ds → RpA K F' vs ds
  | _, _, .nil => .nil
  | _, _, .cons r t => .cons (Rp.mono h r) (RpA.mono h t)
theorem RpK.mono (h : ∀ a u, F a = some u → F' a = some u) : ∀ {vs : List (Key × V)} {ds : List (List Nat × D)}, RpK K F vs ds → RpK K F' vs ds
  | _, _, .nil => .nil
  | _, _, .cons z r t => .cons z (Rp.mono h r) (RpK.mono h t)
end
theorem RpA.length : ∀ {vs : List V} {ds : List D}, RpA K F vs ds → vs.length = ds.length
  | _, _, .nil => rfl
  | _, _, .cons _ t => congrArg (· + 1) (RpA.length t)
theorem RpA.append : ∀ {vs ws : List V} {ds es : List D}, RpA K F vs ds → RpA K F ws es → RpA K F (vs ++ ws) (ds ++ es)
  | _, _, _, _, .nil, t => t
  | _, _, _, _, .cons r s, t => .cons r (RpA.append s t)
theorem RpA.get : ∀ {vs : List V} {ds : List D} {i : Nat} {v : V}, RpA K F vs ds → vs[i]? = some v → ∃ d, ds[i]? = some d ∧ Rp K F v d
  | _, _, _, _, .nil, e => by simp at e
  | _, _, 0, _, .cons r _, e => by simp at e; subst e; exact ⟨_, rfl, r⟩
  | _, _, i + 1, v, .cons _ t, e => by
    obtain ⟨d, h1, h2⟩ := RpA.get (i := i) (v := v) t (by simpa using e)
    exact ⟨d, by simpa using h1, h2⟩
theorem RpA.getD : ∀ {vs : List V} {ds : List D} {i : Nat} {d : D}, RpA K F vs ds → ds[i]? = some d → ∃ v, vs[i]? = some v ∧ Rp K F v d
  | _, _, _, _, .nil, e => by simp at e
  | _, _, 0, _, .cons r _, e => by simp at e; subst e; exact ⟨_, rfl, r⟩
  | _, _, i + 1, v, .cons _ t, e => by
    obtain ⟨d, h1, h2⟩ := RpA.getD (i := i) (d := v) t (by simpa using e)
    exact ⟨d, by simpa using h1, h2⟩
theorem RpA.take : ∀ {vs : List V} {ds : List D} (n : Nat), RpA K F vs ds → RpA K F (vs.take n) (ds.take n)
  | _, _, 0, _ => .nil
  | _, _, _ + 1, .nil => .nil
  | _, _, n + 1, .cons r t => .cons r (RpA.take n t)
theorem RpA.drop : ∀ {vs : List V} {ds : List D} (n : Nat), RpA K F vs ds → RpA K F (vs.drop n) (ds.drop n)
  | _, _, 0, r => r
  | _, _, _ + 1, .nil => .nil
  | _, _, n + 1, .cons _ t => RpA.drop n t
theorem RpK.length : ∀ {vs : List (Key × V)} {ds : List (List Nat × D)}, RpK K F vs ds → vs.length = ds.length
  | _, _, .nil => rfl
  | _, _, .cons _ _ t => congrArg (· + 1) (RpK.length t)
end

/-! ### the frozen part, growth -/
def Sub (F H : Hp) : Prop := ∀ a u, F a = some u → Rd H a u
structure Gd (F H F' H' : Hp) : Prop where
  ff : ∀ a u, F a = some u → F' a = some u
  hh : Same H H'
  sub : Sub F' H'
  nw : ∀ a, F' a ≠ none → F a ≠ none ∨ H a = none
section
variable {F H F1 H1 F2 H2 : Hp}
theorem Gd.refl (s : Sub F H) : Gd F H F H := ⟨fun _ _ h => h, Same.refl H, s, fun _ h => .inl h⟩
theorem Gd.trans (g : Gd F H F1 H1) (k : Gd F1 H1 F2 H2) : Gd F H F2 H2 :=
  ⟨fun a u h => k.ff a u (g.ff a u h), g.hh.trans k.hh, k.sub, fun a h => by
    rcases k.nw a h with q | q
    · exact g.nw a q
    · exact .inr (g.hh.free q)⟩
/-- a new object, frozen -/
theorem Gd.new {p : Addr} {o : HO} (s : Sub F H) (np : H p = none) : Gd F H (upd F p o) (upd H p o) := by
  refine ⟨fun a u h => ?_, fun b x e => ?_, fun a u h => ?_, fun a h => ?_⟩
  · have ne : a ≠ p := fun e => by
      subst e
      rcases s a u h with q | ⟨o', q⟩
      · rw [np] at q; cases q
      · rw [np] at q; cases q
    rw [upd_ne ne]; exact h
  · rw [upd_ne (ne_of_none e np)]; exact e
  · by_cases e : a = p
    · subst e; rw [upd_same] at h; cases h; exact .inl upd_same
    · rw [upd_ne e] at h
      rcases s a u h with q | ⟨o', q⟩
      · exact .inl (by rw [upd_ne e]; exact q)
      · exact .inr ⟨o', by rw [upd_ne e]; exact q⟩
  · by_cases e : a = p
    · subst e; exact .inr np
    · rw [upd_ne e] at h; exact .inl h
/-- a new object that is not frozen (owned or dropped) -/
theorem Gd.drop {p : Addr} {o : HO} (s : Sub F H) (np : H p = none) : Gd F H F (upd H p o) := by
  refine ⟨fun a u h => h, fun b x e => ?_, fun a u h => ?_, fun a h => .inl h⟩
  · rw [upd_ne (ne_of_none e np)]; exact e
  · rcases s a u h with q | ⟨o', q⟩
    · exact .inl (by rw [upd_ne (ne_of_none q np)]; exact q)
    · exact .inr ⟨o', by rw [upd_ne (ne_of_none q np)]; exact q⟩
end
theorem Sub.tup {K : PySem.W.Frag} {F H : Hp} {a : Addr} {vs : List V} (s : Sub F H) (h : Ts K F a vs) : SqT K H a vs := by
  rcases h with h | h
  · exact .inl (s _ _ h)
  · exact sqT_up h

/-! ### slots -/
/-- what an owned slot holds -/
inductive RpO (K : PySem.W.Frag) (F H : Hp) (a : Addr) : D → Prop
  | lst {vs : List V} {ds : List D} : H a = some (.lst vs) → vs.length ≤ LIM → RpA K F vs ds → RpO K F H a (.lst ds)
  | dic {kvs : List (Key × V)} {ds : List (List Nat × D)} : H a = some (.dK kvs) → kvs.length ≤ LIM → RpK K F kvs ds → RpO K F H a (.dic ds)
theorem RpO.mono {K : PySem.W.Frag} {F H F' H' : Hp} {a : Addr} {d : D} (r : RpO K F H a d) (h : ∀ a u, F a = some u → F' a = some u) (e : ∀ o, H a = some o → H' a = some o) : RpO K F' H' a d := by
  cases r with
  | lst q z r => exact .lst (e _ q) z (r.mono h)
  | dic q z r => exact .dic (e _ q) z (r.mono h)
theorem RpO.there {K : PySem.W.Frag} {F H : Hp} {a : Addr} {d : D} (r : RpO K F H a d) : ∃ o, H a = some o := by
  cases r with
  | lst q z r => exact ⟨_, q⟩
  | dic q z r => exact ⟨_, q⟩
structure SR (K : PySem.W.Frag) (H0 F0 F H : Hp) (σ : St) (env : En) : Prop where
  gd : Gd F0 H0 F H
  len : σ.length = env.length
  fz : ∀ i d, gt env i = some (.fz d) → ∃ v, σ[i]? = some (some v) ∧ Rp K F v d
  ow : ∀ i d, gt env i = some (.ow d) → ∃ a, σ[i]? = some (some (.ref a)) ∧ H0 a = none ∧ F a = none ∧ RpO K F H a d
  ap : ∀ i j d d' a, gt env i = some (.ow d) → gt env j = some (.ow d') → σ[i]? = some (some (.ref a)) → σ[j]? = some (some (.ref a)) → i = j
section
variable {K : PySem.W.Frag} {H0 F0 F H F1 H1 : Hp} {σ : St} {env : En}
theorem SR.grow (S : SR K H0 F0 F H σ env) (g : Gd F H F1 H1) : SR K H0 F0 F1 H1 σ env := by
  refine ⟨S.gd.trans g, S.len, fun i d e => ?_, fun i d e => ?_, S.ap⟩
  · obtain ⟨v, h1, h2⟩ := S.fz i d e
    exact ⟨v, h1, h2.mono g.ff⟩
  · obtain ⟨a, h1, h2, h3, h4⟩ := S.ow i d e
    refine ⟨a, h1, h2, ?_, h4.mono g.ff (fun o q => g.hh a o q)⟩
    cases q : F1 a with
    | none => rfl
    | some u =>
      rcases g.nw a (by rw [q]; simp) with z | z
      · exact absurd h3 z
      · obtain ⟨o, ho⟩ := h4.there
        rw [z] at ho; cases ho
theorem SR.sub (S : SR K H0 F0 F H σ env) : Sub F H := S.gd.sub
end

/-! ### results and readings -/
abbrev WS := String → St → Hp → Prop
def WF : WS := fun _ _ _ => False
def wx (ct : String → Addr) (W : WS) : WX := fun cls d σ H => ∃ c, cls = .ref (ct c) ∧ d = none ∧ W c σ H
def Got {α β : Type} (Rel : Hp → Hp → β → α → Prop) (W : WS) (F H : Hp) (σ : St) (Q : β → Hp → Prop) : Res α → Prop
  | .ok d => ∀ v F' H', Gd F H F' H' → Rel F' H' v d → Q v H'
  | .exc c => ∀ F' H', Gd F H F' H' → W c σ H'
  | .bad => False
def rd {α β : Type} (K : PySem.W.Frag) (Rel : Hp → Hp → β → α → Prop) (W : WS) (ev : En → Res α) : St → Hp → (β → Hp → Prop) → Prop :=
  fun σ H Q => ∃ H0 F0 F env, SR K H0 F0 F H σ env ∧ Got Rel W F H σ Q (ev env)
theorem Got.grow {α β : Type} {Rel : Hp → Hp → β → α → Prop} {W : WS} {F H F1 H1 : Hp} {σ : St} {Q : β → Hp → Prop} {r : Res α} (g : Gd F H F1 H1) (h : Got Rel W F H σ Q r) : Got Rel W F1 H1 σ Q r := by
  cases r with
  | ok d => exact fun v F' H' g' r => h v F' H' (g.trans g') r
  | exc c => exact fun F' H' g' => h F' H' (g.trans g')
  | bad => exact h
theorem seq {α β γ δ : Type} {Rel : Hp → Hp → β → α → Prop} {Rel2 : Hp → Hp → δ → γ → Prop} {W : WS} {K : PySem.W.Frag} {ev : En → Res α} {kk : α → Res γ} {Q : δ → Hp → Prop} {R : β → Hp → Prop}
    {H0 F0 F H : Hp} {σ : St} {env : En} (S : SR K H0 F0 F H σ env) (g : Got Rel2 W F H σ Q ((ev env).bind kk))
    (h : ∀ v d F1 H1, SR K H0 F0 F1 H1 σ env → Gd F H F1 H1 → Rel F1 H1 v d → Got Rel2 W F1 H1 σ Q (kk d) → R v H1) : rd K Rel W ev σ H R := by
  refine ⟨H0, F0, F, env, S, ?_⟩
  cases e : ev env with
  | ok d => rw [e] at g; exact fun v F1 H1 gd r => h v d F1 H1 (S.grow gd) gd r (Got.grow gd g)
  | exc c => rw [e] at g; exact g
  | bad => rw [e] at g; exact g.elim
abbrev RE (K : PySem.W.Frag) : Hp → Hp → V → D → Prop := fun F _ v d => Rp K F v d
abbrev RA (K : PySem.W.Frag) : Hp → Hp → List V → List D → Prop := fun F _ vs ds => RpA K F vs ds
abbrev RB : Hp → Hp → Bool → Bool → Prop := fun _ _ b c => b = c
/-- borrowed: frozen, or an owned slot's own -/
def RBo (K : PySem.W.Frag) : Hp → Hp → V → D → Prop := fun F H v d => Rp K F v d ∨ ∃ a, v = .ref a ∧ F a = none ∧ RpO K F H a d
theorem RBo.grow {K : PySem.W.Frag} {F H F1 H1 : Hp} {v : V} {d : D} (r : RBo K F H v d) (g : Gd F H F1 H1) : RBo K F1 H1 v d := by
  rcases r with r | ⟨a, e, n, r⟩
  · exact .inl (r.mono g.ff)
  · refine .inr ⟨a, e, ?_, r.mono g.ff (fun o q => g.hh a o q)⟩
    cases q : F1 a with
    | none => rfl
    | some u =>
      rcases g.nw a (by rw [q]; simp) with z | z
      · exact absurd n z
      · obtain ⟨o, ho⟩ := r.there
        rw [z] at ho; cases ho
/-- what an expression stands in -/
structure Cz (ct : String → Addr) (k : Nat) (X : Cx) (W : WS) : Prop where
  tk : Takes X (wx ct W)
  po : PassesOwn (model X.prog X.w) X.A X.env X.xe
  calm : X.calm = true
  nd : X.N.Nodup
  room : Room k X.A
def PEv (ct : String → Addr) (k : Nat) (X : Cx) (W : WS) (e : Expr) (ev : En → Res D) : Prop := Cz ct k X W → PE X e (rd X.K (RE X.K) W ev)
def PBv (ct : String → Addr) (k : Nat) (X : Cx) (W : WS) (e : Expr) (ev : En → Res D) : Prop := Cz ct k X W → PE X e (rd X.K (RBo X.K) W ev)
def PTv (ct : String → Addr) (k : Nat) (X : Cx) (W : WS) (e : Expr) (ev : En → Res Bool) : Prop := Cz ct k X W → PT X e (rd X.K RB W ev)
def PAv (ct : String → Addr) (k : Nat) (X : Cx) (W : WS) (es : List Expr) (ev : En → Res (List D)) : Prop := Cz ct k X W → PA X es (rd X.K (RA X.K) W ev)
theorem _root_.L2.PE.imp {X : Cx} {e : Expr} {t t' : TE} (h : PE X e t) (i : ∀ σ H Q, t' σ H Q → t σ H Q) : PE X e t' := ⟨fun pins s σ H Q I q => h.run pins s σ H Q I (i _ _ _ q)⟩
theorem _root_.L2.PT.imp {X : Cx} {e : Expr} {t t' : TT} (h : PT X e t) (i : ∀ σ H Q, t' σ H Q → t σ H Q) : PT X e t' := ⟨fun pins s σ H Q I q => h.run pins s σ H Q I (i _ _ _ q)⟩
theorem _root_.L2.PA.imp {X : Cx} {e : List Expr} {t t' : TA} (h : PA X e t) (i : ∀ σ H Q, t' σ H Q → t σ H Q) : PA X e t' := ⟨fun pos pins s σ H Q I q => h.run pos pins s σ H Q I (i _ _ _ q)⟩
theorem _root_.L2.PS.imp {X : Cx} {e : Stmt} {t t' : TS} (h : PS X e t) (i : ∀ D σ H, t' D σ H → t D σ H) : PS X e t' := ⟨fun pins s σ H Q I q => h.run pins s σ H Q I (i _ _ _ q)⟩
theorem _root_.L2.PSs.imp {X : Cx} {e : List Stmt} {t t' : TS} (h : PSs X e t) (i : ∀ D σ H, t' D σ H → t D σ H) : PSs X e t' := ⟨fun pins s σ H Q I q => h.run pins s σ H Q I (i _ _ _ q)⟩

section
variable {ct : String → Addr} {k : Nat} {X : Cx} {W : WS} {e a b c : Expr} {es : List Expr} {pos : Pos} {ev ea eb ec : Xv}
/-! ### names, constants -/
theorem e_var (i : Nat) {x : Str} (hN : X.N[i]? = some x := by rfl) (hv : Vis X.env.scope x := by first | exact Or.inl rfl | exact Or.inr (Or.inl rfl) | exact Or.inr (Or.inr rfl)) (hd : (x == ("__debug__" : Str)) = false := by decide)
    (hcd : (x == ("__classdict__" : Str)) = false := by decide) : PEv ct k X W (.Name x pos) (rdV i) := fun C => (pe_var hN hv hd hcd).imp fun σ H Q ⟨H0, F0, F, env, S, g⟩ => by
  unfold rdV at g
  cases q : gt env i with
  | none => rw [q] at g; exact g.elim
  | some s =>
    rw [q] at g
    cases s with
    | fz d =>
      obtain ⟨v, h1, h2⟩ := S.fz i d q
      exact ⟨v, h1, g v F H (.refl S.sub) h2⟩
    | ow d => exact g.elim
theorem b_var (i : Nat) {x : Str} (hN : X.N[i]? = some x := by rfl) (hv : Vis X.env.scope x := by first | exact Or.inl rfl | exact Or.inr (Or.inl rfl) | exact Or.inr (Or.inr rfl)) (hd : (x == ("__debug__" : Str)) = false := by decide)
    (hcd : (x == ("__classdict__" : Str)) = false := by decide) : PBv ct k X W (.Name x pos) (rdB i) := fun C => (pe_var hN hv hd hcd).imp fun σ H Q ⟨H0, F0, F, env, S, g⟩ => by
  unfold rdB at g
  cases q : gt env i with
  | none => rw [q] at g; exact g.elim
  | some s =>
    rw [q] at g
    cases s with
    | fz d =>
      obtain ⟨v, h1, h2⟩ := S.fz i d q
      exact ⟨v, h1, g v F H (.refl S.sub) (.inl h2)⟩
    | ow d =>
      obtain ⟨a, h1, h2, h3, h4⟩ := S.ow i d q
      exact ⟨_, h1, g _ F H (.refl S.sub) (.inr ⟨a, rfl, h3, h4⟩)⟩
theorem PEv.bo (h : PEv ct k X W e ev) : PBv ct k X W e ev := fun C => (h C).imp fun σ H Q ⟨H0, F0, F, env, S, g⟩ => ⟨H0, F0, F, env, S, by
  cases q : ev env with
  | ok d => rw [q] at g; exact fun v F' H' gd r => g v F' H' gd (.inl r)
  | exc c => rw [q] at g; exact g
  | bad => rw [q] at g; exact g⟩
theorem e_int {i j} : PEv ct k X W (.Constant (.int i) j pos) (xC (.int i)) := fun C => pe_int.imp fun σ H Q ⟨H0, F0, F, env, S, g⟩ => g _ F H (.refl S.sub) (.int i)
theorem e_bl {i j} : PEv ct k X W (.Constant (.bool i) j pos) (xC (.bl i)) := fun C => pe_bl.imp fun σ H Q ⟨H0, F0, F, env, S, g⟩ => g _ F H (.refl S.sub) (.bl i)
theorem e_non {j} : PEv ct k X W (.Constant .none j pos) (xC .non) := fun C => pe_non.imp fun σ H Q ⟨H0, F0, F, env, S, g⟩ => g _ F H (.refl S.sub) .non
theorem tx_of {x : Str} {l : List Nat} (h : x.cps.toList = l) : x = tx l := by
  cases x with
  | mk cps =>
    unfold tx
    congr 1
    subst h
    simp
theorem e_str (l : List Nat) {x : Str} {j} (h : x.cps.toList = l := by rfl) (hz : okS l := by decide) : PEv ct k X W (.Constant (.str x) j pos) (xC (.str l)) := fun C => pe_str.imp fun σ H Q ⟨H0, F0, F, env, S, g⟩ => by
  have e := tx_of h
  subst e
  exact g _ F H (.refl S.sub) (.str l hz)
/-- a constant of the module -/
theorem e_glob {x : Str} {v : V} {u : Value} {d : D} (hm : X.mg x = some u) (r : RelV v u) (hd : ∀ F, Rp X.K F v d) (hg : Gl X x := by rfl) (hdb : (x == ("__debug__" : Str)) = false := by decide) : PEv ct k X W (.Name x pos) (xC d) := fun C =>
  (pe_glob hg hm r hdb).imp fun σ H Q ⟨H0, F0, F, env, S, g⟩ => g v F H (.refl S.sub) (hd F)
theorem e_gint {x : Str} {i : Int} (hm : ∃ t, X.mg x = some (.int i t)) (hg : Gl X x := by rfl) (hdb : (x == ("__debug__" : Str)) = false := by decide) : PEv ct k X W (.Name x pos) (xC (.int i)) := by
  obtain ⟨t, hm⟩ := hm
  exact e_glob hm (v := .int i) ⟨t, rfl⟩ (fun F => .int i) hg hdb
theorem e_gstr {x : Str} {z : Str} (l : List Nat) (hm : ∃ t, X.mg x = some (.str z t)) (h : z.cps.toList = l := by rfl) (hz : okS l := by decide) (hg : Gl X x := by rfl) (hdb : (x == ("__debug__" : Str)) = false := by decide) : PEv ct k X W (.Name x pos) (xC (.str l)) := by
  obtain ⟨t, hm⟩ := hm
  have e := tx_of h
  subst e
  exact e_glob hm (v := .str (tx l)) ⟨t, rfl⟩ (fun F => .str l hz) hg hdb

/-! ### operations on values -/
/-- what r asks, from data, where f gives ok; r a two-place reading -/
def OpD (K : PySem.W.Frag) (r : R2) (f : D → D → Res D) : Prop :=
  ∀ F H x y d e (Q : VK), Sub F H → RBo K F H x d → RBo K F H y e → Got (RE K) WF F H [] Q (f d e) → r x y H Q
theorem got_wf {α β : Type} {Rel : Hp → Hp → β → α → Prop} {W : WS} {F H : Hp} {σ : St} {Q : β → Hp → Prop} {r : Res α} (h : Got Rel W F H σ Q r.calm) : Got Rel WF F H [] Q r := by
  cases r with
  | ok d => exact h
  | exc c => exact (show False from h).elim
  | bad => exact h
theorem e_op {op : Operator} {r : R2} {f : D → D → Res D} (hd : OpD X.K r f) (ho : OpR X (binaryOp op) r) (ha : PBv ct k X W a ea) (hb : PBv ct k X W b eb) :
    PEv ct k X W (.BinOp a op b pos) (xOp f ea eb) := fun C =>
  (pe_op ho (ha C) (hb C)).imp fun σ H Q ⟨H0, F0, F, env, S, g⟩ => seq S g fun x d F1 H1 S1 g1 rx q1 => seq S1 q1 fun y e F2 H2 S2 g2 ry q2 =>
    hd F2 H2 x y d e Q S2.sub (rx.grow g2) ry (got_wf q2)
theorem e_cmp {op : CmpOp} {r : R2} {f : D → D → Res D} (hd : OpD X.K r f) (ho : OpR X (compareOp op) r) (ha : PBv ct k X W a ea) (hb : PBv ct k X W b eb) (hm : behindInMarks op b = false := by first | exact nomark _ | with_unfolding_all rfl) :
    PEv ct k X W (.Compare a [op] [b] pos) (xOp f ea eb) := fun C =>
  (pe_cmpR ho (ha C) (hb C) hm).imp fun σ H Q ⟨H0, F0, F, env, S, g⟩ => seq S g fun x d F1 H1 S1 g1 rx q1 => seq S1 q1 fun y e F2 H2 S2 g2 ry q2 =>
    hd F2 H2 x y d e Q S2.sub (rx.grow g2) ry (got_wf q2)
theorem rp_bl {K : PySem.W.Frag} {F : Hp} {v : V} {b : Bool} (h : Rp K F v (.bl b)) : v = .bl b := by cases h; rfl
theorem t_of {v : V} {d : D} {F1 H1 : Hp} {σ : St} {Q : Bool → Hp → Prop} (s : Sub F1 H1) (r : Rp X.K F1 v d) (q : Got RB W F1 H1 σ Q (asB d)) : ∃ kk, v = .bl kk ∧ Q kk H1 := by
  cases d with
  | bl b => exact ⟨b, rp_bl r, q b F1 H1 (.refl s) rfl⟩
  | _ => exact q.elim
theorem t_cmp {op : CmpOp} {r : R2} {f : D → D → Res D} (hd : OpD X.K r f) (ho : OpR X (compareOp op) r) (ha : PBv ct k X W a ea) (hb : PBv ct k X W b eb) (hm : behindInMarks op b = false := by first | exact nomark _ | with_unfolding_all rfl) :
    PTv ct k X W (.Compare a [op] [b] pos) (tVal (xOp f ea eb)) := fun C =>
  (pt_cmpR ho (ha C) (hb C) hm).imp fun σ H Q ⟨H0, F0, F, env, S, g⟩ => by
    have g' : Got RB W F H σ Q ((ea env).bind fun x => (eb env).bind fun y => (f x y).calm.bind asB) := by
      have e : tVal (xOp f ea eb) env = ((ea env).bind fun x => (eb env).bind fun y => (f x y).calm.bind asB) := by
        unfold tVal xOp
        cases ea env with
        | ok x => cases eb env <;> rfl
        | exc c => rfl
        | bad => rfl
      rw [e] at g; exact g
    exact seq S g' fun x d F1 H1 S1 g1 rx q1 => seq S1 q1 fun y e F2 H2 S2 g2 ry q2 => by
      refine hd F2 H2 x y d e _ S2.sub (rx.grow g2) ry ?_
      cases z : f d e with
      | ok w' => rw [z] at q2; exact fun v F' H' g' r' => t_of g'.sub r' (W := W) (σ := σ) (Got.grow g' q2)
      | exc c => rw [z] at q2; exact (show False from q2).elim
      | bad => rw [z] at q2; exact (show False from q2).elim
/-- a value that is a bool, as a test -/
theorem t_val (h : PEv ct k X W e ev) (he : ∀ whole, isTrue e X.env whole = (do let v ← whole; standAt e.pos; holding [v] (truthy v)) := by intro _; rfl) : PTv ct k X W e (tVal ev) := fun C =>
  (pt_val (h C) he).imp fun σ H Q ⟨H0, F0, F, env, S, g⟩ => seq S g fun x d F1 H1 S1 g1 rx q1 => t_of S1.sub rx q1
variable {ta tb : En → Res Bool} {rest : List Expr}
theorem t_not (h : PTv ct k X W a ta) : PTv ct k X W (.UnaryOp .Not a pos) (tNt ta) := fun C =>
  (pt_not (h C)).imp fun σ H Q ⟨H0, F0, F, env, S, g⟩ => seq S g fun x d F1 H1 S1 g1 rx q1 => by
    cases rx
    exact q1 (!x) F1 H1 (.refl S1.sub) rfl
def PWv (ct : String → Addr) (k : Nat) (X : Cx) (W : WS) (e : Expr) (ev : En → Res Bool) : Prop := Cz ct k X W → PW X e (rd X.K RB W ev)
theorem _root_.L2.PW.imp {X : Cx} {e : Expr} {t t' : TT} (h : PW X e t) (i : ∀ σ H Q, t' σ H Q → t σ H Q) : PW X e t' := ⟨fun wh pins s σ H Q I q => h.run wh pins s σ H Q I (i _ _ _ q)⟩
theorem w_and1 (h : PTv ct k X W a ta) : PWv ct k X W (.BoolOp .And [a] pos) ta := fun C => pw_and1 (h C)
theorem w_or1 (h : PTv ct k X W a ta) : PWv ct k X W (.BoolOp .Or [a] pos) ta := fun C => pw_or1 (h C)
theorem w_and (ha : PTv ct k X W a ta) (hb : PWv ct k X W (.BoolOp .And (b :: rest) pos) tb) : PWv ct k X W (.BoolOp .And (a :: b :: rest) pos) (tAn ta tb) := fun C =>
  L2.PW.imp (pw_and (ha C) (hb C)) fun σ H Q ⟨H0, F0, F, env, S, g⟩ => seq S g fun x d F1 H1 S1 g1 rx q1 => by
    cases rx
    cases x with
    | true => exact ⟨H0, F0, F1, env, S1, q1⟩
    | false => exact q1 false F1 H1 (.refl S1.sub) rfl
theorem w_or (ha : PTv ct k X W a ta) (hb : PWv ct k X W (.BoolOp .Or (b :: rest) pos) tb) : PWv ct k X W (.BoolOp .Or (a :: b :: rest) pos) (tOr' ta tb) := fun C =>
  L2.PW.imp (pw_or (ha C) (hb C)) fun σ H Q ⟨H0, F0, F, env, S, g⟩ => seq S g fun x d F1 H1 S1 g1 rx q1 => by
    cases rx
    cases x with
    | true => exact q1 true F1 H1 (.refl S1.sub) rfl
    | false => exact ⟨H0, F0, F1, env, S1, q1⟩
theorem PWv.t (h : PWv ct k X W e ta) : PTv ct k X W e ta := fun C => (h C).pt
/-- and, or, not as values -/
theorem e_one {op} (h : PEv ct k X W a ea) : PEv ct k X W (.BoolOp op [a] pos) ea := fun C => pe_one (h C)
theorem e_and (ha : PEv ct k X W a ea) (hb : PEv ct k X W (.BoolOp .And (b :: rest) pos) eb) : PEv ct k X W (.BoolOp .And (a :: b :: rest) pos) (xAnd ea eb) := fun C =>
  (pe_and (ha C) (hb C)).imp fun σ H Q ⟨H0, F0, F, env, S, g⟩ => seq S g fun x d F1 H1 S1 g1 rx q1 => by
    cases d with
    | bl c =>
      refine ⟨c, rp_bl rx, ?_⟩
      cases c with
      | true => exact ⟨H0, F0, F1, env, S1, q1⟩
      | false => exact q1 _ F1 H1 (.refl S1.sub) (.bl false)
    | _ => exact q1.elim
theorem e_or (ha : PEv ct k X W a ea) (hb : PEv ct k X W (.BoolOp .Or (b :: rest) pos) eb) : PEv ct k X W (.BoolOp .Or (a :: b :: rest) pos) (xOr ea eb) := fun C =>
  (pe_or (ha C) (hb C)).imp fun σ H Q ⟨H0, F0, F, env, S, g⟩ => seq S g fun x d F1 H1 S1 g1 rx q1 => by
    cases d with
    | bl c =>
      refine ⟨c, rp_bl rx, ?_⟩
      cases c with
      | true => exact q1 _ F1 H1 (.refl S1.sub) (.bl true)
      | false => exact ⟨H0, F0, F1, env, S1, q1⟩
    | _ => exact q1.elim
theorem e_not (ha : PEv ct k X W a ea) : PEv ct k X W (.UnaryOp .Not a pos) (xNot ea) := fun C =>
  (pe_not (ha C)).imp fun σ H Q ⟨H0, F0, F, env, S, g⟩ => seq S g fun x d F1 H1 S1 g1 rx q1 => by
    cases d with
    | bl c => exact ⟨c, rp_bl rx, q1 _ F1 H1 (.refl S1.sub) (.bl _)⟩
    | _ => exact q1.elim
theorem e_if (hc : PTv ct k X W c ta) (ha : PEv ct k X W a ea) (hb : PEv ct k X W b eb) : PEv ct k X W (.IfExp c a b pos) (xIf ta ea eb) := fun C =>
  (pe_ifExp (hc C) (ha C) (hb C)).imp fun σ H Q ⟨H0, F0, F, env, S, g⟩ => seq S g fun x d F1 H1 S1 g1 rx q1 => by
    cases rx
    cases x with
    | true => exact ⟨H0, F0, F1, env, S1, q1⟩
    | false => exact ⟨H0, F0, F1, env, S1, q1⟩
/-! ### argument lists, displays -/
variable {aa : En → Res (List D)}
theorem a_nil : PAv ct k X W [] aNil := fun C => pa_nil.imp fun σ H Q ⟨H0, F0, F, env, S, g⟩ => g [] F H (.refl S.sub) .nil
theorem a_cons (ha : PEv ct k X W e ea) (hr : PAv ct k X W es aa) (hs : starEach (e :: es) X.env = (false, eval e X.env) :: starEach es X.env := by rfl) : PAv ct k X W (e :: es) (aCons ea aa) := fun C =>
  (pa_cons (ha C) (hr C) hs).imp fun σ H Q ⟨H0, F0, F, env, S, g⟩ => seq S g fun x d F1 H1 S1 g1 rx q1 => seq S1 q1 fun xs ds F2 H2 S2 g2 rxs q2 =>
    q2 (x :: xs) F2 H2 (.refl S2.sub) (.cons (Rp.mono g2.ff rx) rxs)
theorem e_tup {x1} (h : PAv ct k X W es aa) : PEv ct k X W (.Tuple es x1 pos) (xTup aa) := fun C =>
  (pe_tup (h C)).imp fun σ H Q ⟨H0, F0, F, env, S, g⟩ => seq S g fun vs ds F1 H1 S1 g1 r q1 => by
    by_cases z : ds.length ≤ LIM
    · rw [if_pos z] at q1
      have z' : vs.length ≤ LIM := by rw [r.length]; exact z
      refine ⟨by rw [lim]; exact z', fun p np => ?_⟩
      have gn := Gd.new (o := .tup vs) S1.sub np
      exact q1 _ _ _ gn (.tup (.inl upd_same) z' (RpA.mono gn.ff r))
    · rw [if_neg z] at q1; exact q1.elim
theorem e_lst (h : PAv ct k X W es aa) : PEv ct k X W (.List es pos) (xLst aa) := fun C =>
  (pe_lst (h C)).imp fun σ H Q ⟨H0, F0, F, env, S, g⟩ => seq S g fun vs ds F1 H1 S1 g1 r q1 => by
    by_cases z : ds.length ≤ LIM
    · rw [if_pos z] at q1
      have z' : vs.length ≤ LIM := by rw [r.length]; exact z
      refine ⟨by rw [lim]; exact z', fun p np => ?_⟩
      have gn := Gd.new (o := .lst vs) S1.sub np
      exact q1 _ _ _ gn (.lst upd_same z' (RpA.mono gn.ff r))
    · rw [if_neg z] at q1; exact q1.elim
end
end Pv

namespace Pv
open PySem PySem.Spec L2
/-! ### statements -/
def GotS (K : PySem.W.Frag) (W : WS) (H0 F0 : Hp) (Dn : Ends) : Fl → Prop
  | .nx env => ∀ σ F H, SR K H0 F0 F H σ env → Dn.nx σ H
  | .ret d => ∀ v F H, Gd F0 H0 F H → Rp K F v d → Dn.rt v H
  | .brk env => ∀ σ F H, SR K H0 F0 F H σ env → Dn.bk σ H
  | .cont env => ∀ σ F H, SR K H0 F0 F H σ env → Dn.ct σ H
  | .exc c env => ∀ σ F H, SR K H0 F0 F H σ env → W c σ H
  | .bad => False
def rs (K : PySem.W.Frag) (W : WS) (sv : Sv) : TS := fun Dn σ H => ∃ H0 F0 F env, SR K H0 F0 F H σ env ∧ GotS K W H0 F0 Dn (sv env)
def PSv (ct : String → Addr) (k : Nat) (X : Cx) (W : WS) (st : Stmt) (sv : Sv) : Prop := Cz ct k X W → PS X st (rs X.K W sv)
def PSsv (ct : String → Addr) (k : Nat) (X : Cx) (W : WS) (st : List Stmt) (sv : Sv) : Prop := Cz ct k X W → PSs X st (rs X.K W sv)
theorem sseq {α β : Type} {Rel : Hp → Hp → β → α → Prop} {W : WS} {K : PySem.W.Frag} {ev : En → Res α} {kk : α → Fl} {Dn : Ends} {R : β → Hp → Prop} {H0 F0 F H : Hp} {σ : St} {env : En} (S : SR K H0 F0 F H σ env)
    (g : GotS K W H0 F0 Dn ((ev env).fl env kk)) (h : ∀ v d F1 H1, SR K H0 F0 F1 H1 σ env → Gd F H F1 H1 → Rel F1 H1 v d → GotS K W H0 F0 Dn (kk d) → R v H1) : rd K Rel W ev σ H R := by
  refine ⟨H0, F0, F, env, S, ?_⟩
  cases e : ev env with
  | ok d => rw [e] at g; exact fun v F1 H1 gd r => h v d F1 H1 (S.grow gd) gd r g
  | exc c => rw [e] at g; exact fun F' H' gd => g σ F' H' (S.grow gd)
  | bad => rw [e] at g; exact g.elim
section
variable {ct : String → Addr} {k : Nat} {X : Cx} {W : WS} {e a b c : Expr} {es : List Expr} {pos : Pos} {ev ea eb ec : Xv} {st : Stmt} {rest : List Stmt} {s r : Sv}
theorem ss_nil : PSsv ct k X W [] sNil := fun C => pss_nil.imp fun Dn σ H ⟨H0, F0, F, env, S, g⟩ => g σ F H S
theorem ss_cons (h1 : PSv ct k X W st s) (h2 : PSsv ct k X W rest r) : PSsv ct k X W (st :: rest) (sSeq s r) := fun C => (pss_cons (h1 C) (h2 C)).imp fun Dn σ H ⟨H0, F0, F, env, S, g⟩ => by
  refine ⟨H0, F0, F, env, S, ?_⟩
  unfold sSeq at g
  cases q : s env with
  | nx env' => rw [q] at g; exact fun σ' F' H' S' => ⟨H0, F0, F', env', S', g⟩
  | ret d => rw [q] at g; exact g
  | brk env' => rw [q] at g; exact g
  | cont env' => rw [q] at g; exact g
  | exc c env' => rw [q] at g; exact g
  | bad => rw [q] at g; exact g
theorem ss_one (h1 : PSv ct k X W st s) : PSsv ct k X W [st] s := fun C => pss_one (h1 C)
theorem s_pass : PSv ct k X W (.Pass pos) sNil := fun C => ps_pass.imp fun Dn σ H ⟨H0, F0, F, env, S, g⟩ => g σ F H S
theorem s_brk : PSv ct k X W (.Break pos) sBrk := fun C => ps_break.imp fun Dn σ H ⟨H0, F0, F, env, S, g⟩ => g σ F H S
theorem s_cont : PSv ct k X W (.Continue pos) sCont := fun C => ps_continue.imp fun Dn σ H ⟨H0, F0, F, env, S, g⟩ => g σ F H S
theorem s_expr (h : PEv ct k X W e ev) (hs : swapsWith e none pos.line X.env = pure false := by rfl) : PSv ct k X W (.Expr e pos) (sExpr ev) := fun C =>
  (ps_expr (h C) hs).imp fun Dn σ H ⟨H0, F0, F, env, S, g⟩ => sseq S g fun v d F1 H1 S1 g1 rv q => q σ F1 H1 S1
theorem s_ret (h : PEv ct k X W e ev) : PSv ct k X W (.Return (some e) pos) (sRet ev) := fun C =>
  (ps_ret (h C)).imp fun Dn σ H ⟨H0, F0, F, env, S, g⟩ => sseq S g fun v d F1 H1 S1 g1 rv q => q v F1 H1 S1.gd rv
theorem s_if {x y : List Stmt} {t : Tv} (hc : PTv ct k X W c t) (h1 : PSsv ct k X W x s) (h2 : PSsv ct k X W y r) : PSv ct k X W (.If c x y pos) (sIf t s r) := fun C =>
  (ps_if (hc C) (h1 C) (h2 C)).imp fun Dn σ H ⟨H0, F0, F, env, S, g⟩ => sseq S g fun v d F1 H1 S1 g1 rv q => by
    cases rv
    cases v with
    | true => exact ⟨H0, F0, F1, env, S1, q⟩
    | false => exact ⟨H0, F0, F1, env, S1, q⟩
/-! ### targets -/
section
variable {K : PySem.W.Frag} {H0 F0 F H : Hp} {σ : St} {env : En}
theorem gt_pt (e : En) (i j : Nat) (s : Option Sl) (x : Sl) (h : gt (pt e i s) j = some x) : (i = j ∧ s = some x ∧ j < e.length) ∨ (i ≠ j ∧ gt e j = some x) := by
  by_cases q : i = j
  · subst q
    have l := gt_lt _ _ _ h
    rw [pt_len] at l
    rw [gt_pt_same _ _ _ l] at h
    exact .inl ⟨rfl, h, l⟩
  · rw [gt_pt_ne _ _ _ _ q] at h
    exact .inr ⟨q, h⟩
theorem SR.set (S : SR K H0 F0 F H σ env) {v : V} {d : D} (i : Nat) (r : Rp K F v d) : SR K H0 F0 F H (σ.set i (some v)) (pt env i (some (.fz d))) := by
  refine ⟨S.gd, by rw [List.length_set, pt_len]; exact S.len, fun j d' e => ?_, fun j d' e => ?_, fun j j' d1 d2 a e1 e2 h1 h2 => ?_⟩
  · rcases gt_pt _ _ _ _ _ e with ⟨rfl, e', l⟩ | ⟨ne, e'⟩
    · cases e'
      exact ⟨v, by rw [List.getElem?_set_self (by rw [S.len]; exact l)], r⟩
    · obtain ⟨w, h1, h2⟩ := S.fz j d' e'
      exact ⟨w, by rw [List.getElem?_set_ne ne]; exact h1, h2⟩
  · rcases gt_pt _ _ _ _ _ e with ⟨rfl, e', l⟩ | ⟨ne, e'⟩
    · cases e'
    · obtain ⟨w, h1, h2⟩ := S.ow j d' e'
      exact ⟨w, by rw [List.getElem?_set_ne ne]; exact h1, h2⟩
  · rcases gt_pt _ _ _ _ _ e1 with ⟨rfl, e', l⟩ | ⟨ne, e1'⟩
    · cases e'
    · rcases gt_pt _ _ _ _ _ e2 with ⟨rfl, e', l⟩ | ⟨ne2, e2'⟩
      · cases e'
      · rw [List.getElem?_set_ne ne] at h1
        rw [List.getElem?_set_ne ne2] at h2
        exact S.ap j j' d1 d2 a e1' e2' h1 h2
/-- a slot forgotten -/
theorem SR.unset (S : SR K H0 F0 F H σ env) (i : Nat) (o : Option V) : SR K H0 F0 F H (σ.set i o) (pt env i none) := by
  refine ⟨S.gd, by rw [List.length_set, pt_len]; exact S.len, fun j d' e => ?_, fun j d' e => ?_, fun j j' d1 d2 a e1 e2 h1 h2 => ?_⟩
  · rcases gt_pt _ _ _ _ _ e with ⟨rfl, e', l⟩ | ⟨ne, e'⟩
    · cases e'
    · obtain ⟨w, h1, h2⟩ := S.fz j d' e'
      exact ⟨w, by rw [List.getElem?_set_ne ne]; exact h1, h2⟩
  · rcases gt_pt _ _ _ _ _ e with ⟨rfl, e', l⟩ | ⟨ne, e'⟩
    · cases e'
    · obtain ⟨w, h1, h2⟩ := S.ow j d' e'
      exact ⟨w, by rw [List.getElem?_set_ne ne]; exact h1, h2⟩
  · rcases gt_pt _ _ _ _ _ e1 with ⟨rfl, e', l⟩ | ⟨ne, e1'⟩
    · cases e'
    · rcases gt_pt _ _ _ _ _ e2 with ⟨rfl, e', l⟩ | ⟨ne2, e2'⟩
      · cases e'
      · rw [List.getElem?_set_ne ne] at h1
        rw [List.getElem?_set_ne ne2] at h2
        exact S.ap j j' d1 d2 a e1' e2' h1 h2
theorem SR.wipe (S : SR K H0 F0 F H σ env) : ∀ vs : List Nat, SR K H0 F0 F H (wipe σ vs) (wipeE env vs)
  | [] => S
  | v :: vs => (SR.wipe S vs).unset v none
def gNs : List Nat → TGs
  | [] => gNil
  | i :: is => gCons (gName i) (gNs is)
def gT (K : PySem.W.Frag) : Tg → TG
  | .nm i => gName i
  | .tp is => gTup K is.length (gNs is)
def PGv (X : Cx) (tg : Expr) (T : Tg) : Prop := PG X tg (gT X.K T)
def ixs : Tg → List Nat
  | .nm i => [i]
  | .tp is => is
/-- the slots outside vs are as they were -/
def Out (vs : List Nat) (σ σ' : St) : Prop := wipe σ' vs = wipe σ vs
theorem wipe_set (σ : St) (i : Nat) (o : Option V) : ∀ vs : List Nat, i ∈ vs → L2.wipe (σ.set i o) vs = L2.wipe σ vs
  | [], h => absurd h (by simp)
  | v :: vs, h => by
    show (L2.wipe (σ.set i o) vs).set v none = (L2.wipe σ vs).set v none
    by_cases q : i ∈ vs
    · rw [wipe_set σ i o vs q]
    · have e : i = v := by rcases List.mem_cons.mp h with e | e; exact e; exact absurd e q
      subst e
      have key : ∀ ws : List Nat, i ∉ ws → L2.wipe (σ.set i o) ws = (L2.wipe σ ws).set i o := by
        intro ws
        induction ws with
        | nil => intro _; rfl
        | cons w ws ih =>
          intro hn
          have h1 : i ≠ w := fun e => hn (by simp [e])
          have h2 : i ∉ ws := fun e => hn (by simp [e])
          show (L2.wipe (σ.set i o) ws).set w none = ((L2.wipe σ ws).set w none).set i o
          rw [ih h2, List.set_comm _ _ h1]
      rw [key vs q, List.set_set]
theorem g_nms (own : List Nat) : ∀ (is : List Nat) (vs : List V) (ds : List D) (σ : St) (env env' : En) (Q : St → Hp → Prop), SR K H0 F0 F H σ env → RpA K F vs ds → ptAll is ds env = some env' → (∀ i ∈ is, i ∈ own) →
    (∀ σ', SR K H0 F0 F H σ' env' → L2.wipe σ' own = L2.wipe σ own → Q σ' H) → gNs is vs σ H Q
  | [], vs, ds, σ, env, env', Q, S, r, e, ho, h => by
    cases r with
    | nil =>
      have e' : env = env' := Option.some.inj e
      subst e'
      exact ⟨rfl, h σ S rfl⟩
    | cons r t => cases e
  | i :: is, vs, ds, σ, env, env', Q, S, r, e, ho, h => by
    cases r with
    | nil => cases e
    | cons r t =>
      exact ⟨_, _, rfl, g_nms own is _ _ _ _ env' Q (S.set i r) t e (fun j hj => ho j (List.mem_cons_of_mem _ hj)) fun σ' S' q => h σ' S' (q.trans (wipe_set σ i _ own (ho i List.mem_cons_self)))⟩
theorem g_run {T : Tg} {v : V} {d : D} {env' : En} {Q : St → Hp → Prop} (own : List Nat) (ho : ∀ i ∈ ixs T, i ∈ own) (S : SR K H0 F0 F H σ env) (r : Rp K F v d) (e : stT T d env = some env')
    (h : ∀ σ', SR K H0 F0 F H σ' env' → L2.wipe σ' own = L2.wipe σ own → Q σ' H) : gT K T v σ H Q := by
  cases T with
  | nm i =>
    have e' : pt env i (some (.fz d)) = env' := Option.some.inj e
    subst e'
    exact h _ (S.set i r) (wipe_set σ i _ own (ho i List.mem_cons_self))
  | tp is =>
    cases r with
    | tup q z r =>
      have l : ∀ (is : List Nat) (ds : List D) (env : En), ptAll is ds env = some env' → is.length = ds.length := by
        intro is
        induction is with
        | nil => intro ds env e; cases ds with | nil => rfl | cons _ _ => cases e
        | cons i is ih => intro ds env e; cases ds with | nil => cases e | cons d ds => exact congrArg (· + 1) (ih ds _ e)
      exact ⟨_, _, rfl, S.sub.tup q, r.length.trans (l _ _ _ e).symm, g_nms own is _ _ σ env env' Q S r e ho h⟩
    | _ => cases e
theorem g_nm (i : Nat) {x : Str} (hN : X.N.Nodup) (hi : X.N[i]? = some x := by rfl) (hx : Loc X.env.scope x := by first | exact Or.inl rfl | exact Or.inr rfl) (hf : X.fn x = true ∨ X.env.scope.names.lookup x = some .local := by first | exact .inl rfl | exact .inr rfl) : PGv X (.Name x pos) (.nm i) := pg_name hN hi hx hf
def PGsv (X : Cx) (ts : List Expr) (is : List Nat) : Prop := PGs X ts (gNs is)
theorem gs_nil : PGsv X [] [] := pgs_nil
theorem gs_cons {i : Nat} {is : List Nat} (h1 : PGv X e (.nm i)) (h2 : PGsv X es is) (hs : (assignEach (e :: es) X.env).map (·.2) = assign e X.env :: (assignEach es X.env).map (·.2) := by rfl) : PGsv X (e :: es) (i :: is) := pgs_cons h1 h2 hs
theorem g_tp {is : List Nat} {kk : Nat} (hc : X.calm = true) (h : PGsv X es is) (hn : (assignEach es X.env).length = is.length := by rfl) (hst : (assignEach es X.env).findIdx? (·.1) = none := by rfl) : PGv X (.Tuple es kk pos) (.tp is) := pg_tup hc h hn hst
end
/-- target = e -/
theorem s_asg {tg : Expr} {T : Tg} (h : PEv ct k X W e ev) (hg : X.N.Nodup → X.calm = true → PGv X tg T) (hs : swapsWithSole [tg] e pos.line X.env = pure false := by rfl) (hw : swappedStores [tg] e X.env = pure none := by rfl)
    (h1 : (assignEach [tg] X.env).map (·.2) = [assign tg X.env] := by rfl) : PSv ct k X W (.Assign [tg] e pos) (sAsg T ev) := fun C =>
  (ps_asg (h C) (hg C.nd C.calm) hs hw h1).imp fun Dn σ H ⟨H0, F0, F, env, S, g⟩ => sseq S g fun v d F1 H1 S1 g1 rv q => by
    cases z : stT T d env with
    | none => rw [z] at q; exact q.elim
    | some env' =>
      rw [z] at q
      exact g_run (ixs T) (fun i h => h) S1 rv z fun σ' S' _ => q σ' F1 H1 S'
/-! ### the loop's own ground -/
open Classical in
noncomputable def bse (env : En) (σ : St) (H : Hp) : Hp := fun b => if (∃ i d, gt env i = some (.ow d) ∧ σ[i]? = some (some (.ref b))) then none else H b
section
variable {K : PySem.W.Frag} {H0 F0 F H F1 H1 : Hp} {σ σ1 : St} {env env1 : En}
theorem bse_some {b : Addr} {o : HO} (h : bse env σ H b = some o) : H b = some o := by
  unfold bse at h
  split at h
  · cases h
  · exact h
theorem SR.rebase (S : SR K H0 F0 F H σ env) : SR K (bse env σ H) F F H σ env := by
  refine ⟨⟨fun _ _ h => h, fun b o h => bse_some h, S.sub, fun a h => .inl h⟩, S.len, S.fz, fun i d e => ?_, S.ap⟩
  obtain ⟨a, h1, h2, h3, h4⟩ := S.ow i d e
  refine ⟨a, h1, ?_, h3, h4⟩
  unfold bse
  rw [if_pos ⟨i, d, e, h1⟩]
theorem bse_none (S : SR K H0 F0 F H σ env) {a : Addr} (h : bse env σ H a = none) : H0 a = none := by
  unfold bse at h
  split at h
  · rename_i q
    obtain ⟨i, d, e, h1⟩ := q
    obtain ⟨a', h1', h2, _⟩ := S.ow i d e
    rw [h1] at h1'
    cases h1'
    exact h2
  · exact S.gd.hh.free h
theorem Gd.unbase (S : SR K H0 F0 F H σ env) (g : Gd F (bse env σ H) F1 H1) : Gd F0 H0 F1 H1 := by
  refine ⟨fun a u h => g.ff a u (S.gd.ff a u h), fun b o h => ?_, g.sub, fun a h => ?_⟩
  · refine g.hh b o ?_
    unfold bse
    rw [if_neg]
    · exact S.gd.hh b o h
    · rintro ⟨i, d, e, h1⟩
      obtain ⟨a', h1', h2, _⟩ := S.ow i d e
      rw [h1] at h1'
      cases h1'
      rw [h] at h2; cases h2
  · rcases g.nw a h with q | q
    · exact S.gd.nw a q
    · exact .inr (bse_none S q)
theorem SR.unbase (S : SR K H0 F0 F H σ env) (S1 : SR K (bse env σ H) F F1 H1 σ1 env1) : SR K H0 F0 F1 H1 σ1 env1 :=
  ⟨Gd.unbase S S1.gd, S1.len, S1.fz, fun i d e => let ⟨a, h1, h2, h3, h4⟩ := S1.ow i d e; ⟨a, h1, bse_none S h2, h3, h4⟩, S1.ap⟩
end
/-! ### walks -/
structure WalkD (K : PySem.W.Frag) (F : Hp) (L : Hp → Prop) (J : It) (ds : List D) : Prop where
  go : ∀ i H F', i < ds.length → (∀ a u, F a = some u → F' a = some u) → Sub F' H → L H → J.go i H
  stop : ∀ H F', (∀ a u, F a = some u → F' a = some u) → Sub F' H → L H → J.stop ds.length H
  yld : ∀ i H F' x H', i < ds.length → (∀ a u, F a = some u → F' a = some u) → Sub F' H → L H → J.yld i H x H' → ∃ F'', Gd F' H F'' H' ∧ ∃ d, ds[i]? = some d ∧ Rp K F'' x d
def NoL : Hp → Prop := fun _ => True
/-- a walk of frozen things; one that may be of an owned slot's -/
def RF (K : PySem.W.Frag) : Hp → Hp → It → List D → Prop := fun F _ J ds => WalkD K F NoL J ds ∧ ds.length ≤ LIM
def RW (K : PySem.W.Frag) : Hp → Hp → It → List D → Prop := fun F H J ds => ∃ L : Hp → Prop, WalkD K F L J ds ∧ L H ∧ (∀ H H', L H → Same H H' → L H') ∧ ds.length ≤ LIM
def PFv (ct : String → Addr) (k : Nat) (X : Cx) (W : WS) (tg iter : Expr) (iv : Av) : Prop := Cz ct k X W → PI X tg iter (rd X.K (RF X.K) W iv)
def PWkv (ct : String → Addr) (k : Nat) (X : Cx) (W : WS) (tg iter : Expr) (iv : Av) : Prop := Cz ct k X W → PI X tg iter (rd X.K (RW X.K) W iv)
theorem _root_.L2.PI.imp {X : Cx} {tg iter : Expr} {t t' : TI} (h : PI X tg iter t) (i : ∀ σ H Q, t' σ H Q → t σ H Q) : PI X tg iter t' := ⟨fun pins s σ H R I q => h.run pins s σ H R I (i _ _ _ q)⟩
theorem _root_.L2.PI.or {X : Cx} {tg iter : Expr} {t t' : TI} (h : PI X tg iter t) (h' : PI X tg iter t') : PI X tg iter (fun σ H R => t σ H R ∨ t' σ H R) := ⟨fun pins s σ H R I q => q.elim (h.run pins s σ H R I) (h'.run pins s σ H R I)⟩
theorem PFv.w {tg iter : Expr} {iv : Av} (h : PFv ct k X W tg iter iv) : PWkv ct k X W tg iter iv := fun C => (h C).imp fun σ H Q ⟨H0, F0, F, env, S, g⟩ => ⟨H0, F0, F, env, S, by
  cases q : iv env with
  | ok d => rw [q] at g; exact fun v F' H' gd r => g v F' H' gd ⟨NoL, r.1, trivial, fun _ _ _ _ => trivial, r.2⟩
  | exc c => rw [q] at g; exact g
  | bad => rw [q] at g; exact g⟩
/-- for T in iter: body -/
theorem s_for {tg iter : Expr} {body : List Stmt} {T : Tg} {iv : Av} {bv : Sv} (hi : PFv ct k X W tg iter iv) (hg : X.N.Nodup → X.calm = true → PGv X tg T) (hb : PSsv ct k X W body bv)
    (hs : ∀ x, foldedSetIterable iter X.env x = pure x := by intro _; rfl) : PSv ct k X W (.For tg iter body [] pos) (sFor T iv bv) := fun C =>
  (ps_for C.po C.calm (hi C) (hg C.nd C.calm) (hb C) hs).imp fun Dn σ H ⟨H0, F0, F, env, S, g⟩ => sseq S g fun J ds F1 H1 S1 g1 rJ q => by
    obtain ⟨wk, hz⟩ := rJ
    refine ⟨fun i m σ' H' => m = ds.length - i ∧ i ≤ ds.length ∧ ∃ F' env', SR X.K (bse env σ H1) F1 F' H' σ' env' ∧ GotS X.K W H0 F0 Dn (forD T bv (ds.drop i) env'),
      ⟨ds.length, by omega, Nat.zero_le _, F1, env, S1.rebase, q⟩, ?_⟩
    rintro i m σ' H' ⟨rfl, hi, F', env', S', q'⟩
    by_cases hlt : i < ds.length
    · refine .inr ⟨wk.go i H' F' hlt S'.gd.ff S'.sub trivial, fun σ2 H2 => ∃ F2 env2, SR X.K (bse env σ H1) F1 F2 H2 σ2 env2 ∧ GotS X.K W H0 F0 Dn (forD T bv (ds.drop (i + 1)) env2),
        fun σ2 H2 ⟨F2, env2, S2, q2⟩ => ⟨ds.length - (i + 1), by omega, rfl, hlt, F2, env2, S2, q2⟩, fun x H2 hy => ?_⟩
      obtain ⟨F2, gd2, d, hd, rx⟩ := wk.yld i H' F' x H2 hlt S'.gd.ff S'.sub trivial hy
      have hdr : ds.drop i = d :: ds.drop (i + 1) := by
        rw [List.drop_eq_getElem_cons hlt]
        congr 1
        rw [List.getElem?_eq_getElem hlt] at hd
        exact Option.some.inj hd
      rw [hdr] at q'
      unfold forD at q'
      cases z : stT T d env' with
      | none => rw [z] at q'; exact q'.elim
      | some env2 =>
        rw [z] at q'
        refine g_run (ixs T) (fun i h => h) (S'.grow gd2) rx z fun σ2 S2 _ => ⟨bse env σ H1, F1, F2, env2, S2, ?_⟩
        dsimp only at q'
        cases y : bv env2 with
        | nx e => rw [y] at q'; exact fun σ3 F3 H3 S3 => ⟨F3, e, S3, q'⟩
        | cont e => rw [y] at q'; exact fun σ3 F3 H3 S3 => ⟨F3, e, S3, q'⟩
        | brk e => rw [y] at q'; exact fun σ3 F3 H3 S3 => q' σ3 F3 H3 (S1.unbase S3)
        | ret d => rw [y] at q'; exact fun v F3 H3 g3 r3 => q' v F3 H3 (Gd.unbase S1 g3) r3
        | exc c e => rw [y] at q'; exact fun σ3 F3 H3 S3 => q' σ3 F3 H3 (S1.unbase S3)
        | bad => rw [y] at q'; exact q'.elim
    · have e : i = ds.length := by omega
      subst e
      rw [List.drop_length] at q'
      exact .inl ⟨wk.stop H' F' S'.gd.ff S'.sub trivial, q' σ' F' H' (S1.unbase S')⟩
/-- while -/
theorem s_wh {body : List Stmt} {t : Tv} {bv : Sv} (fu : En → Nat) (hc : PTv ct k X W c t) (hb : PSsv ct k X W body bv) : PSv ct k X W (.While c body [] pos) (sWh fu t bv) := fun C =>
  (ps_while C.po (hc C) (hb C)).imp fun Dn σ H ⟨H0, F0, F, env, S, g⟩ => by
    refine ⟨fun m σ' H' => ∃ F' env', SR X.K H0 F0 F' H' σ' env' ∧ GotS X.K W H0 F0 Dn (whD t bv m env'), ⟨fu env, F, env, S, g⟩, ?_⟩
    rintro m σ' H' ⟨F', env', S', q⟩
    cases m with
    | zero => exact q.elim
    | succ n =>
      unfold whD at q
      refine sseq S' q fun v d F1 H1 S1 g1 rv q1 => ?_
      cases rv
      cases v with
      | false => exact q1 σ' F1 H1 S1
      | true =>
        refine ⟨fun σ2 H2 => ∃ F2 env2, SR X.K H0 F0 F2 H2 σ2 env2 ∧ GotS X.K W H0 F0 Dn (whD t bv n env2), fun σ2 H2 ⟨F2, env2, S2, q2⟩ => ⟨n, Nat.lt_succ_self n, F2, env2, S2, q2⟩, ⟨H0, F0, F1, env', S1, ?_⟩⟩
        simp only [if_true] at q1
        cases y : bv env' with
        | nx e => rw [y] at q1; exact fun σ3 F3 H3 S3 => ⟨F3, e, S3, q1⟩
        | cont e => rw [y] at q1; exact fun σ3 F3 H3 S3 => ⟨F3, e, S3, q1⟩
        | brk e => rw [y] at q1; exact fun σ3 F3 H3 S3 => q1 σ3 F3 H3 S3
        | ret d => rw [y] at q1; exact fun v F3 H3 g3 r3 => q1 v F3 H3 g3 r3
        | exc c e => rw [y] at q1; exact fun σ3 F3 H3 S3 => q1 σ3 F3 H3 S3
        | bad => rw [y] at q1; exact q1.elim
/-! ### comprehensions -/
def PTsv (ct : String → Addr) (k : Nat) (X : Cx) (W : WS) (ifs : List Expr) (t : Tv) : Prop := Cz ct k X W → PTs X ifs (rd X.K RB W t)
theorem _root_.L2.PTs.imp {X : Cx} {e : List Expr} {t t' : TT} (h : PTs X e t) (i : ∀ σ H Q, t' σ H Q → t σ H Q) : PTs X e t' := ⟨fun pins s σ H Q I q => h.run pins s σ H Q I (i _ _ _ q)⟩
theorem ts_nil : PTsv ct k X W [] tYs := fun C => pts_nil.imp fun σ H Q ⟨H0, F0, F, env, S, g⟩ => g true F H (.refl S.sub) rfl
theorem ts_one {t : Tv} (h : PTv ct k X W e t) : PTsv ct k X W [e] t := fun C => pts_one (h C)
theorem Cz.blk {s : Shared} {H : Hp} {scope : Scope} {ce : Env} {fp : List Addr} (C : Cz ct k X W) : Cz ct k (X.blk s H scope ce fp) WF :=
  ⟨fun _ _ x => by
    obtain ⟨_, _, _, _, _, _, _, _, _, _, _, _, _, _, _, _, z⟩ := x
    obtain ⟨_, _, _, z⟩ := z
    exact z.elim, PassesOwn.never, C.calm, C.nd, C.room⟩
theorem lc_read {K : PySem.W.Frag} {T : Tg} {own : List Nat} {tv : Tv} {ee : Xv} {σ : St} {env : En} {H0 F0 F1 H1 : Hp} {ds : List D} {J : It} {Q : VK} (ho : ∀ i ∈ ixs T, i ∈ own) (S1 : SR K H0 F0 F1 H1 σ env) (rJ : RW K F1 H1 J ds)
    (q : Got (RE K) W F1 H1 σ Q ((lcD T tv ee (wipeE env own) ds).bind fun r => .ok (.lst r))) :
    ∀ A, H1 A = none → ∃ Wv : Nat → Nat → Hp → Prop, (∃ m, Wv 0 m (upd H1 A (.lst []))) ∧ ∀ i m H, Wv i m H → (J.stop i H ∧ Q (.ref A) H) ∨ (J.go i H ∧ ∃ Nx : Hp → Prop, (∀ H', Nx H' → ∃ m', m' < m ∧ Wv (i + 1) m' H') ∧
      ∀ x H', J.yld i H x H' → gT K T x (L2.wipe σ own) H' fun σ2 H2 => L2.wipe σ2 own = L2.wipe σ own ∧ rd K RB WF tv σ2 H2 fun b H3 =>
        if b = true then rd K (RE K) WF ee σ2 H3 fun y H4 => ∃ acc, H4 A = some (.lst acc) ∧ acc.length < sizeLine ∧ Nx (upd H4 A (.lst (acc ++ [y]))) else Nx H3) := by
  obtain ⟨L, wk, l1, ls, hz⟩ := rJ
  intro A nA
  refine ⟨fun i m H => m = ds.length - i ∧ i ≤ ds.length ∧ ∃ Fc accV accD, Gd F1 H1 Fc H ∧ H A = some (.lst accV) ∧ Fc A = none ∧ accV.length ≤ i ∧ RpA K Fc accV accD ∧
      ∃ r, lcD T tv ee (wipeE env own) (ds.drop i) = .ok r ∧ lcD T tv ee (wipeE env own) ds = .ok (accD ++ r), ?_, ?_⟩
  · cases z : lcD T tv ee (wipeE env own) ds with
    | ok r =>
      refine ⟨ds.length, by omega, Nat.zero_le _, F1, [], [], Gd.drop S1.sub nA, upd_same, ?_, Nat.zero_le _, .nil, r, by rw [List.drop_zero]; exact z, rfl⟩
      cases y : F1 A with
      | none => rfl
      | some u =>
        rcases S1.sub A u y with e | ⟨_, e⟩ <;> (rw [nA] at e; cases e)
    | exc c =>
      exfalso
      have key : ∀ (l : List D), lcD T tv ee (wipeE env own) l ≠ .exc c := by
        intro l
        induction l with
        | nil => intro h; cases h
        | cons x xs ih =>
          intro h
          unfold lcD at h
          cases y : stT T x (wipeE env own) with
          | none => rw [y] at h; cases h
          | some env2 =>
            rw [y] at h
            dsimp only at h
            cases t1 : tv env2 with
            | ok b =>
              rw [t1] at h
              cases b with
              | true =>
                cases t2 : ee env2 with
                | ok y =>
                  rw [t2] at h
                  cases w : lcD T tv ee (wipeE env own) xs with
                  | ok r => rw [w] at h; cases h
                  | exc c' => rw [w] at h; cases h; exact ih w
                  | bad => rw [w] at h; cases h
                | exc c => rw [t2] at h; cases h
                | bad => rw [t2] at h; cases h
              | false => exact ih h
            | exc c => rw [t1] at h; cases h
            | bad => rw [t1] at h; cases h
      exact key _ z
    | bad => rw [z] at q; exact q.elim
  · rintro i m H ⟨rfl, hi, Fc, accV, accD, gc, hA, fA, hl, ra, r, e1, e2⟩
    have Lh : L H := ls _ _ l1 gc.hh
    have Sc : SR K H0 F0 Fc H σ env := S1.grow gc
    by_cases hlt : i < ds.length
    · refine .inr ⟨wk.go i H Fc hlt gc.ff gc.sub Lh, fun H' => i + 1 ≤ ds.length ∧ ∃ Fc accV accD, Gd F1 H1 Fc H' ∧ H' A = some (.lst accV) ∧ Fc A = none ∧ accV.length ≤ i + 1 ∧ RpA K Fc accV accD ∧
        ∃ r, lcD T tv ee (wipeE env own) (ds.drop (i + 1)) = .ok r ∧ lcD T tv ee (wipeE env own) ds = .ok (accD ++ r), fun H' ⟨h1, h2⟩ => ⟨ds.length - (i + 1), by omega, rfl, h1, h2⟩, fun x H2 hy => ?_⟩
      obtain ⟨F2, gd2, d, hd, rx⟩ := wk.yld i H Fc x H2 hlt gc.ff gc.sub Lh hy
      have hdr : ds.drop i = d :: ds.drop (i + 1) := by
        rw [List.drop_eq_getElem_cons hlt]
        congr 1
        rw [List.getElem?_eq_getElem hlt] at hd
        exact Option.some.inj hd
      rw [hdr] at e1
      unfold lcD at e1
      have noneA : ∀ {F' H' F'' H'' : Hp}, Gd F' H' F'' H'' → H' A = some (.lst accV) → F' A = none → F'' A = none ∧ H'' A = some (.lst accV) := fun {F' H' F'' H''} g h f => by
        refine ⟨?_, g.hh _ _ h⟩
        cases y : F'' A with
        | none => rfl
        | some u =>
          rcases g.nw A (by rw [y]; simp) with z | z
          · exact absurd f z
          · rw [h] at z; cases z
      obtain ⟨f2, h2⟩ := noneA gd2 hA fA
      cases z : stT T d (wipeE env own) with
      | none => rw [z] at e1; cases e1
      | some env2 =>
        rw [z] at e1
        dsimp only at e1
        have S2 : SR K H0 F0 F2 H2 (L2.wipe σ own) (wipeE env own) := (Sc.grow gd2).wipe own
        refine g_run own ho S2 rx z fun σ2 S3 hw => ⟨?_, H0, F0, F2, env2, S3, ?_⟩
        · rw [hw]
          have idem : ∀ (vs ws : List Nat), (∀ v ∈ vs, v ∈ ws) → L2.wipe (L2.wipe σ vs) ws = L2.wipe σ ws := by
            intro vs
            induction vs with
            | nil => intro ws _; rfl
            | cons v vs ih =>
              intro ws h
              show L2.wipe ((L2.wipe σ vs).set v none) ws = _
              rw [wipe_set _ v none ws (h v List.mem_cons_self), ih ws fun u hu => h u (List.mem_cons_of_mem _ hu)]
          exact idem own own fun v h => h
        · cases y : tv env2 with
          | ok b =>
            rw [y] at e1
            intro b' F4 H4 g4 eb
            have eb' : b' = b := eb
            subst eb'
            obtain ⟨f4, h4⟩ := noneA g4 h2 f2
            cases b' with
            | false =>
              show i + 1 ≤ ds.length ∧ _
              exact ⟨hlt, F4, accV, accD, (gc.trans gd2).trans g4, h4, f4, by omega, ra.mono fun a u h => g4.ff a u (gd2.ff a u h), r, e1, e2⟩
            | true =>
              refine ⟨H0, F0, F4, env2, S3.grow g4, ?_⟩
              cases w : ee env2 with
              | ok y' =>
                rw [w] at e1
                intro yv F5 H5 g5 ry
                obtain ⟨f5, h5⟩ := noneA g5 h4 f4
                have hlen : accV.length < sizeLine := by rw [lim]; omega
                cases v : lcD T tv ee (wipeE env own) (ds.drop (i + 1)) with
                | ok r' =>
                  have e1' : Res.ok (y' :: r') = Res.ok r := by
                    have := e1
                    simp only [Res.calm, Res.bind, v] at this
                    exact this
                  have e3 : r = y' :: r' := by cases e1'; rfl
                  subst e3
                  refine ⟨accV, h5, hlen, hlt, F5, accV ++ [yv], accD ++ [y'], ?_, upd_same, f5, by simp; omega, ?_, r', rfl, by rw [e2]; simp⟩
                  · have g15 := ((gc.trans gd2).trans g4).trans g5
                    refine ⟨g15.ff, fun b o h => ?_, fun a u h => ?_, g15.nw⟩
                    · have ne : b ≠ A := fun e => by subst e; rw [nA] at h; cases h
                      rw [upd_ne ne]; exact g15.hh b o h
                    · have ne : a ≠ A := fun e => by subst e; rw [f5] at h; cases h
                      rcases g15.sub a u h with z | ⟨o, z⟩
                      · exact .inl (by rw [upd_ne ne]; exact z)
                      · exact .inr ⟨o, by rw [upd_ne ne]; exact z⟩
                  · exact (ra.mono fun a u h => g5.ff a u (g4.ff a u (gd2.ff a u h))).append (.cons ry .nil)
                | exc c =>
                  exfalso
                  simp only [Res.calm, Res.bind, v] at e1
                  cases e1
                | bad =>
                  exfalso
                  simp only [Res.calm, Res.bind, v] at e1
                  cases e1
              | exc c => rw [w] at e1; simp only [Res.calm, Res.bind] at e1; cases e1
              | bad => rw [w] at e1; simp only [Res.calm, Res.bind] at e1; cases e1
          | exc c => rw [y] at e1; cases e1
          | bad => rw [y] at e1; cases e1
    · have e : i = ds.length := by omega
      subst e
      rw [List.drop_length] at e1
      have er : r = [] := by
        have e' : Res.ok [] = Res.ok r := e1
        cases e'; rfl
      subst er
      rw [List.append_nil] at e2
      rw [e2] at q
      refine .inl ⟨wk.stop H Fc gc.ff gc.sub Lh, ?_⟩
      have gf : Gd F1 H1 (upd Fc A (.lst accV)) H := by
        refine ⟨fun a u h => ?_, gc.hh, fun a u h => ?_, fun a h => ?_⟩
        · have h' := gc.ff a u h
          have ne : a ≠ A := fun e => by subst e; rw [fA] at h'; cases h'
          rw [upd_ne ne]; exact h'
        · by_cases e : a = A
          · subst e; rw [upd_same] at h; cases h; exact .inl hA
          · rw [upd_ne e] at h; exact gc.sub a u h
        · by_cases e : a = A
          · subst e; exact .inr nA
          · rw [upd_ne e] at h; exact gc.nw a h
      refine q _ _ _ gf (.lst upd_same (by omega) (ra.mono fun a u h => ?_))
      have ne : a ≠ A := fun e => by subst e; rw [fA] at h; cases h
      rw [upd_ne ne]; exact h
/-- [elt for tg in iter if ..] -/
theorem e_lc {elt tg iter : Expr} {ifs : List Expr} {scope : Scope} {own : List (Str × Nat)} {T : Tg} {iv : Av} {tv : Tv} {ee : Xv} (hi : PWkv ct k X W tg iter iv) (ok : blkC X.N X.env.scope scope own = true) (ho : ∀ i ∈ ixs T, i ∈ own.map (·.2))
    (hg : ∀ (s : Shared) (H : Hp) (A : Addr) (cl : List (Str × Addr)) (fp : List Addr), X.N.Nodup → X.calm = true → PGv (X.blk s H scope (compEnvC scope cl A X.env) fp) tg T)
    (ht : ∀ (s : Shared) (H : Hp) (A : Addr) (cl : List (Str × Addr)) (fp : List Addr), PTsv ct k (X.blk s H scope (compEnvC scope cl A X.env) fp) WF ifs tv)
    (he : ∀ (s : Shared) (H : Hp) (A : Addr) (cl : List (Str × Addr)) (fp : List Addr), PEv ct k (X.blk s H scope (compEnvC scope cl A X.env) fp) WF elt ee) (hs : ∀ x, foldedSetIterable iter X.env x = pure x := by intro _; rfl) :
    PEv ct k X W (.ListComp elt [⟨tg, iter, ifs, 0⟩] scope pos) (xLc T (own.map (·.2)) iv tv ee) := fun C =>
  (pe_lc (g := gT X.K T) (tt := rd X.K RB WF tv) (te := rd X.K (RE X.K) WF ee) C.calm C.nd (hi C) (blkOk_by ok) (fun s H A cl fp => hg s H A cl fp C.nd C.calm) (fun s H A cl fp => ht s H A cl fp C.blk) (fun s H A cl fp => he s H A cl fp C.blk) hs).imp fun σ H Q ⟨H0, F0, F, env, S, g⟩ =>
    seq S g fun J ds F1 H1 S1 g1 rJ q => lc_read ho S1 rJ q
/-- y = [..], y a plain local -/
theorem s_lc {elt tg iter : Expr} {ifs : List Expr} {scope : Scope} {own : List (Str × Nat)} {T : Tg} {iv : Av} {tv : Tv} {ee : Xv} {y : Str} {py spos : Pos} (i : Nat) (hi : PWkv ct k X W tg iter iv) (ok : blkC X.N X.env.scope scope own = true) (ho : ∀ i ∈ ixs T, i ∈ own.map (·.2))
    (hg : ∀ (s : Shared) (H : Hp) (A : Addr) (cl : List (Str × Addr)) (fp : List Addr), X.N.Nodup → X.calm = true → PGv (X.blk s H scope (compEnvC scope cl A X.env) fp) tg T)
    (ht : ∀ (s : Shared) (H : Hp) (A : Addr) (cl : List (Str × Addr)) (fp : List Addr), PTsv ct k (X.blk s H scope (compEnvC scope cl A X.env) fp) WF ifs tv)
    (he : ∀ (s : Shared) (H : Hp) (A : Addr) (cl : List (Str × Addr)) (fp : List Addr), PEv ct k (X.blk s H scope (compEnvC scope cl A X.env) fp) WF elt ee)
    (hsw : swapsWith (.ListComp elt [⟨tg, iter, ifs, 0⟩] scope pos) (some (.Name y py)) spos.line X.env = pure true) (hy : X.N[i]? = some y := by rfl) (hyl : X.env.scope.names.lookup y = some .local := by rfl)
    (hs : ∀ x, foldedSetIterable iter X.env x = pure x := by intro _; rfl) :
    PSv ct k X W (.Assign [.Name y py] (.ListComp elt [⟨tg, iter, ifs, 0⟩] scope pos) spos) (sAsg (.nm i) (xLc T (own.map (·.2)) iv tv ee)) := fun C =>
  (ps_setLc (g := gT X.K T) (tt := rd X.K RB WF tv) (te := rd X.K (RE X.K) WF ee) C.calm C.nd hy hyl hsw (hi C) (blkOk_by ok) (fun s H A cl fp => hg s H A cl fp C.nd C.calm) (fun s H A cl fp => ht s H A cl fp C.blk) (fun s H A cl fp => he s H A cl fp C.blk) hs).imp fun Dn σ H ⟨H0, F0, F, env, S, g⟩ => by
    have g' : GotS X.K W H0 F0 Dn ((iv env).fl env fun xs => (((lcD T tv ee (wipeE env (own.map (·.2))) xs).bind fun r => Res.ok (D.lst r))).fl env fun d => .nx (pt env i (some (.fz d)))) := by
      have e : sAsg (.nm i) (xLc T (own.map (·.2)) iv tv ee) env = ((iv env).fl env fun xs => (((lcD T tv ee (wipeE env (own.map (·.2))) xs).bind fun r => Res.ok (D.lst r))).fl env fun d => .nx (pt env i (some (.fz d)))) := by
        unfold sAsg xLc
        cases iv env <;> rfl
      rw [e] at g; exact g
    refine sseq S g' fun J ds F1 H1 S1 g1 rJ q => ?_
    refine lc_read (W := W) (Q := fun v H' => gName i v σ H' Dn.nx) ho S1 rJ ?_
    cases z : ((lcD T tv ee (wipeE env (own.map (·.2))) ds).bind fun r => Res.ok (D.lst r)) with
    | ok d => rw [z] at q; exact fun v F' H' gd r => q _ F' H' ((S1.grow gd).set i r)
    | exc c => rw [z] at q; exact fun F' H' gd => q σ F' H' (S1.grow gd)
    | bad => rw [z] at q; exact q.elim
/-! ### calls, defs -/
def spF (K : PySem.W.Frag) (ct : String → Addr) (Fn : List D → Res D) : Sp := fun vs H Q E => ∃ F ds, Sub F H ∧ RpA K F vs ds ∧ (match Fn ds with
  | .ok d => ∀ v F' H', Gd F H F' H' → Rp K F' v d → Q v H'
  | .exc c => ∀ F' H', Gd F H F' H' → E (.ref (ct c)) none H'
  | .bad => False)
theorem e_call {f : Addr} {fd : FuncData} {ps : List Str} {j : Nat} {x : Str} {p : Pos} {Fn : List D → Res D} {aa : Av} (G : FnOk X.prog X.w X.K X.mg X.base (L2.CX X.prog X.w) j f fd ps (spF X.K ct Fn)) (hm : X.mg x = some (.ref f)) (hk : PySem.W.keepIn X.K (.ref f) = true) (hb : Binds X.K fd ps [])
    (ha : PAv ct k X W (e :: es) aa) (hj : j ≤ k := by decide) (hg : Gl X x := by rfl) (hdb : (x == ("__debug__" : Str)) = false := by decide) (he : starEach (e :: es) X.env = (false, eval e X.env) :: starEach es X.env := by rfl) (hpl : (backTo pos (starEach es X.env)).any (·.1) = false := by rfl) :
    PEv ct k X W (.Call (.Name x p) (e :: es) [] pos) (xCall Fn aa) := fun C =>
  (pe_callS G (C.room.mono hj) hg hm hk hb (fun σ => passAt C.tk σ) (ha C) hdb he hpl).imp fun σ H Q ⟨H0, F0, F, env, S, g⟩ => seq S g fun vs ds F1 H1 S1 g1 rv q => ⟨F1, ds, S1.sub, rv, by
    cases z : Fn ds with
    | ok d => rw [z] at q; exact q
    | exc c => rw [z] at q; exact fun F' H' gd => ⟨c, rfl, rfl, q F' H' gd⟩
    | bad => rw [z] at q; exact q⟩
theorem e_call0 {f : Addr} {fd : FuncData} {ps : List Str} {j : Nat} {x : Str} {p : Pos} {Fn : List D → Res D} (G : FnOk X.prog X.w X.K X.mg X.base (L2.CX X.prog X.w) j f fd ps (spF X.K ct Fn)) (hm : X.mg x = some (.ref f)) (hk : PySem.W.keepIn X.K (.ref f) = true) (hb : Binds X.K fd ps [])
    (hj : j ≤ k := by decide) (hg : Gl X x := by rfl) (hdb : (x == ("__debug__" : Str)) = false := by decide) :
    PEv ct k X W (.Call (.Name x p) [] [] pos) (xCall Fn aNil) := fun C => by
  have h0 : PE X (.Call (.Name x p) [] [] pos) (fun σ H Q => spF X.K ct Fn [] H Q (WE (wx ct W) σ)) := by
    refine ⟨fun pins s σ H Q I h => ?_⟩
    refine wpAny_Call_Name_kw (ld_glob I hg hm ?_ hdb)
    exact PySem.W.callWith_K0 I.kIn hk (run_fnS (us := []) (E := fun _ => WE (wx ct W) σ) G (C.room.mono hj) hb (passAt C.tk σ) I .nil h)
  refine h0.imp fun σ H Q ⟨H0, F0, F, env, S, g⟩ => ⟨F, [], S.sub, .nil, ?_⟩
  have g' : Got (RE X.K) W F H σ Q (Fn []) := g
  cases z : Fn [] with
  | ok d => rw [z] at g'; exact g'
  | exc c => rw [z] at g'; exact fun F' H' gd => ⟨c, rfl, rfl, g' F' H' gd⟩
  | bad => rw [z] at g'; exact g'
end
theorem gt_ini : ∀ (n : Nat) (ds : List D) (i : Nat) (s : Sl), gt (iniE n ds) i = some s → ∃ d, ds[i]? = some d ∧ s = .fz d := by
  intro n ds i s h
  have key : ∀ (ds : List D) (m i : Nat), gt (ds.map (fun d => some (Sl.fz d)) ++ List.replicate m none) i = some s → ∃ d, ds[i]? = some d ∧ s = .fz d := by
    intro ds
    induction ds with
    | nil =>
      intro m
      induction m with
      | zero => intro i h; cases h
      | succ m ih =>
        intro i h
        cases i with
        | zero => cases h
        | succ i =>
          obtain ⟨d, e, _⟩ := ih i h
          simp at e
    | cons d ds ih =>
      intro m i h
      cases i with
      | zero =>
        have e : some (Sl.fz d) = some s := h
        exact ⟨d, rfl, (Option.some.inj e).symm⟩
      | succ i =>
        obtain ⟨d', e, q⟩ := ih m i h
        exact ⟨d', by simpa using e, q⟩
  exact key ds _ i h
theorem sr_ini {K : PySem.W.Frag} {F H : Hp} {N : List Str} {vs : List V} {ds : List D} (s : Sub F H) (r : RpA K F vs ds) : SR K H F F H (L2.start N vs) (iniE N.length ds) := by
  refine ⟨.refl s, ?_, fun i d e => ?_, fun i d e => ?_, fun i j d d' a e1 _ _ _ => ?_⟩
  · unfold L2.start iniE
    simp [r.length]
  · obtain ⟨d', h1, h2⟩ := gt_ini _ _ _ _ e
    cases h2
    obtain ⟨v, e1, e2⟩ := r.getD h1
    refine ⟨v, ?_, e2⟩
    unfold L2.start
    have hl : i < vs.length := (List.getElem?_eq_some_iff.mp e1).1
    rw [List.getElem?_append_left (by simpa using hl), List.getElem?_map, e1]
    rfl
  · obtain ⟨_, _, h2⟩ := gt_ini _ _ _ _ e
    cases h2
  · obtain ⟨_, _, h2⟩ := gt_ini _ _ _ _ e1
    cases h2
/-- a def keeps its pure promise -/
theorem def_ok {P : Program} {w : World} {K : PySem.W.Frag} {mg : Str → Option Value} {base : Heap} {ct : String → Addr} {x qual : Str} {st : Stmt} {f : Addr} {fd : FuncData} {N ps : List Str} {k : Nat} {Fn : List D → Res D} {sv : Sv}
    (F : Fun K x qual st f fd) (S : FnScope N ps (defScope st)) (hl : ∀ ds, Fn ds ≠ .bad → ds.length = ps.length)
    (hb : ∀ (cdv : Value) (A : Around) (outer : List Env) (s : Shared) (H : Hp) (E : XK) (W : WS), PSsv ct k (cxOf (L2.CX P w) P w K mg base N qual (defScope st) f cdv A outer s H E) W (defBody st) sv)
    (hF : ∀ ds, Fn ds ≠ .bad → outOf (sv (iniE N.length ds)) = Fn ds) : FnOk P w K mg base (L2.CX P w) (k + 1) f fd ps (spF K ct Fn) := by
  refine F.okX S (fun vs H Q E h => ?_) (fun cdv A outer s H vs Q E hr h => ?_)
  · obtain ⟨F0, ds, hs, r, h⟩ := h
    rw [r.length]
    exact hl ds fun e => by rw [e] at h; exact h
  · obtain ⟨F0, ds, hs, r, h⟩ := h
    have hn : Fn ds ≠ .bad := fun e => by rw [e] at h; exact h
    have C : Cz ct k (cxOf (L2.CX P w) P w K mg base N qual (defScope st) f cdv A outer s H E) (fun c _ H' => E (.ref (ct c)) none H') :=
      ⟨(takes_of rfl rfl rfl rfl).imp fun c d σ H' ⟨c', e1, e2, z⟩ => by rw [e1, e2]; exact z, passes_of rfl, rfl, S.nd, hr⟩
    refine ⟨_, hb cdv A outer s H E _ C, H, F0, F0, iniE N.length ds, sr_ini hs r, ?_⟩
    have e := hF ds hn
    cases z : sv (iniE N.length ds) with
    | ret d =>
      rw [z] at e
      rw [← e] at h
      exact h
    | nx env' =>
      rw [z] at e
      rw [← e] at h
      exact fun σ F' H' S' => h .non F' H' S'.gd .non
    | exc c env' =>
      rw [z] at e
      rw [← e] at h
      exact fun σ F' H' S' => h F' H' S'.gd
    | brk env' => rw [z] at e; exact (hn e.symm).elim
    | cont env' => rw [z] at e; exact (hn e.symm).elim
    | bad => rw [z] at e; exact (hn e.symm).elim
end Pv

namespace Pv
open PySem PySem.Spec L2
/-! ### reading borrowed things -/
section
variable {K : PySem.W.Frag} {F H : Hp} {x : V}
theorem bo_int {i : Int} (r : RBo K F H x (.int i)) : x = .int i := by
  rcases r with r | ⟨a, e, _, r⟩
  · cases r; rfl
  · cases r
theorem bo_bl {i : Bool} (r : RBo K F H x (.bl i)) : x = .bl i := by
  rcases r with r | ⟨a, e, _, r⟩
  · cases r; rfl
  · cases r
theorem bo_non (r : RBo K F H x .non) : x = .non := by
  rcases r with r | ⟨a, e, _, r⟩
  · cases r; rfl
  · cases r
theorem bo_str {l : List Nat} (r : RBo K F H x (.str l)) : x = .str (tx l) ∧ okS l := by
  rcases r with r | ⟨a, e, _, r⟩
  · cases r with | str _ z => exact ⟨rfl, z⟩
  · cases r
theorem bo_lst {ds : List D} (s : Sub F H) (r : RBo K F H x (.lst ds)) : ∃ a vs, x = .ref a ∧ Rd H a (.lst vs) ∧ vs.length ≤ LIM ∧ RpA K F vs ds := by
  rcases r with r | ⟨a, e, _, r⟩
  · cases r with | lst q z r => exact ⟨_, _, rfl, s _ _ q, z, r⟩
  · cases r with | lst q z r => exact ⟨_, _, e, .inl q, z, r⟩
theorem bo_tup {ds : List D} (s : Sub F H) (r : RBo K F H x (.tup ds)) : ∃ a vs, x = .ref a ∧ SqT K H a vs ∧ vs.length ≤ LIM ∧ RpA K F vs ds ∧ Rp K F x (.tup ds) := by
  rcases r with r | ⟨a, e, _, r⟩
  · cases r with | tup q z r => exact ⟨_, _, rfl, s.tup q, z, r, .tup q z r⟩
  · cases r
theorem bo_dic {ds : List (List Nat × D)} (s : Sub F H) (r : RBo K F H x (.dic ds)) : ∃ a kvs, x = .ref a ∧ Rd H a (.dK kvs) ∧ kvs.length ≤ LIM ∧ RpK K F kvs ds := by
  rcases r with r | ⟨a, e, _, r⟩
  · cases r with | dic q z r => exact ⟨_, _, rfl, s _ _ q, z, r⟩
  · cases r with | dic q z r => exact ⟨_, _, e, .inl q, z, r⟩
/-- what a reading gives back -/
theorem got_ok {Q : VK} {v : V} {d : D} (s : Sub F H) (g : Got (RE K) WF F H [] Q (.ok d)) (r : Rp K F v d) : Q v H := g v F H (.refl s) r
theorem got_new {Q : VK} {d : D} {o : HO} {p : Addr} (s : Sub F H) (g : Got (RE K) WF F H [] Q (.ok d)) (np : H p = none) (r : (∀ a u, F a = some u → (upd F p o) a = some u) → Rp K (upd F p o) (.ref p) d) : Q (.ref p) (upd H p o) :=
  g _ _ _ (Gd.new s np) (r (Gd.new s np).ff)
end
theorem tx_app (a b : List Nat) : tx a ++ tx b = tx (a ++ b) := by
  have e : (tx a ++ tx b : Str) = ⟨a.toArray ++ b.toArray⟩ := rfl
  rw [e]
  unfold tx
  simp
theorem okS_app {a b : List Nat} (ha : okS a) (hb : okS b) (h : a.length + b.length ≤ LIM) : okS (a ++ b) := ⟨by simpa using h, fun c hc => (List.mem_append.mp hc).elim (ha.2 c) (hb.2 c)⟩
section
variable {X : Cx}
theorem Inv.lstR {pins : List (Addr × Obj)} {σ : St} {H : Hp} {s : Shared} {l : Addr} {xs : List V} (I : Inv X pins σ H s) (hH : Rd H l (.lst xs)) : xs.length ≤ sizeLine ∧ ∃ (its : List Value) (n : Nat), Vals xs its ∧ xs.length = its.length ∧ s.heap.get? l = some { cls := .type "list", data := .seq its.toArray n } := by
  obtain ⟨z, its, n, r, e⟩ := hH.ok I.hok
  exact ⟨z, its, n, r, r.length, e⟩
/-! ### + -/
def rCatR : R2 := fun x y H Q => ∃ l b xs zs, x = .ref l ∧ y = .ref b ∧ Rd H l (.lst xs) ∧ Rd H b (.lst zs) ∧ xs.length + zs.length ≤ sizeLine ∧ ∀ p, H p = none → Q (.ref p) (upd H p (.lst (xs ++ zs)))
theorem op_catR : OpR X (binaryOp .Add) rCatR := by
  intro pins s σ H x y v u Q I rx ry h
  obtain ⟨l, b, xs, zs, rfl, rfl, hH, hB, hz, q⟩ := h
  cases rx
  cases ry
  obtain ⟨z, its, n, r, hl, e⟩ := Inv.lstR I hH
  obtain ⟨z2, its2, n2, r2, hl2, e2⟩ := Inv.lstR I hB
  refine PySem.P.add_list e e2 ?_ (by rw [List.size_toArray, List.size_toArray]; omega)
  have ea : its.toArray ++ its2.toArray = (its ++ its2).toArray := by simp
  rw [ea]
  exact ⟨.ref _, _, I.lnew (t' := s.toks) (r.append r2) (by rw [List.length_append]; omega), rfl, q _ I.fresh⟩
def rAddI : R2 := rI0 fun i j => .int (i + j)
def rAddS : R2 := fun x y H Q => ∃ i j, x = .str i ∧ y = .str j ∧ i.length + j.length ≤ sizeLine ∧ Q (.str (i ++ j)) H
def rAddA (K : PySem.W.Frag) : R2 := fun x y H Q => rAddI x y H Q ∨ rAddS x y H Q ∨ rCatR x y H Q ∨ rCatA K x y H Q
theorem op_addA : OpR X (binaryOp .Add) (rAddA X.K) := OpR.or op_add (OpR.or op_add_str (OpR.or op_catR op_catA))
theorem od_add {K : PySem.W.Frag} : OpD K (rAddA K) addD := by
  intro F H x y d e Q s rx ry g
  cases d with
  | int i =>
    cases e with
    | int j => rw [bo_int rx, bo_int ry]; exact .inl ⟨i, j, rfl, rfl, got_ok s g (.int _)⟩
    | _ => exact g.elim
  | str a =>
    cases e with
    | str b =>
      obtain ⟨ex, ha⟩ := bo_str rx
      obtain ⟨ey, hb⟩ := bo_str ry
      subst ex ey
      dsimp only [addD] at g
      by_cases z : a.length + b.length ≤ LIM
      · rw [if_pos z] at g
        refine .inr (.inl ⟨_, _, rfl, rfl, by rw [tx_len, tx_len, lim]; exact z, ?_⟩)
        rw [tx_app]
        exact got_ok s g (.str _ (okS_app ha hb z))
      · rw [if_neg z] at g; exact g.elim
    | _ => exact g.elim
  | lst a =>
    cases e with
    | lst b =>
      obtain ⟨p, vs, rfl, hp, zp, rp⟩ := bo_lst s rx
      obtain ⟨q, ws, rfl, hq, zq, rq⟩ := bo_lst s ry
      dsimp only [addD] at g
      by_cases z : a.length + b.length ≤ LIM
      · rw [if_pos z] at g
        have zz : vs.length + ws.length ≤ LIM := by rw [rp.length, rq.length]; exact z
        refine .inr (.inr (.inl ⟨p, q, vs, ws, rfl, rfl, hp, hq, by rw [lim]; exact zz, fun p' np => got_new s g np fun ff => .lst upd_same (by simpa using zz) ((rp.append rq).mono ff)⟩))
      · rw [if_neg z] at g; exact g.elim
    | _ => exact g.elim
  | tup a =>
    cases e with
    | tup b =>
      obtain ⟨p, vs, ex, hp, zp, rp, Rx⟩ := bo_tup s rx
      obtain ⟨q, ws, ey, hq, zq, rq, Ry⟩ := bo_tup s ry
      subst ex ey
      dsimp only [addD] at g
      by_cases z : a.length + b.length ≤ LIM
      · rw [if_pos z] at g
        have zz : vs.length + ws.length ≤ LIM := by rw [rp.length, rq.length]; exact z
        refine .inr (.inr (.inr ⟨p, q, vs, ws, rfl, rfl, hp, hq, by rw [lim]; exact zz, fun e => ?_, fun _ e => ?_, fun _ _ p' np => got_new s g np fun ff => .tup (.inl upd_same) (by simpa using zz) ((rp.append rq).mono ff)⟩))
        · subst e
          cases rp
          exact got_ok s g (by simpa using Ry)
        · subst e
          cases rq
          exact got_ok s g (by simpa using Rx)
      · rw [if_neg z] at g; exact g.elim
    | _ => exact g.elim
  | _ => exact g.elim
/-! ### - * // % ** -/
theorem od_sub {K : PySem.W.Frag} : OpD K (rI0 fun i j => .int (i - j)) subD := by
  intro F H x y d e Q s rx ry g
  cases d with
  | int i =>
    cases e with
    | int j => rw [bo_int rx, bo_int ry]; exact ⟨i, j, rfl, rfl, got_ok s g (.int _)⟩
    | _ => exact g.elim
  | _ => exact g.elim
def rRepR : R2 := fun x y H Q => ∃ l k xs, x = .ref l ∧ y = .int k ∧ Rd H l (.lst xs) ∧ -(2 ^ 63) ≤ k ∧ k < 2 ^ 63 ∧ xs.length * k.toNat ≤ sizeLine ∧
  ∀ p, H p = none → Q (.ref p) (upd H p (.lst (List.replicate k.toNat xs).flatten))
theorem op_repR : OpR X (binaryOp .Mult) rRepR := by
  intro pins s σ H x y v u Q I rx ry h
  obtain ⟨l, k, xs, rfl, rfl, hH, h1, h2, hz, q⟩ := h
  cases rx
  obtain ⟨t, rfl⟩ := ry
  obtain ⟨z, its, n, r, hl, e⟩ := Inv.lstR I hH
  have hlen : its.toArray.size * k.toNat ≤ sizeLine := by rw [List.size_toArray, ← hl]; exact hz
  have hcap : ¬ its.toArray.size * k.toNat > (2 ^ 63 - 1) / 8 := by
    have : (sizeLine : Nat) ≤ (2 ^ 63 - 1) / 8 := by decide
    omega
  have hfit : ¬ (!Builtin.List.listFitsIndex k) = true := by
    rw [PySem.fitsIndex_both h1 h2]
    exact Bool.false_ne_true
  have hlong : ¬ Builtin.List.listTooLong (its.toArray.size * k.toNat) = true := by
    rw [notLongL hlen]
    exact Bool.false_ne_true
  have hnew : List.foldl (fun x1 x2 => x1 ++ x2) #[] (List.replicate (if its.toArray.isEmpty = true then 0 else k.toNat) its.toArray) = (List.replicate k.toNat its).flatten.toArray := by
    have f0 : ∀ m : Nat, List.foldl (fun x1 x2 => x1 ++ x2) #[] (List.replicate m its.toArray) = (List.replicate m its).flatten.toArray := fun m => by
      have := foldl_rep its m []
      rw [List.nil_append] at this
      exact this
    rw [f0]
    cases its with
    | nil => simp
    | cons a r' => rw [if_neg (by simp)]
  refine wpAny_binaryOp_repeat_ref (T := "list") (U := "int") (by decide) ⟨_, e, rfl⟩ (fun s' => typeIs_int s' k t) noFill_list_mul F.fills_int_mul F.slot_int_rmul repeat_list F.slot_int_index.lookup
    (call_meets F.slot_int_rmul (typeIs_int s k t) F.entry_int_rmul (F.args_int_rmul_2 _ _) (int___rmul___int_list k t l its.toArray n)
      ⟨e, rfl, ⟨_, e, rfl⟩, call_meets F.slot_list_mul ⟨_, e, rfl⟩ F.entry_list_mul (F.args_list_mul_2 _ _) (AutoListH.list___mul___list_int_3 l its.toArray n k t hfit hcap hlong) ⟨e, ?_⟩⟩)
  rw [hnew]
  exact ⟨.ref _, _, I.lnew (t' := s.toks) (r.rep k.toNat) (by rw [PyProof.Rows.lm_len_rep_flat, Nat.mul_comm]; exact hz), rfl, q _ I.fresh⟩
/-- text * n, n at least 0 -/
def rRepS : R2 := fun x y H Q => ∃ (a : List Nat) (k : Int), x = .str (tx a) ∧ y = .int k ∧ 0 ≤ k ∧ a.length * k.toNat ≤ LIM ∧ k ≤ LIM ∧ Q (.str (tx (List.replicate k.toNat a).flatten)) H
theorem flat_len {α : Type} (l : List α) : ∀ k : Nat, (List.replicate k l).flatten.length = l.length * k
  | 0 => by simp
  | k + 1 => by rw [List.replicate_succ, List.flatten_cons, List.length_append, flat_len l k, Nat.mul_succ]; omega
theorem foldl_tx (a : List Nat) : ∀ (m : Nat) (acc : List Nat), List.foldl (fun x1 x2 => x1 ++ x2) acc.toArray (List.replicate m a.toArray) = (acc ++ (List.replicate m a).flatten).toArray
  | 0, acc => by simp
  | m + 1, acc => by
    rw [List.replicate_succ, List.foldl_cons, show acc.toArray ++ a.toArray = (acc ++ a).toArray by simp, foldl_tx a m (acc ++ a)]
    simp [List.replicate_succ]
theorem op_repS : OpR X (binaryOp .Mult) rRepS := by
  intro pins s σ H x y v u Q I rx ry h
  obtain ⟨a, k, rfl, rfl, h0, hz, hk, q⟩ := h
  obtain ⟨t, rfl⟩ := rx
  obtain ⟨t', rfl⟩ := ry
  have hlim : LIM = 16777216 := rfl
  refine PySem.P.mul_str ?_ (fun h1 h2 h3 => ?_) (fun h1 h2 => ?_) ?_
  · have e1 : decide (k < -(2 ^ 63 : Int)) = false := decide_eq_false (by omega)
    have e2 : decide (k ≥ 2 ^ 63) = false := decide_eq_false (by omega)
    rw [e1, e2]; rfl
  · rw [tx_len] at h3
    have hk1 : 1 ≤ k := by omega
    have : (a.length : Int) ≤ (2 ^ 63 - 1) / k := by
      refine (Int.le_ediv_iff_mul_le (by omega)).mpr ?_
      have e : (a.length : Int) * k = ((a.length * k.toNat : Nat) : Int) := by
        rw [Int.natCast_mul, Int.toNat_of_nonneg h0]
      rw [e]
      omega
    omega
  · rw [tx_len]
    have : Builtin.Str.tooLong (a.length * k.toNat) = false := by
      unfold Builtin.Str.tooLong
      exact decide_eq_false (by rw [lim]; omega)
    exact this
  · have ef : (⟨(List.replicate k.toNat (tx a).cps).foldl (· ++ ·) #[]⟩ : Str) = tx (List.replicate k.toNat a).flatten := by
      have := foldl_tx a k.toNat []
      rw [List.nil_append] at this
      show (⟨(List.replicate k.toNat a.toArray).foldl (· ++ ·) #[]⟩ : Str) = tx _
      unfold tx
      congr 1
    by_cases h1 : k < 1
    · rw [if_pos h1]
      have e0 : k = 0 := by omega
      subst e0
      exact ⟨Nat.zero_le _, V.str (tx []), H, I.tok _, ⟨_, rfl⟩, q⟩
    · rw [if_neg h1]
      by_cases h2 : (k == 1 || (tx a).length == 0) = true
      · rw [if_pos h2]
        refine ⟨V.str (tx (List.replicate k.toNat a).flatten), H, I, ⟨t, ?_⟩, q⟩
        congr 1
        rw [Bool.or_eq_true, beq_iff_eq, beq_iff_eq, tx_len] at h2
        rcases h2 with h2 | h2
        · subst h2; simp
        · have : a = [] := List.eq_nil_of_length_eq_zero h2
          subst this
          simp
      · rw [if_neg h2, ef]
        refine ⟨?_, V.str (tx (List.replicate k.toNat a).flatten), H, I.tok _, ⟨s.toks, rfl⟩, q⟩
        rw [tx_len, flat_len, lim]
        exact hz
def rMulA : R2 := fun x y H Q => rI CMul (fun i j => .int (i * j)) x y H Q ∨ rRepS x y H Q ∨ rRepR x y H Q
theorem op_mulA : OpR X (binaryOp .Mult) rMulA := OpR.or op_mul (OpR.or op_repS op_repR)
theorem RpA.rep {K : PySem.W.Frag} {F : Hp} {vs : List V} {ds : List D} (h : RpA K F vs ds) : ∀ k : Nat, RpA K F (List.replicate k vs).flatten (List.replicate k ds).flatten
  | 0 => by simp; exact .nil
  | k + 1 => by
    rw [List.replicate_succ, List.replicate_succ, List.flatten_cons, List.flatten_cons]
    exact h.append (RpA.rep h k)
theorem od_mul {K : PySem.W.Frag} : OpD K rMulA mulD := by
  intro F H x y d e Q s rx ry g
  cases d with
  | int i =>
    cases e with
    | int j =>
      rw [bo_int rx, bo_int ry]
      dsimp only [mulD] at g
      split at g
      · rename_i z
        exact .inl ⟨i, j, rfl, rfl, z, got_ok s g (.int _)⟩
      · exact g.elim
    | _ => exact g.elim
  | str a =>
    cases e with
    | int j =>
      obtain ⟨ex, ha⟩ := bo_str rx
      subst ex
      rw [bo_int ry]
      dsimp only [mulD] at g
      split at g
      · rename_i z
        refine .inr (.inl ⟨a, j, rfl, rfl, z.1, z.2.1, z.2.2, got_ok s g (.str _ ⟨by rw [flat_len]; exact z.2.1, fun c hc => ?_⟩)⟩)
        obtain ⟨l, hl, hcl⟩ := List.mem_flatten.mp hc
        rw [List.mem_replicate] at hl
        rw [hl.2] at hcl
        exact ha.2 c hcl
      · exact g.elim
    | _ => exact g.elim
  | lst a =>
    cases e with
    | int j =>
      obtain ⟨p, vs, rfl, hp, zp, rp⟩ := bo_lst s rx
      rw [bo_int ry]
      dsimp only [mulD] at g
      split at g
      · rename_i z
        have zz : vs.length * j.toNat ≤ LIM := by rw [rp.length]; exact z.2.2
        exact .inr (.inr ⟨p, j, vs, rfl, rfl, hp, z.1, z.2.1, by rw [lim]; exact zz, fun p' np => got_new s g np fun ff => .lst upd_same (by rw [flat_len]; exact zz) ((rp.rep _).mono ff)⟩)
      · exact g.elim
    | _ => exact g.elim
  | _ => exact g.elim
theorem od_fdiv {K : PySem.W.Frag} : OpD K (rI CDivW fun i j => .int (i / j)) fdivD := by
  intro F H x y d e Q s rx ry g
  cases d with
  | int i =>
    cases e with
    | int j =>
      rw [bo_int rx, bo_int ry]
      dsimp only [fdivD] at g
      split at g
      · rename_i z
        exact ⟨i, j, rfl, rfl, wide_div (b := 64) z.1 (by omega) (by decide) (by decide), got_ok s g (.int _)⟩
      · exact g.elim
    | _ => exact g.elim
  | _ => exact g.elim
theorem od_mod {K : PySem.W.Frag} : OpD K (rI (fun _ j => 0 < j) fun i j => .int (i % j)) modD := by
  intro F H x y d e Q s rx ry g
  cases d with
  | int i =>
    cases e with
    | int j =>
      rw [bo_int rx, bo_int ry]
      dsimp only [modD] at g
      split at g
      · rename_i z
        exact ⟨i, j, rfl, rfl, z, got_ok s g (.int _)⟩
      · exact g.elim
    | _ => exact g.elim
  | _ => exact g.elim
theorem od_pow {K : PySem.W.Frag} : OpD K (rI CPow fun i j => .int (i ^ j.toNat)) powD := by
  intro F H x y d e Q s rx ry g
  cases d with
  | int i =>
    cases e with
    | int j =>
      rw [bo_int rx, bo_int ry]
      dsimp only [powD] at g
      split at g
      · rename_i z
        exact ⟨i, j, rfl, rfl, z, got_ok s g (.int _)⟩
      · exact g.elim
    | _ => exact g.elim
  | _ => exact g.elim
/-! ### order of ints -/
theorem od_le {K : PySem.W.Frag} : OpD K (rI0 fun i j => .bl (decide (i ≤ j))) leD := by
  intro F H x y d e Q s rx ry g
  cases d with
  | int i =>
    cases e with
    | int j => rw [bo_int rx, bo_int ry]; exact ⟨i, j, rfl, rfl, got_ok s g (.bl _)⟩
    | _ => exact g.elim
  | _ => exact g.elim
theorem od_gt {K : PySem.W.Frag} : OpD K (rI0 fun i j => .bl (decide (j < i))) gtD := by
  intro F H x y d e Q s rx ry g
  cases d with
  | int i =>
    cases e with
    | int j => rw [bo_int rx, bo_int ry]; exact ⟨i, j, rfl, rfl, got_ok s g (.bl _)⟩
    | _ => exact g.elim
  | _ => exact g.elim
theorem od_ge {K : PySem.W.Frag} : OpD K (rI0 fun i j => .bl (decide (j ≤ i))) geD := by
  intro F H x y d e Q s rx ry g
  cases d with
  | int i =>
    cases e with
    | int j => rw [bo_int rx, bo_int ry]; exact ⟨i, j, rfl, rfl, got_ok s g (.bl _)⟩
    | _ => exact g.elim
  | _ => exact g.elim
end
end Pv

namespace Pv
open PySem PySem.Spec L2
/-! ### as the library's data -/
mutual
def toP : D → PyData
  | .non => .none
  | .bl b => .bool b
  | .int i => .int i
  | .str l => .str (tx l)
  | .tup ds => .tuple (toPs ds)
  | .lst ds => .list (toPs ds)
  | .dic _ => .none
  | .obj _ => .none
  | .fn _ => .none
def toPs : List D → List PyData
  | [] => []
  | d :: ds => toP d :: toPs ds
end
theorem toPs_map : ∀ ds : List D, toPs ds = ds.map toP
  | [] => rfl
  | d :: ds => by rw [toPs, toPs_map ds]; rfl
mutual
theorem toP_dep : ∀ d : D, (toP d).depth = dep d
  | .non => by simp [toP, dep, PyData.depth]
  | .bl b => by simp [toP, dep, PyData.depth]
  | .int i => by simp [toP, dep, PyData.depth]
  | .str l => by simp [toP, dep, PyData.depth]
  | .tup ds => by simp [toP, dep, PyData.depth, toPs_dep ds]
  | .lst ds => by simp [toP, dep, PyData.depth, toPs_dep ds]
  | .dic _ => by simp [toP, dep, PyData.depth]
  | .obj _ => by simp [toP, dep, PyData.depth]
  | .fn _ => by simp [toP, dep, PyData.depth]
theorem toPs_dep : ∀ ds : List D, PyData.depthAll (toPs ds) = deps ds
  | [] => by simp [toPs, deps, PyData.depthAll]
  | d :: ds => by simp [toPs, deps, PyData.depthAll, toP_dep d, toPs_dep ds]
end
theorem tx_beq (a b : List Nat) : (tx a == tx b) = (a == b) := by
  by_cases h : a = b
  · subst h; simp
  · have h2 : tx a ≠ tx b := fun e => h (tx_inj e)
    rw [beq_eq_false_iff_ne.mpr h2, beq_eq_false_iff_ne.mpr h]
mutual
theorem toP_eqv : ∀ d e : D, plain d = true → plain e = true → PyData.eqv (toP d) (toP e) = deq d e
  | .non, e, h1, h2 => by cases e <;> first | (simp [plain] at h2; done) | simp [toP, deq, PyData.eqv]
  | .bl b, e, h1, h2 => by cases e <;> first | (simp [plain] at h2; done) | simp [toP, deq, PyData.eqv]
  | .int i, e, h1, h2 => by cases e <;> first | (simp [plain] at h2; done) | simp [toP, deq, PyData.eqv]
  | .str l, e, h1, h2 => by cases e <;> first | (simp [plain] at h2; done) | simp [toP, deq, PyData.eqv, tx_beq]
  | .tup ds, e, h1, h2 => by
    cases e with
    | tup es => simp only [toP, deq, PyData.eqv]; exact toPs_eqv ds es (by simpa [plain] using h1) (by simpa [plain] using h2)
    | dic _ => simp [plain] at h2
    | obj _ => simp [plain] at h2
    | fn _ => simp [plain] at h2
    | _ => simp [toP, deq, PyData.eqv]
  | .lst ds, e, h1, h2 => by
    cases e with
    | lst es => simp only [toP, deq, PyData.eqv]; exact toPs_eqv ds es (by simpa [plain] using h1) (by simpa [plain] using h2)
    | dic _ => simp [plain] at h2
    | obj _ => simp [plain] at h2
    | fn _ => simp [plain] at h2
    | _ => simp [toP, deq, PyData.eqv]
  | .dic _, e, h1, h2 => by simp [plain] at h1
  | .obj _, e, h1, h2 => by simp [plain] at h1
  | .fn _, e, h1, h2 => by simp [plain] at h1
theorem toPs_eqv : ∀ ds es : List D, plains ds = true → plains es = true → PyData.eqvAll (toPs ds) (toPs es) = deqs ds es
  | [], [], _, _ => by simp [toPs, deqs, PyData.eqvAll]
  | [], e :: es, _, _ => by simp [toPs, deqs, PyData.eqvAll]
  | d :: ds, [], _, _ => by simp [toPs, deqs, PyData.eqvAll]
  | d :: ds, e :: es, h1, h2 => by
    rw [plains, Bool.and_eq_true] at h1 h2
    simp only [toPs, deqs, PyData.eqvAll]
    rw [toP_eqv d e h1.1 h2.1, toPs_eqv ds es h1.2 h2.2]
end
section
variable {K : PySem.W.Frag} {F H : Hp}
theorem okS_strOk {l : List Nat} (h : okS l) : PyData.strOk (tx l) = true := by
  unfold PyData.strOk tx
  simp only [List.all_toArray, List.all_eq_true, decide_eq_true_eq]
  exact h.2
mutual
theorem rp_dp (s : Sub F H) : ∀ {v : V} {d : D}, Rp K F v d → plain d = true → Dp K H v (toP d) ∧ (toP d).canLay0 = true
  | _, _, .non, _ => ⟨by rw [toP]; exact .non, by simp [toP, PyData.canLay0]⟩
  | _, _, .bl b, _ => ⟨by rw [toP]; exact .bl b, by simp [toP, PyData.canLay0]⟩
  | _, _, .int i, _ => ⟨by rw [toP]; exact .int i, by simp [toP, PyData.canLay0]⟩
  | _, _, .str l z, _ => ⟨by rw [toP]; exact .str _, by simp [toP, PyData.canLay0, okS_strOk z]⟩
  | _, _, .tup q z r, h => by
    obtain ⟨h1, h2⟩ := rpA_dp s r (by simpa [plain] using h)
    rw [toP]
    exact ⟨.tup (s.tup q) h1, by simpa [PyData.canLay0] using h2⟩
  | _, _, .lst q z r, h => by
    obtain ⟨h1, h2⟩ := rpA_dp s r (by simpa [plain] using h)
    rw [toP]
    exact ⟨.lst (.inl (s _ _ q)) h1, by simpa [PyData.canLay0] using h2⟩
  | _, _, .dic q z r, h => by simp [plain] at h
  | _, _, .obj a, h => by simp [plain] at h
  | _, _, .fn a, h => by simp [plain] at h
theorem rpA_dp (s : Sub F H) : ∀ {vs : List V} {ds : List D}, RpA K F vs ds → plains ds = true → DpAll K H vs (toPs ds) ∧ PyData.canLayAll0 (toPs ds) = true
  | _, _, .nil, _ => ⟨by rw [toPs]; exact .nil, by simp [toPs, PyData.canLayAll0]⟩
  | _, _, .cons r t, h => by
    rw [plains, Bool.and_eq_true] at h
    obtain ⟨h1, h2⟩ := rp_dp s r h.1
    obtain ⟨h3, h4⟩ := rpA_dp s t h.2
    rw [toPs]
    exact ⟨.cons h1 h3, by simp [PyData.canLayAll0, h2, h4]⟩
end
theorem bo_dp (s : Sub F H) {v : V} {d : D} (r : RBo K F H v d) (h : plain d = true) : Dp K H v (toP d) ∧ (toP d).canLay0 = true := by
  rcases r with r | ⟨a, e, n, r⟩
  · exact rp_dp s r h
  · subst e
    cases r with
    | lst q z r =>
      obtain ⟨h1, h2⟩ := rpA_dp s r (by simpa [plain] using h)
      rw [toP]
      exact ⟨.lst (.inl (.inl q)) h1, by simpa [PyData.canLay0] using h2⟩
    | dic q z r => simp [plain] at h
end
/-! ### == != -/
section
variable {X : Cx} {k : Nat}
def rEqP (K : PySem.W.Frag) (neg : Bool) : R2 := fun x y H Q => ∃ d e, Dp K H x d ∧ Dp K H y e ∧ d.canLay0 = true ∧ e.canLay0 = true ∧ min d.depth e.depth ≤ 60 ∧ Q (.bl (if neg then !PyData.eqv d e else PyData.eqv d e)) H
theorem op_eqP (hr : Room k X.A) : OpR X (compareOp .Eq) (rEqP X.K false) := by
  intro pins s σ H x y v u Q I rx ry h
  obtain ⟨d, e, hd, he, sd, se, hm, q⟩ := h
  obtain ⟨as, r1⟩ := Dp.reads I d x v hd rx
  obtain ⟨bs, r2⟩ := Dp.reads I e y u he ry
  exact SeqAt.compareEq_reads r1 r2 sd se (by have := hr.units; omega) ⟨.bl _, H, I, rfl, q⟩
theorem op_neP (hr : Room k X.A) : OpR X (compareOp .NotEq) (rEqP X.K true) := by
  intro pins s σ H x y v u Q I rx ry h
  obtain ⟨d, e, hd, he, sd, se, hm, q⟩ := h
  obtain ⟨as, r1⟩ := Dp.reads I d x v hd rx
  obtain ⟨bs, r2⟩ := Dp.reads I e y u he ry
  exact SeqAt.compareNe_reads r1 r2 sd se (by have := hr.units; omega) ⟨.bl _, H, I, rfl, q⟩
theorem od_eq {K : PySem.W.Frag} : OpD K (rEqP K false) eqD := by
  intro F H x y d e Q s rx ry g
  unfold eqD at g
  split at g
  · rename_i z
    obtain ⟨d1, d2⟩ := bo_dp s rx z.1
    obtain ⟨e1, e2⟩ := bo_dp s ry z.2.1
    refine ⟨_, _, d1, e1, d2, e2, by rw [toP_dep, toP_dep]; exact z.2.2, ?_⟩
    rw [toP_eqv d e z.1 z.2.1]
    exact got_ok s g (.bl _)
  · exact g.elim
theorem od_ne {K : PySem.W.Frag} : OpD K (rEqP K true) neD := by
  intro F H x y d e Q s rx ry g
  unfold neD at g
  split at g
  · rename_i z
    obtain ⟨d1, d2⟩ := bo_dp s rx z.1
    obtain ⟨e1, e2⟩ := bo_dp s ry z.2.1
    refine ⟨_, _, d1, e1, d2, e2, by rw [toP_dep, toP_dep]; exact z.2.2, ?_⟩
    rw [toP_eqv d e z.1 z.2.1]
    exact got_ok s g (.bl _)
  · exact g.elim
/-! ### < -/
mutual
theorem toP_alike : ∀ d e : D, alk d e = true → plain d = true → plain e = true → PySem.W.alike (toP d) (toP e) = true
  | .non, e, h, h1, h2 => by cases e <;> first | (simp [alk] at h; done) | simp [toP, PySem.W.alike]
  | .bl b, e, h, h1, h2 => by cases e <;> first | (simp [alk] at h; done) | simp [toP, PySem.W.alike]
  | .int i, e, h, h1, h2 => by cases e <;> first | (simp [alk] at h; done) | simp [toP, PySem.W.alike]
  | .str l, e, h, h1, h2 => by cases e <;> first | (simp [alk] at h; done) | simp [toP, PySem.W.alike]
  | .tup ds, e, h, h1, h2 => by
    cases e with
    | tup es => simp only [toP, PySem.W.alike]; exact toPs_alike ds es (by simpa [alk] using h) (by simpa [plain] using h1) (by simpa [plain] using h2)
    | _ => simp [alk] at h
  | .lst ds, e, h, h1, h2 => by
    cases e with
    | lst es => simp only [toP, PySem.W.alike]; exact toPs_alike ds es (by simpa [alk] using h) (by simpa [plain] using h1) (by simpa [plain] using h2)
    | _ => simp [alk] at h
  | .dic _, e, h, h1, h2 => by simp [plain] at h1
  | .obj _, e, h, h1, h2 => by simp [plain] at h1
  | .fn _, e, h, h1, h2 => by simp [plain] at h1
theorem toPs_alike : ∀ ds es : List D, alks ds es = true → plains ds = true → plains es = true → PySem.W.alikeAll (toPs ds) (toPs es) = true
  | [], es, _, _, _ => by cases es <;> simp [toPs, PySem.W.alikeAll]
  | d :: ds, [], _, _, _ => by simp [toPs, PySem.W.alikeAll]
  | d :: ds, e :: es, h, h1, h2 => by
    rw [plains, Bool.and_eq_true] at h1 h2
    rw [alks, Bool.and_eq_true] at h
    simp only [toPs, PySem.W.alikeAll, Bool.and_eq_true]
    exact ⟨toP_alike d e h.1 h1.1 h2.1, toPs_alike ds es h.2 h1.2 h2.2⟩
end
mutual
theorem toP_lt : ∀ d e : D, alk d e = true → plain d = true → plain e = true → isNon d = false → PySem.W.dataLt (toP d) (toP e) = dlt d e
  | .non, e, h, h1, h2, hn => by simp [isNon] at hn
  | .bl a, e, h, h1, h2, hn => by
    cases e with
    | bl b => simp only [toP, dlt]; rw [PySem.W.dataLt_bool]; cases a <;> cases b <;> rfl
    | _ => simp [alk] at h
  | .int i, e, h, h1, h2, hn => by
    cases e with
    | int j => simp only [toP, dlt]; rw [PySem.W.dataLt_int]
    | _ => simp [alk] at h
  | .str l, e, h, h1, h2, hn => by
    cases e with
    | str m => simp only [toP, dlt]; rw [PySem.W.dataLt_str, tx_list, tx_list]
    | _ => simp [alk] at h
  | .tup ds, e, h, h1, h2, hn => by
    cases e with
    | tup es =>
      simp only [toP, dlt]
      rw [PySem.W.dataLt_tuple]
      exact toPs_lt ds es (by simpa [alk] using h) (by simpa [plain] using h1) (by simpa [plain] using h2)
    | _ => simp [alk] at h
  | .lst ds, e, h, h1, h2, hn => by
    cases e with
    | lst es =>
      simp only [toP, dlt]
      rw [PySem.W.dataLt_list]
      exact toPs_lt ds es (by simpa [alk] using h) (by simpa [plain] using h1) (by simpa [plain] using h2)
    | _ => simp [alk] at h
  | .dic _, e, h, h1, h2, hn => by simp [plain] at h1
  | .obj _, e, h, h1, h2, hn => by simp [plain] at h1
  | .fn _, e, h, h1, h2, hn => by simp [plain] at h1
theorem toPs_lt : ∀ ds es : List D, alks ds es = true → plains ds = true → plains es = true → PyProof.Rows.lexLt PyProof.Rows.itemOrd (PySem.W.keyToksAll (toPs ds)) (PySem.W.keyToksAll (toPs es)) = dlts ds es
  | [], [], _, _, _ => by simp [toPs, dlts, PySem.W.keyToksAll, PyProof.Rows.lex_irrefl]
  | [], e :: es, _, _, _ => by
    simp only [toPs, dlts, PySem.W.keyToksAll]
    rw [PyProof.Rows.lex_diff (O := PyProof.Rows.itemOrd) (by simp)]
    simp [PyProof.Rows.itemOrd, PyProof.Rows.itemLt]
  | d :: ds, [], _, _, _ => by
    simp only [toPs, dlts, PySem.W.keyToksAll]
    rw [PyProof.Rows.lex_diff (O := PyProof.Rows.itemOrd) (by simp)]
    simp [PyProof.Rows.itemOrd, PyProof.Rows.itemLt]
  | d :: ds, e :: es, h, h1, h2 => by
    rw [plains, Bool.and_eq_true] at h1 h2
    rw [alks, Bool.and_eq_true] at h
    have ha := toP_alike d e h.1 h1.1 h2.1
    simp only [toPs, dlts]
    rw [PySem.W.dataLt_cons ha, toP_eqv d e h1.1 h2.1, toPs_lt ds es h.2 h1.2 h2.2]
    cases z : deq d e with
    | true => rfl
    | false =>
      simp only [Bool.false_eq_true, if_false]
      refine toP_lt d e h.1 h1.1 h2.1 ?_
      cases d with
      | non => cases e <;> first | (simp [alk] at h; done) | (simp [deq] at z; done)
      | _ => rfl
end
def rLtP (K : PySem.W.Frag) : R2 := fun x y H Q => ∃ d e, Dp K H x d ∧ Dp K H y e ∧ PySem.W.alike d e = true ∧ d ≠ .none ∧ min d.depth e.depth ≤ 60 ∧ Q (.bl (PySem.W.dataLt d e)) H
theorem op_ltP (hr : Room k X.A) : OpR X (compareOp .Lt) (rLtP X.K) := by
  intro pins s σ H x y v u Q I rx ry h
  obtain ⟨d, e, hd, he, ha, hn, hm, q⟩ := h
  obtain ⟨as, r1⟩ := Dp.reads I d x v hd rx
  obtain ⟨bs, r2⟩ := Dp.reads I e y u he ry
  exact PySem.W.rcLt_alike d e X.A s v u as bs r1 r2 ha hn (by have := hr.units; omega) X.prog X.w X.xe _ ⟨.bl _, H, I, rfl, q⟩
theorem od_lt {K : PySem.W.Frag} : OpD K (rLtP K) ltD := by
  intro F H x y d e Q s rx ry g
  unfold ltD at g
  split at g
  · rename_i z
    obtain ⟨z1, z2, z3, z4, z5⟩ := z
    obtain ⟨d1, d2⟩ := bo_dp s rx z1
    obtain ⟨e1, e2⟩ := bo_dp s ry z2
    refine ⟨_, _, d1, e1, toP_alike d e z3 z1 z2, ?_, by rw [toP_dep, toP_dep]; exact z5, ?_⟩
    · cases d <;> first | (simp [plain] at z1; done) | (simp [isNon] at z4; done) | (intro q; simp [toP] at q; done)
    · rw [toP_lt d e z3 z1 z2 z4]
      exact got_ok s g (.bl _)
  · exact g.elim
end
end Pv

namespace Pv
open PySem PySem.Spec L2
theorem _root_.L2.PE.or {X : Cx} {e : Expr} {t t' : TE} (h : PE X e t) (h' : PE X e t') : PE X e (fun σ H Q => t σ H Q ∨ t' σ H Q) := ⟨fun pins s σ H Q I q => q.elim (h.run pins s σ H Q I) (h'.run pins s σ H Q I)⟩
/-! ### is -/
section
variable {X : Cx} {k : Nat}
def rIsA : R2 := fun x y H Q => rIsB x y H Q ∨ (y = .non ∧ Q (.bl (decide (x = .non))) H)
def rNotA : R2 := fun x y H Q => rNotB x y H Q ∨ (y = .non ∧ Q (.bl (!decide (x = .non))) H)
theorem op_isA : OpR X (compareOp .Is) rIsA := OpR.or op_isBl op_isN
theorem op_notA : OpR X (compareOp .IsNot) rNotA := OpR.or op_notBl op_notN
theorem bo_isnon {K : PySem.W.Frag} {F H : Hp} {x : V} {d : D} (r : RBo K F H x d) (h : ∀ a, d ≠ .obj a) : decide (x = .non) = isNon d := by
  rcases r with r | ⟨a, e, _, r⟩
  · cases r <;> first | rfl | exact absurd rfl (h _)
  · subst e
    cases r <;> rfl
theorem od_is {K : PySem.W.Frag} : OpD K rIsA isD := by
  intro F H x y d e Q s rx ry g
  have key : ∀ b : Bool, (∀ a, d ≠ .obj a) → isNon d = b → e = .non → Got (RE K) WF F H [] Q (.ok (.bl b)) → rIsA x y H Q := fun b hd hb he g2 => by
    clear g
    subst he
    refine .inr ⟨bo_non ry, ?_⟩
    rw [bo_isnon rx hd, hb]
    exact got_ok s g2 (.bl b)
  cases e with
  | bl b =>
    cases d with
    | bl a => rw [bo_bl rx, bo_bl ry]; exact .inl ⟨a, b, rfl, rfl, got_ok s g (.bl _)⟩
    | _ => exact g.elim
  | non =>
    cases d with
    | dic _ => exact g.elim
    | obj _ => exact g.elim
    | fn _ => exact g.elim
    | _ => exact key _ (by intro a h; cases h) rfl rfl g
  | _ => cases d <;> exact g.elim
theorem od_isn {K : PySem.W.Frag} : OpD K rNotA isnD := by
  intro F H x y d e Q s rx ry g
  have key : ∀ b : Bool, (∀ a, d ≠ .obj a) → isNon d = b → e = .non → Got (RE K) WF F H [] Q (.ok (.bl (!b))) → rNotA x y H Q := fun b hd hb he g2 => by
    clear g
    subst he
    refine .inr ⟨bo_non ry, ?_⟩
    rw [bo_isnon rx hd, hb]
    exact got_ok s g2 (.bl _)
  cases e with
  | bl b =>
    cases d with
    | bl a => rw [bo_bl rx, bo_bl ry]; exact .inl ⟨a, b, rfl, rfl, got_ok s g (.bl _)⟩
    | _ => exact g.elim
  | non =>
    cases d with
    | dic _ => exact g.elim
    | obj _ => exact g.elim
    | fn _ => exact g.elim
    | _ => exact key _ (by intro a h; cases h) rfl rfl g
  | _ => cases d <;> exact g.elim
/-! ### dicts by keys -/
theorem rpk_look {K : PySem.W.Frag} {F : Hp} {key : List Nat} : ∀ {kvs : List (Key × V)} {ds : List (List Nat × D)}, RpK K F kvs ds → (∃ v d, valV kvs (Sum.inr (tx key)) = some v ∧ lookD ds key = some d ∧ Rp K F v d) ∨ (valV kvs (Sum.inr (tx key)) = none ∧ lookD ds key = none)
  | _, _, .nil => .inr ⟨rfl, rfl⟩
  | _, _, @RpK.cons _ _ k v kvs d ds z r t => by
    by_cases h : k = key
    · subst h
      exact .inl ⟨v, d, valV_pos rfl, by simp [lookD, List.find?_cons], r⟩
    · have h1 : ¬ ((Sum.inr (tx k) : Key) = Sum.inr (tx key)) := fun e => h (tx_inj (Sum.inr.inj e))
      have e1 : valV ((Sum.inr (tx k), v) :: kvs) (Sum.inr (tx key)) = valV kvs (Sum.inr (tx key)) := valV_neg h1
      have e2 : lookD ((k, d) :: ds) key = lookD ds key := by simp [lookD, List.find?_cons, h]
      rw [e1, e2]
      exact rpk_look t
theorem lookD_any (kvs : List (List Nat × D)) (k : List Nat) : (kvs.any fun kv => decide (kv.1 = k)) = (lookD kvs k).isSome := by
  induction kvs with
  | nil => rfl
  | cons kv r ih =>
    by_cases h : kv.1 = k
    · simp [lookD, List.find?_cons, h]
    · simp only [lookD, List.find?_cons, List.any_cons, decide_eq_false h, Bool.false_or] at ih ⊢
      exact ih
/-! ### in -/
def rInK (neg : Bool) : R2 := fun x y H Q => ∃ a o, y = .ref a ∧ DGet H a x o ∧ Q (.bl (if neg then !o.isSome else o.isSome)) H
theorem op_inK (hr : Room k X.A) : OpR X (compareOp .In) (rInK false) := by
  intro pins s σ H x y v u Q I rx ry h
  obtain ⟨a, o, rfl, g, q⟩ := h
  cases ry
  exact d_in (hu_of hr) I g rx fun s' I' => ⟨.bl _, H, I', rfl, q⟩
theorem op_ninK (hr : Room k X.A) : OpR X (compareOp .NotIn) (rInK true) := by
  intro pins s σ H x y v u Q I rx ry h
  obtain ⟨a, o, rfl, g, q⟩ := h
  cases ry
  exact d_notIn (hu_of hr) I g rx fun s' I' => ⟨.bl _, H, I', rfl, q⟩
def rInSg (neg : Bool) : R2 := fun x y H Q => ∃ (c : Nat) (z : Str), x = .str ⟨#[c]⟩ ∧ y = .str z ∧ Q (.bl (if neg then !decide (c ∈ z.cps.toList) else decide (c ∈ z.cps.toList))) H
def rInDp (K : PySem.W.Frag) (neg : Bool) : R2 := fun x y H Q => ∃ d ds, Dp K H x d ∧ Dp K H y (.list ds) ∧ SeqAt.shaped d = true ∧ SeqAt.shaped (.list ds) = true ∧ Q (.bl (if neg then !ds.any (fun z => PyData.eqv z d) else ds.any fun z => PyData.eqv z d)) H
def rInAll (K : PySem.W.Frag) (neg : Bool) : R2 := fun x y H Q => rInSg neg x y H Q ∨ rIn K neg x y H Q ∨ rInDp K neg x y H Q ∨ rInK neg x y H Q
theorem op_inAll (hr : Room k X.A) : OpR X (compareOp .In) (rInAll X.K false) := OpR.or op_in_sign (OpR.or op_in_seq (OpR.or (op_inD (by have := hr.un; omega)) (op_inK hr)))
theorem op_ninAll (hr : Room k X.A) : OpR X (compareOp .NotIn) (rInAll X.K true) := OpR.or op_notIn_sign (OpR.or op_notIn_seq (OpR.or (op_notInD (by have := hr.un; omega)) (op_ninK hr)))
theorem flat_V {K : PySem.W.Frag} {F H : Hp} {x : V} {d : D} (r : RBo K F H x d) (h : flat d = true) : flatV x = true ∧ Rp K F x d := by
  rcases r with r | ⟨a, e, _, r⟩
  · cases r <;> first | (rename_i z; exact ⟨rfl, .str _ z⟩) | exact ⟨rfl, by constructor⟩ | (simp [flat] at h)
  · cases r <;> simp [flat] at h
theorem eqV_deq {K : PySem.W.Frag} {F : Hp} {x y : V} {d e : D} (rx : Rp K F x d) (ry : Rp K F y e) (hd : flat d = true) (he : flat e = true) : eqV x y = deq d e := by
  cases rx <;> cases ry <;> first
    | (simp [flat] at hd; done)
    | (simp [flat] at he; done)
    | (simp [eqV, deq]; done)
    | (rename_i l1 z1 l2 z2; show (tx l1 == tx l2) = _; rw [tx_beq]; rfl)
    | (rename_i a b; cases a <;> simp [eqV, deq])
    | (rename_i a b; cases b <;> simp [eqV, deq])
theorem inV_deq {K : PySem.W.Frag} {F : Hp} {x : V} {d : D} (rx : Rp K F x d) (hd : flat d = true) : ∀ {vs : List V} {ds : List D}, RpA K F vs ds → ds.all flat = true → vs.all flatV = true ∧ inV x vs = ds.any fun z => deq z d
  | _, _, .nil, _ => ⟨rfl, rfl⟩
  | _, _, .cons r t, h => by
    rw [List.all_cons, Bool.and_eq_true] at h
    obtain ⟨h1, h2⟩ := inV_deq rx hd t h.2
    obtain ⟨f1, _⟩ := flat_V (H := E0h) (.inl r) h.1
    refine ⟨by rw [List.all_cons, f1, h1]; rfl, ?_⟩
    show (List.any (_ :: _) fun y => eqV y x) = _
    rw [List.any_cons, List.any_cons, eqV_deq r rx h.1 hd]
    show (_ || inV x _) = _
    rw [h2]
theorem any_eqv : ∀ (ds : List D) (d : D), plains ds = true → plain d = true → (toPs ds).any (fun z => PyData.eqv z (toP d)) = ds.any fun z => deq z d
  | [], _, _, _ => rfl
  | e :: ds, d, h, hd => by
    rw [plains, Bool.and_eq_true] at h
    rw [toPs, List.any_cons, List.any_cons, toP_eqv e d h.1 hd, any_eqv ds d h.2 hd]
theorem in_all {K : PySem.W.Frag} {neg : Bool} {F H : Hp} {x y : V} {d e : D} {Q : VK} (s : Sub F H) (rx : RBo K F H x d) (ry : RBo K F H y e) (g : Got (RE K) WF F H [] Q ((inB d e).bind fun b => .ok (.bl (if neg then !b else b)))) : rInAll K neg x y H Q := by
  have seqs : ∀ (a : Addr) (vs : List V) (ds : List D), y = .ref a → (SqL K H a vs ∨ SqT K H a vs) → RpA K F vs ds → flat d = true → ds.all flat = true → Got (RE K) WF F H [] Q (.ok (.bl (if neg then !(ds.any fun z => deq z d) else ds.any fun z => deq z d))) → rInAll K neg x y H Q := by
    intro a vs ds ey hq rv hd hds g
    obtain ⟨f1, rx'⟩ := flat_V rx hd
    obtain ⟨f2, e2⟩ := inV_deq rx' hd rv hds
    refine .inr (.inl ⟨a, vs, ey, hq, f1, f2, ?_⟩)
    rw [e2]
    exact got_ok s g (.bl _)
  cases e with
  | str l =>
    cases d with
    | str m =>
      obtain ⟨ex, hx⟩ := bo_str rx
      obtain ⟨ey, hy⟩ := bo_str ry
      match m with
      | [c] =>
        subst ex ey
        refine .inl ⟨c, tx l, rfl, rfl, ?_⟩
        rw [tx_list]
        exact got_ok s g (.bl _)
      | [] => exact g.elim
      | _ :: _ :: _ => exact g.elim
    | _ => exact g.elim
  | tup ds =>
    obtain ⟨a, vs, ey, hq, z, rv, _⟩ := bo_tup s ry
    have hB : inB d (.tup ds) = if flat d = true ∧ ds.all flat = true then .ok (ds.any fun z => deq z d) else .bad := by
      cases d <;> first | rfl | (rename_i m; match m with | [c] => rfl | [] => rfl | _ :: _ :: _ => rfl)
    rw [hB] at g
    by_cases h : flat d = true ∧ ds.all flat = true
    · rw [if_pos h] at g
      exact seqs a vs ds ey (.inr hq) rv h.1 h.2 g
    · rw [if_neg h] at g; exact g.elim
  | lst ds =>
    obtain ⟨a, vs, ey, hq, z, rv⟩ := bo_lst s ry
    have hB : inB d (.lst ds) = if flat d = true ∧ ds.all flat = true then .ok (ds.any fun z => deq z d) else if plain d = true ∧ plains ds = true ∧ dep d + deps ds ≤ 60 then .ok (ds.any fun z => deq z d) else .bad := by
      cases d <;> first | rfl | (rename_i m; match m with | [c] => rfl | [] => rfl | _ :: _ :: _ => rfl)
    rw [hB] at g
    by_cases h : flat d = true ∧ ds.all flat = true
    · rw [if_pos h] at g
      exact seqs a vs ds ey (.inl (.inl hq)) rv h.1 h.2 g
    · rw [if_neg h] at g
      by_cases h' : plain d = true ∧ plains ds = true ∧ dep d + deps ds ≤ 60
      · rw [if_pos h'] at g
        obtain ⟨p1, p2⟩ := bo_dp s rx h'.1
        obtain ⟨q1, q2⟩ := bo_dp s ry (show plain (.lst ds) = true by simpa [plain] using h'.2.1)
        rw [toP] at q1 q2
        refine .inr (.inr (.inl ⟨_, _, p1, q1, ?_, ?_, ?_⟩))
        · unfold SeqAt.shaped
          rw [p2, Bool.true_and]
          exact decide_eq_true (by rw [toP_dep]; omega)
        · unfold SeqAt.shaped
          rw [q2, Bool.true_and]
          exact decide_eq_true (by simp only [PyData.depth, toPs_dep]; omega)
        · rw [any_eqv ds d h'.2.1 h'.1]
          exact got_ok s g (.bl _)
      · rw [if_neg h'] at g; exact g.elim
  | dic ds =>
    obtain ⟨a, kvs, ey, hq, z, rv⟩ := bo_dic s ry
    cases d with
    | str m =>
      obtain ⟨ex, hx⟩ := bo_str rx
      have hB : inB (.str m) (.dic ds) = .ok (ds.any fun kv => decide (kv.1 = m)) := by
        match m with | [c] => rfl | [] => rfl | _ :: _ :: _ => rfl
      rw [hB] at g
      refine .inr (.inr (.inr ⟨a, valV kvs (Sum.inr (tx m)), ey, .inl ⟨kvs, Sum.inr (tx m), hq, ex, rfl⟩, ?_⟩))
      have e : (valV kvs (Sum.inr (tx m))).isSome = ds.any fun kv => decide (kv.1 = m) := by
        rw [lookD_any]
        rcases rpk_look (key := m) rv with ⟨v, d, h1, h2, _⟩ | ⟨h1, h2⟩ <;> rw [h1, h2] <;> rfl
      rw [e]
      exact got_ok s g (.bl _)
    | _ => exact g.elim
  | _ => cases d <;> first | exact g.elim | (rename_i m; match m with | [c] => exact g.elim | [] => exact g.elim | _ :: _ :: _ => exact g.elim) | (rename_i m _; match m with | [c] => exact g.elim | [] => exact g.elim | _ :: _ :: _ => exact g.elim)
theorem od_in {K : PySem.W.Frag} : OpD K (rInAll K false) inD := fun F H x y d e Q s rx ry g => in_all s rx ry g
theorem od_nin {K : PySem.W.Frag} : OpD K (rInAll K true) ninD := fun F H x y d e Q s rx ry g => in_all s rx ry g
/-! ### the operators by name -/
variable {ct : String → Addr} {W : WS} {e a b c : Expr} {es : List Expr} {pos : Pos} {ev ea eb ec : Xv}
theorem e_add (ha : PBv ct k X W a ea) (hb : PBv ct k X W b eb) : PEv ct k X W (.BinOp a .Add b pos) (xOp addD ea eb) := e_op od_add op_addA ha hb
theorem e_sub (ha : PBv ct k X W a ea) (hb : PBv ct k X W b eb) : PEv ct k X W (.BinOp a .Sub b pos) (xOp subD ea eb) := e_op od_sub op_sub ha hb
theorem e_mul (ha : PBv ct k X W a ea) (hb : PBv ct k X W b eb) : PEv ct k X W (.BinOp a .Mult b pos) (xOp mulD ea eb) := e_op od_mul op_mulA ha hb
theorem e_fdiv (ha : PBv ct k X W a ea) (hb : PBv ct k X W b eb) : PEv ct k X W (.BinOp a .FloorDiv b pos) (xOp fdivD ea eb) := e_op od_fdiv op_fdivW ha hb
theorem e_mod (ha : PBv ct k X W a ea) (hb : PBv ct k X W b eb) : PEv ct k X W (.BinOp a .Mod b pos) (xOp modD ea eb) := e_op od_mod op_mod ha hb
theorem e_pow (ha : PBv ct k X W a ea) (hb : PBv ct k X W b eb) : PEv ct k X W (.BinOp a .Pow b pos) (xOp powD ea eb) := e_op od_pow op_pow ha hb
theorem e_lt (ha : PBv ct k X W a ea) (hb : PBv ct k X W b eb) : PEv ct k X W (.Compare a [.Lt] [b] pos) (xOp ltD ea eb) := fun C => e_cmp od_lt (op_ltP C.room) ha hb (nomark _) C
theorem e_le (ha : PBv ct k X W a ea) (hb : PBv ct k X W b eb) : PEv ct k X W (.Compare a [.LtE] [b] pos) (xOp leD ea eb) := fun C => e_cmp od_le op_le ha hb (nomark _) C
theorem e_gt (ha : PBv ct k X W a ea) (hb : PBv ct k X W b eb) : PEv ct k X W (.Compare a [.Gt] [b] pos) (xOp gtD ea eb) := fun C => e_cmp od_gt op_gt ha hb (nomark _) C
theorem e_ge (ha : PBv ct k X W a ea) (hb : PBv ct k X W b eb) : PEv ct k X W (.Compare a [.GtE] [b] pos) (xOp geD ea eb) := fun C => e_cmp od_ge op_ge ha hb (nomark _) C
theorem e_eq (ha : PBv ct k X W a ea) (hb : PBv ct k X W b eb) : PEv ct k X W (.Compare a [.Eq] [b] pos) (xOp eqD ea eb) := fun C => e_cmp od_eq (op_eqP C.room) ha hb (nomark _) C
theorem e_ne (ha : PBv ct k X W a ea) (hb : PBv ct k X W b eb) : PEv ct k X W (.Compare a [.NotEq] [b] pos) (xOp neD ea eb) := fun C => e_cmp od_ne (op_neP C.room) ha hb (nomark _) C
theorem e_is (ha : PBv ct k X W a ea) (hb : PBv ct k X W b eb) : PEv ct k X W (.Compare a [.Is] [b] pos) (xOp isD ea eb) := fun C => e_cmp od_is op_isA ha hb (nomark _) C
theorem e_isn (ha : PBv ct k X W a ea) (hb : PBv ct k X W b eb) : PEv ct k X W (.Compare a [.IsNot] [b] pos) (xOp isnD ea eb) := fun C => e_cmp od_isn op_notA ha hb (nomark _) C
theorem e_in (ha : PBv ct k X W a ea) (hb : PBv ct k X W b eb) (hm : behindInMarks .In b = false := by with_unfolding_all rfl) : PEv ct k X W (.Compare a [.In] [b] pos) (xOp inD ea eb) := fun C => e_cmp od_in (op_inAll C.room) ha hb hm C
theorem e_nin (ha : PBv ct k X W a ea) (hb : PBv ct k X W b eb) (hm : behindInMarks .NotIn b = false := by with_unfolding_all rfl) : PEv ct k X W (.Compare a [.NotIn] [b] pos) (xOp ninD ea eb) := fun C => e_cmp od_nin (op_ninAll C.room) ha hb hm C
theorem t_lt (ha : PBv ct k X W a ea) (hb : PBv ct k X W b eb) : PTv ct k X W (.Compare a [.Lt] [b] pos) (tVal (xOp ltD ea eb)) := fun C => t_cmp od_lt (op_ltP C.room) ha hb (nomark _) C
theorem t_le (ha : PBv ct k X W a ea) (hb : PBv ct k X W b eb) : PTv ct k X W (.Compare a [.LtE] [b] pos) (tVal (xOp leD ea eb)) := fun C => t_cmp od_le op_le ha hb (nomark _) C
theorem t_gt (ha : PBv ct k X W a ea) (hb : PBv ct k X W b eb) : PTv ct k X W (.Compare a [.Gt] [b] pos) (tVal (xOp gtD ea eb)) := fun C => t_cmp od_gt op_gt ha hb (nomark _) C
theorem t_ge (ha : PBv ct k X W a ea) (hb : PBv ct k X W b eb) : PTv ct k X W (.Compare a [.GtE] [b] pos) (tVal (xOp geD ea eb)) := fun C => t_cmp od_ge op_ge ha hb (nomark _) C
theorem t_eq (ha : PBv ct k X W a ea) (hb : PBv ct k X W b eb) : PTv ct k X W (.Compare a [.Eq] [b] pos) (tVal (xOp eqD ea eb)) := fun C => t_cmp od_eq (op_eqP C.room) ha hb (nomark _) C
theorem t_ne (ha : PBv ct k X W a ea) (hb : PBv ct k X W b eb) : PTv ct k X W (.Compare a [.NotEq] [b] pos) (tVal (xOp neD ea eb)) := fun C => t_cmp od_ne (op_neP C.room) ha hb (nomark _) C
theorem t_is (ha : PBv ct k X W a ea) (hb : PBv ct k X W b eb) : PTv ct k X W (.Compare a [.Is] [b] pos) (tVal (xOp isD ea eb)) := fun C => t_cmp od_is op_isA ha hb (nomark _) C
theorem t_isn (ha : PBv ct k X W a ea) (hb : PBv ct k X W b eb) : PTv ct k X W (.Compare a [.IsNot] [b] pos) (tVal (xOp isnD ea eb)) := fun C => t_cmp od_isn op_notA ha hb (nomark _) C
theorem t_in (ha : PBv ct k X W a ea) (hb : PBv ct k X W b eb) (hm : behindInMarks .In b = false := by with_unfolding_all rfl) : PTv ct k X W (.Compare a [.In] [b] pos) (tVal (xOp inD ea eb)) := fun C => t_cmp od_in (op_inAll C.room) ha hb hm C
theorem t_nin (ha : PBv ct k X W a ea) (hb : PBv ct k X W b eb) (hm : behindInMarks .NotIn b = false := by with_unfolding_all rfl) : PTv ct k X W (.Compare a [.NotIn] [b] pos) (tVal (xOp ninD ea eb)) := fun C => t_cmp od_nin (op_ninAll C.room) ha hb hm C
/-- a <= b <= c -/
theorem e_chain {op op' : CmpOp} {r r' : R2} {f g' : D → D → Res D} (hd : OpD X.K r f) (hd' : OpD X.K r' g') (ho : OpR X (compareOp op) r) (ho' : OpR X (compareOp op') r') (ha : PBv ct k X W a ea) (hb : PBv ct k X W b eb) (hc : PBv ct k X W c ec)
    (hm : lastMarks [op, op'] [b, c] = false := by with_unfolding_all rfl) : PEv ct k X W (.Compare a [op, op'] [b, c] pos) (xChain f g' ea eb ec) := fun C =>
  (pe_chain ho ho' (ha C) (hb C) (hc C) hm).imp fun σ H Q ⟨H0, F0, F, env, S, g⟩ => seq S g fun x d F1 H1 S1 g1 rx q1 => seq S1 q1 fun y e F2 H2 S2 g2 ry q2 => by
    refine hd F2 H2 x y d e _ S2.sub (rx.grow g2) ry ?_
    cases z : f d e with
    | ok w' =>
      rw [z] at q2
      intro v F' H' g3 r3
      cases w' with
      | bl kk =>
        refine ⟨kk, rp_bl r3, ?_⟩
        have q3 : Got (RE X.K) W F2 H2 σ Q (if kk = true then (ec env).bind fun w => (g' e w).calm else .ok (.bl false)) := q2
        cases kk with
        | true =>
          simp only [if_true] at q3 ⊢
          exact seq (S2.grow g3) (Got.grow g3 q3) fun w d3 F4 H4 S4 g4 rw4 q4 => hd' F4 H4 y w e d3 Q S4.sub ((ry.grow g3).grow g4) rw4 (got_wf q4)
        | false =>
          simp only [Bool.false_eq_true, if_false] at q3 ⊢
          exact q3 _ F' H' g3 (.bl false)
      | _ => exact (show False from q2).elim
    | exc c => rw [z] at q2; exact (show False from q2).elim
    | bad => rw [z] at q2; exact (show False from q2).elim
theorem e_lele (ha : PBv ct k X W a ea) (hb : PBv ct k X W b eb) (hc : PBv ct k X W c ec) (hm : lastMarks [.LtE, .LtE] [b, c] = false := by with_unfolding_all rfl) : PEv ct k X W (.Compare a [.LtE, .LtE] [b, c] pos) (xChain leD leD ea eb ec) := e_chain od_le od_le op_le op_le ha hb hc hm
theorem e_neg {i : Int} {j} {p} : PEv ct k X W (.UnaryOp .USub (.Constant (.int i) j p) pos) (xC (.int (-i))) := fun C =>
  (pe_un un_neg pe_int).imp fun σ H Q ⟨H0, F0, F, env, S, g⟩ => ⟨i, rfl, g _ F H (.refl S.sub) (.int _)⟩
end
end Pv

namespace Pv
open PySem PySem.Spec L2
theorem seqE {α β γ δ : Type} {Rel : Hp → Hp → β → α → Prop} {Rel2 : Hp → Hp → δ → γ → Prop} {W : WS} {K : PySem.W.Frag} {ev : En → Res α} {kk : α → Res γ} {Q : δ → Hp → Prop} {R : β → Hp → Prop}
    {H0 F0 F H : Hp} {σ : St} {env : En} (S : SR K H0 F0 F H σ env) (g : Got Rel2 W F H σ Q ((ev env).bind kk))
    (h : ∀ v d F1 H1, ev env = .ok d → SR K H0 F0 F1 H1 σ env → Gd F H F1 H1 → Rel F1 H1 v d → Got Rel2 W F1 H1 σ Q (kk d) → R v H1) : rd K Rel W ev σ H R := by
  refine ⟨H0, F0, F, env, S, ?_⟩
  cases e : ev env with
  | ok d => rw [e] at g; exact fun v F1 H1 gd r => h v d F1 H1 e (S.grow gd) gd r (Got.grow gd g)
  | exc c => rw [e] at g; exact g
  | bad => rw [e] at g; exact g.elim
section
variable {ct : String → Addr} {k : Nat} {X : Cx} {W : WS} {e a b c : Expr} {es : List Expr} {pos : Pos} {ev ea eb ec : Xv}
/-! ### items -/
theorem ixN_eq (n : Nat) (i : Int) : Pv.ixN n i = L2.ixN n i := rfl
theorem atI_rp {K : PySem.W.Frag} {F : Hp} {vs : List V} {ds : List D} {i : Int} {d : D} (r : RpA K F vs ds) (h : atD ds i = some d) : ∃ v, atI vs i = some v ∧ Rp K F v d := by
  unfold atD at h
  rw [ixN_eq] at h
  cases z : L2.ixN ds.length i with
  | none => rw [z] at h; cases h
  | some j =>
    rw [z] at h
    obtain ⟨v, h1, h2⟩ := r.getD (show ds[j]? = some d from h)
    refine ⟨v, ?_, h2⟩
    unfold atI
    rw [r.length, z]
    exact h1
theorem ix_seqD {K : PySem.W.Frag} {F H : Hp} {x y : V} {d e : D} {Q : VK} (hd : isDic d = false) (s : Sub F H) (rx : RBo K F H x d) (ry : RBo K F H y e) (g : Got (RE K) WF F H [] Q (ixD d e)) : rIx K x y H Q := by
  cases d with
  | lst ds =>
    cases e with
    | int i =>
      obtain ⟨p, vs, ex, hq, z, rv⟩ := bo_lst s rx
      dsimp only [ixD] at g
      cases q : atD ds i with
      | none => rw [q] at g; exact g.elim
      | some d3 =>
        rw [q] at g
        obtain ⟨v, h1, h2⟩ := atI_rp rv q
        exact .inl ⟨p, vs, i, v, ex, bo_int ry, .inl hq, h1, got_ok s g h2⟩
    | _ => exact g.elim
  | tup ds =>
    cases e with
    | int i =>
      obtain ⟨p, vs, ex, hq, z, rv, _⟩ := bo_tup s rx
      dsimp only [ixD] at g
      cases q : atD ds i with
      | none => rw [q] at g; exact g.elim
      | some d3 =>
        rw [q] at g
        obtain ⟨v, h1, h2⟩ := atI_rp rv q
        exact .inr (.inl ⟨p, vs, i, v, ex, bo_int ry, hq, h1, got_ok s g h2⟩)
    | _ => exact g.elim
  | str l =>
    cases e with
    | int i =>
      obtain ⟨ex, hx⟩ := bo_str rx
      dsimp only [ixD] at g
      cases q : atD l i with
      | none => rw [q] at g; exact g.elim
      | some c =>
        rw [q] at g
        have hc : c ∈ l := by
          unfold atD at q
          cases z : Pv.ixN l.length i with
          | none => rw [z] at q; cases q
          | some j => rw [z] at q; exact List.mem_of_getElem? q
        refine .inr (.inr ⟨tx l, i, c, ex, bo_int ry, by rw [tx_len, lim]; exact hx.1, ?_, ?_⟩)
        · rw [tx_list]; exact q
        · exact got_ok s g (.str [c] ⟨(by show (1:Nat) ≤ 16777216; decide), fun c' h => by rw [List.mem_singleton.mp h]; exact hx.2 c hc⟩)
    | _ => exact g.elim
  | dic _ => cases hd
  | _ => cases e <;> exact g.elim
theorem e_ix (ha : PBv ct k X W a ea) (hb : PBv ct k X W b eb) (hs : ∀ o i, subscripted b false o i = operate [o, i] (getItem o i) := by exact fun _ _ => rfl) : PEv ct k X W (.Subscript a b pos) (xOp ixD ea eb) := fun C =>
  ((pe_ix ix_seq (ha C) (hb C) hs).or (pe_dget (hu_of C.room) (ha C) (hb C) hs)).imp fun σ H Q ⟨H0, F0, F, env, S, g⟩ => by
    by_cases hD : ∃ kvs, ea env = .ok (.dic kvs)
    · obtain ⟨kvs, z⟩ := hD
      refine .inr (seqE S g fun x d' F1 H1 ee S1 g1 rx q1 => seq S1 q1 fun y e F2 H2 S2 g2 ry q2 => ?_)
      rw [z] at ee
      cases ee
      have q3 := got_wf q2
      cases e with
      | str m =>
        obtain ⟨a', kvs', ex, hq, _, rv⟩ := bo_dic S2.sub (rx.grow g2)
        obtain ⟨ey, hy⟩ := bo_str ry
        rcases rpk_look (key := m) rv with ⟨v, d3, h1, h2, r3⟩ | ⟨h1, h2⟩
        · refine ⟨a', v, ex, .inl ⟨kvs', Sum.inr (tx m), hq, ey, h1.symm⟩, ?_⟩
          dsimp only [ixD] at q3
          rw [h2] at q3
          exact got_ok S2.sub q3 r3
        · dsimp only [ixD] at q3
          rw [h2] at q3
          exact q3.elim
      | _ => exact q3.elim
    · refine .inl (seqE S g fun x d' F1 H1 ee S1 g1 rx q1 => seq S1 q1 fun y e F2 H2 S2 g2 ry q2 => ix_seqD ?_ S2.sub (rx.grow g2) ry (got_wf q2))
      cases d' with
      | dic kvs => exact absurd ⟨kvs, ee⟩ hD
      | _ => rfl
/-! ### slices -/
theorem sIx_eq (n d : Nat) (o : Option Int) : Pv.sIx n d o = HT.sIx n d o := by
  cases o with
  | none => rfl
  | some v =>
    have h := HT.clip_eq v n d
    unfold Pv.sIx
    dsimp only
    rw [h]
    rfl
theorem cut_len {α : Type} (xs : List α) (lo hi : Option Int) : (cutD xs lo hi).length ≤ xs.length := by
  unfold cutD
  rw [List.length_take, List.length_drop]
  omega
theorem cut_rp {K : PySem.W.Frag} {F : Hp} {vs : List V} {ds : List D} (r : RpA K F vs ds) (lo hi : Option Int) : RpA K F (cutV vs lo hi) (cutD ds lo hi) := by
  unfold cutV cutD
  rw [r.length, ← sIx_eq, ← sIx_eq]
  exact (r.drop _).take _
theorem cut_tx (l : List Nat) (lo hi : Option Int) : cutS (tx l) lo hi = tx (cutD l lo hi) := by
  apply tx_of
  unfold cutS
  simp only [tx_len, tx_list]
  unfold cutD
  rw [← sIx_eq, ← sIx_eq]
def POv (ct : String → Addr) (k : Nat) (X : Cx) (W : WS) (e : Option Expr) (o : Option Xv) : Prop := Cz ct k X W → PO X e (rd X.K (fun _ _ (x y : Option Int) => x = y) W (oI o))
theorem _root_.L2.PO.imp {X : Cx} {e : Option Expr} {t t' : TO} (h : PO X e t) (i : ∀ σ H Q, t' σ H Q → t σ H Q) : PO X e t' := ⟨fun pins s σ H Q I q => h.run pins s σ H Q I (i _ _ _ q)⟩
theorem o_none : POv ct k X W none none := fun C => po_none.imp fun σ H Q ⟨H0, F0, F, env, S, g⟩ => g none F H (.refl S.sub) rfl
theorem o_some (h : PEv ct k X W e ev) : POv ct k X W (some e) (some ev) := fun C => (po_some (h C)).imp fun σ H Q ⟨H0, F0, F, env, S, g⟩ => seq S g fun v d F1 H1 S1 g1 rv q => by
  cases d with
  | int i => exact ⟨i, bo_int (H := H1) (.inl rv), q _ F1 H1 (.refl S1.sub) rfl⟩
  | _ => exact q.elim
def rSlAll (K : PySem.W.Frag) : V → Option Int → Option Int → Hp → VK → Prop := fun x lo hi H Q => rSlL K x lo hi H Q ∨ rSlA K x lo hi H Q ∨ rSlS x lo hi H Q
theorem sl_all : SlR X (rSlAll X.K) := SlR.or sl_list (SlR.or sl_tupA sl_str)
theorem e_sl {lo hi : Option Expr} {olo ohi : Option Xv} {p2 : Pos} (ha : PBv ct k X W a ea) (hl : POv ct k X W lo olo) (hh : POv ct k X W hi ohi) : PEv ct k X W (.Subscript a (.Slice lo hi none p2) pos) (xSl ea olo ohi) := fun C =>
  (pe_slice sl_all (ha C) (hl C) (hh C)).imp fun σ H Q ⟨H0, F0, F, env, S, g⟩ => seq S g fun x d F1 H1 S1 g1 rx q1 => seq S1 q1 fun l l' F2 H2 S2 g2 el q2 => seq S2 q2 fun h h' F3 H3 S3 g3 eh q3 => by
    subst el eh
    have g4 := got_wf q3
    have rx := (rx.grow g2).grow g3
    cases d with
    | lst ds =>
      obtain ⟨p, vs, ex, hq, z, rv⟩ := bo_lst S3.sub rx
      refine .inl ⟨p, vs, ex, .inl hq, fun p' np => got_new S3.sub g4 np fun ff => .lst upd_same ?_ ((cut_rp rv _ _).mono ff)⟩
      exact Nat.le_trans (cutV_length _ _ _) z
    | tup ds =>
      obtain ⟨p, vs, ex, hq, z, rv, Rx⟩ := bo_tup S3.sub rx
      refine .inr (.inl ⟨p, vs, ex, hq, fun hw => ?_, fun _ p' np => got_new S3.sub g4 np fun ff => .tup (.inl upd_same) (Nat.le_trans (cutV_length _ _ _) z) ((cut_rp rv _ _).mono ff)⟩)
      have e : cutD ds l h = ds := by
        unfold cutD
        rw [sIx_eq, sIx_eq, ← rv.length, hw.1, hw.2, rv.length]
        simp
      have g5 : Got (RE X.K) WF F3 H3 [] Q (.ok (.tup (cutD ds l h))) := g4
      rw [e] at g5
      rw [← ex]
      exact got_ok S3.sub g5 Rx
    | str m =>
      obtain ⟨ex, hx⟩ := bo_str rx
      refine .inr (.inr ⟨tx m, ex, by rw [tx_len, lim]; exact hx.1, ?_⟩)
      rw [cut_tx]
      refine got_ok S3.sub g4 (.str _ ⟨Nat.le_trans (cut_len _ _ _) hx.1, fun c hc => hx.2 c ?_⟩)
      unfold cutD at hc
      exact List.mem_of_mem_drop (List.mem_of_mem_take hc)
    | _ => exact g4.elim
/-! ### built-ins of one argument -/
def UnD (K : PySem.W.Frag) (r : List V → Hp → VK → Prop) (f : D → Res D) : Prop := ∀ F H x d (Q : VK), Sub F H → RBo K F H x d → Got (RE K) WF F H [] Q (f d) → r [x] H Q
theorem e_blt {id : String} {r : List V → Hp → VK → Prop} {f : D → Res D} {x : Str} {p : Pos} (hd : UnD X.K r f) (hc : X.calm = true → CallR X (.builtin id) r) (hm : X.mg x = none) (hv : bootBuiltins x = some (.builtin id)) (ha : PBv ct k X W a ea)
    (hg : Gl X x := by rfl) (hn : x ≠ "__name__" := by decide) (hdb : (x == ("__debug__" : Str)) = false := by decide) (he : starEach [a] X.env = (false, eval a X.env) :: starEach [] X.env := by rfl) : PEv ct k X W (.Call (.Name x p) [a] [] pos) (xU f ea) := fun C =>
  (pe_callB (hc C.calm) hg hm hv (pa_cons (ha C) pa_nil he) hn hdb he).imp fun σ H Q ⟨H0, F0, F, env, S, g⟩ => seq S g fun v d F1 H1 S1 g1 rv q => hd F1 H1 v d Q S1.sub rv (got_wf q)
theorem e_bty {T : String} {r : List V → Hp → VK → Prop} {f : D → Res D} {x : Str} {p : Pos} (hd : UnD X.K r f) (hc : X.calm = true → CallR X (.type T) r) (hm : X.mg x = none) (hv : bootBuiltins x = some (.type T)) (ha : PBv ct k X W a ea)
    (hg : Gl X x := by rfl) (hn : x ≠ "__name__" := by decide) (hdb : (x == ("__debug__" : Str)) = false := by decide) (he : starEach [a] X.env = (false, eval a X.env) :: starEach [] X.env := by rfl) : PEv ct k X W (.Call (.Name x p) [a] [] pos) (xU f ea) := fun C =>
  (pe_callTy (hc C.calm) hg hm hv (pa_cons (ha C) pa_nil he) hn hdb he).imp fun σ H Q ⟨H0, F0, F, env, S, g⟩ => seq S g fun v d F1 H1 S1 g1 rv q => hd F1 H1 v d Q S1.sub rv (got_wf q)
def rLenA (K : PySem.W.Frag) : List V → Hp → VK → Prop := fun xs H Q => (∃ x n, xs = [x] ∧ LenV K x H n ∧ Q (.int n) H) ∨ ∃ a kvs, xs = [.ref a] ∧ Rd H a (.dK kvs) ∧ Q (.int kvs.length) H
theorem cr_lenA : CallR X (.builtin "len") (rLenA X.K) := CallR.or call_len (by
  intro pins s σ H xs us Q I r h
  obtain ⟨p, kvs, rfl, hp, q⟩ := h
  obtain ⟨u, rfl, ru⟩ := vals1 r
  cases ru
  exact d_len I hp fun t s' I' => ⟨.int _, H, I', ⟨t, rfl⟩, q⟩)
theorem ud_len {K : PySem.W.Frag} : UnD K (rLenA K) lenD := by
  intro F H x d Q s rx g
  cases d with
  | lst ds =>
    obtain ⟨p, vs, ex, hq, z, rv⟩ := bo_lst s rx
    subst ex
    refine .inl ⟨_, _, rfl, .inl ⟨vs, .inl hq, rfl⟩, ?_⟩
    rw [rv.length]
    exact got_ok s g (.int _)
  | tup ds =>
    obtain ⟨p, vs, ex, hq, z, rv, _⟩ := bo_tup s rx
    subst ex
    refine .inl ⟨_, _, rfl, .inr ⟨vs, hq, rfl⟩, ?_⟩
    rw [rv.length]
    exact got_ok s g (.int _)
  | str l =>
    obtain ⟨ex, hx⟩ := bo_str rx
    subst ex
    refine .inl ⟨_, _, rfl, ⟨by rw [tx_len, lim]; exact hx.1, rfl⟩, ?_⟩
    rw [tx_len]
    exact got_ok s g (.int _)
  | dic ds =>
    obtain ⟨p, vs, ex, hq, z, rv⟩ := bo_dic s rx
    subst ex
    refine .inr ⟨_, _, rfl, hq, ?_⟩
    rw [rv.length]
    exact got_ok s g (.int _)
  | _ => exact g.elim
theorem asBs_rp {K : PySem.W.Frag} {F : Hp} : ∀ {vs : List V} {ds : List D} {bs : List Bool}, RpA K F vs ds → asBs ds = some bs → vs = bs.map V.bl
  | _, _, bs, .nil, h => by
    have e : [] = bs := Option.some.inj h
    subst e; rfl
  | _, _, bs, .cons r t, h => by
    cases r with
    | bl b =>
      unfold asBs at h
      cases z : asBs _ with
      | none => rw [z] at h; cases h
      | some bs' =>
        rw [z] at h
        have e : b :: bs' = bs := Option.some.inj h
        subst e
        rw [asBs_rp t z]
        rfl
    | _ => cases h
theorem ud_all {K : PySem.W.Frag} : UnD K (rAll K) allD := by
  intro F H x d Q s rx g
  cases d with
  | lst ds =>
    obtain ⟨p, vs, ex, hq, z, rv⟩ := bo_lst s rx
    subst ex
    dsimp only [allD] at g
    cases q : asBs ds with
    | none => rw [q] at g; exact g.elim
    | some bs =>
      rw [q] at g
      have e := asBs_rp rv q
      subst e
      exact ⟨p, bs, rfl, .inl hq, got_ok s g (.bl _)⟩
  | _ => exact g.elim
theorem ud_any {K : PySem.W.Frag} : UnD K (rAny K) anyD := by
  intro F H x d Q s rx g
  cases d with
  | lst ds =>
    obtain ⟨p, vs, ex, hq, z, rv⟩ := bo_lst s rx
    subst ex
    dsimp only [anyD] at g
    cases q : asBs ds with
    | none => rw [q] at g; exact g.elim
    | some bs =>
      rw [q] at g
      have e := asBs_rp rv q
      subst e
      exact ⟨p, bs, rfl, .inl hq, got_ok s g (.bl _)⟩
  | _ => exact g.elim
theorem ud_int {K : PySem.W.Frag} : UnD K (fun xs H Q => (∃ i, xs = [.int i] ∧ Q (.int i) H) ∨ ∃ k, xs = [.bl k] ∧ Q (.int (if k then 1 else 0)) H) intD := by
  intro F H x d Q s rx g
  cases d with
  | int i => rw [bo_int rx]; exact .inl ⟨i, rfl, got_ok s g (.int _)⟩
  | bl b => rw [bo_bl rx]; exact .inr ⟨b, rfl, got_ok s g (.int _)⟩
  | _ => exact g.elim
theorem ud_tup {K : PySem.W.Frag} : UnD K (fun xs H Q => ∃ p ys, xs = [.ref p] ∧ ((SqL K H p ys ∧ ∀ l, H l = none → Q (.ref l) (upd H l (.tup ys))) ∨ (SqT K H p ys ∧ Q (.ref p) H))) tupD := by
  intro F H x d Q s rx g
  cases d with
  | lst ds =>
    obtain ⟨p, vs, ex, hq, z, rv⟩ := bo_lst s rx
    subst ex
    exact ⟨p, vs, rfl, .inl ⟨.inl hq, fun l nl => got_new s g nl fun ff => .tup (.inl upd_same) z (rv.mono ff)⟩⟩
  | tup ds =>
    obtain ⟨p, vs, ex, hq, z, rv, Rx⟩ := bo_tup s rx
    subst ex
    exact ⟨p, vs, rfl, .inr ⟨hq, got_ok s g Rx⟩⟩
  | _ => exact g.elim
theorem e_len {p : Pos} (hm : X.mg "len" = none) (ha : PBv ct k X W a ea) (hg : Gl X "len" := by rfl) (he : starEach [a] X.env = (false, eval a X.env) :: starEach [] X.env := by rfl) : PEv ct k X W (.Call (.Name "len" p) [a] [] pos) (xU lenD ea) := e_blt ud_len (fun _ => cr_lenA) hm PySem.boot_len ha hg (by decide) (by decide) he
theorem e_all {p : Pos} (hm : X.mg "all" = none) (ha : PBv ct k X W a ea) (hg : Gl X "all" := by rfl) (he : starEach [a] X.env = (false, eval a X.env) :: starEach [] X.env := by rfl) : PEv ct k X W (.Call (.Name "all" p) [a] [] pos) (xU allD ea) := e_blt ud_all (fun h => cr_all h) hm (by decide +kernel) ha hg (by decide) (by decide) he
theorem e_any {p : Pos} (hm : X.mg "any" = none) (ha : PBv ct k X W a ea) (hg : Gl X "any" := by rfl) (he : starEach [a] X.env = (false, eval a X.env) :: starEach [] X.env := by rfl) : PEv ct k X W (.Call (.Name "any" p) [a] [] pos) (xU anyD ea) := e_blt ud_any (fun h => cr_any h) hm (by decide +kernel) ha hg (by decide) (by decide) he
theorem e_toint {p : Pos} (hm : X.mg "int" = none) (ha : PBv ct k X W a ea) (hg : Gl X "int" := by rfl) (he : starEach [a] X.env = (false, eval a X.env) :: starEach [] X.env := by rfl) : PEv ct k X W (.Call (.Name "int" p) [a] [] pos) (xU intD ea) := e_bty ud_int (fun _ => call_int1) hm (by decide +kernel) ha hg (by decide) (by decide) he
theorem e_totup {p : Pos} (hm : X.mg "tuple" = none) (ha : PBv ct k X W a ea) (hg : Gl X "tuple" := by rfl) (he : starEach [a] X.env = (false, eval a X.env) :: starEach [] X.env := by rfl) : PEv ct k X W (.Call (.Name "tuple" p) [a] [] pos) (xU tupD ea) := e_bty ud_tup (fun _ => call_tuple_of) hm (by decide +kernel) ha hg (by decide) (by decide) he
/-! ### isinstance(x, T) -/
def tyN : Ty → String
  | .int => "int" | .bool => "bool" | .str => "str" | .tuple => "tuple" | .list => "list"
theorem kit_one {K : PySem.W.Frag} : ∀ T : Ty, PySem.W.kitOne K (.type "NoneType") (.type (tyN T)) = some false ∧ PySem.W.kitOne K (.type "bool") (.type (tyN T)) = some (match T with | .int => true | .bool => true | _ => false) ∧
    PySem.W.kitOne K (.type "int") (.type (tyN T)) = some (match T with | .int => true | _ => false) ∧ PySem.W.kitOne K (.type "str") (.type (tyN T)) = some (match T with | .str => true | _ => false) ∧
    PySem.W.kitOne K (.type "tuple") (.type (tyN T)) = some (match T with | .tuple => true | _ => false) ∧ PySem.W.kitOne K (.type "list") (.type (tyN T)) = some (match T with | .list => true | _ => false) ∧
    PySem.W.kitOne K (.type "dict") (.type (tyN T)) = some false := by
  intro T
  cases T <;> exact ⟨kit_ty (by decide +kernel), kit_ty (by decide +kernel), kit_ty (by decide +kernel), kit_ty (by decide +kernel), kit_ty (by decide +kernel), kit_ty (by decide +kernel), kit_ty (by decide +kernel)⟩
theorem isi_read {K : PySem.W.Frag} {F H : Hp} {x : V} {d : D} {Q : VK} {T : Ty} (s : Sub F H) (rx : RBo K F H x d) (g : Got (RE K) WF F H [] Q (isiD T d)) : rIsi K [x, .ty (tyN T)] H Q := by
  obtain ⟨k1, k2, k3, k4, k5, k6, k7⟩ := kit_one (K := K) T
  have fin : ∀ (t : String) (bb : Bool), TyX K H x (.type t) → PySem.W.kitOne K (.type t) (.type (tyN T)) = some bb → isiB T d = some bb → rIsi K [x, .ty (tyN T)] H Q := fun t bb ty kk e => by
    unfold isiD at g
    rw [e] at g
    exact ⟨x, _, _, _, bb, rfl, .ty _, ty, kk, got_ok s g (.bl _)⟩
  rcases rx with r | ⟨a, e, _, r⟩
  · cases r with
    | non => exact fin _ _ (.base .non) k1 (by cases T <;> rfl)
    | bl b => exact fin _ _ (.base (.bl b)) k2 (by cases T <;> rfl)
    | int i => exact fin _ _ (.base (.int i)) k3 (by cases T <;> rfl)
    | str l z => exact fin _ _ (.base (.str _)) k4 (by cases T <;> rfl)
    | tup q z r =>
      refine fin "tuple" _ ?_ k5 (by cases T <;> rfl)
      rcases s.tup q with (h | ⟨o, h⟩) | ⟨o, its, n, h1, h2, _⟩
      · exact .base (.tup h)
      · exact .fTuple h
      · exact .kTuple h1 h2
    | lst q z r =>
      refine fin "list" _ ?_ k6 (by cases T <;> rfl)
      rcases s _ _ q with h | ⟨o, h⟩
      · exact .base (.lst h)
      · exact .base (.frz h)
    | dic q z r =>
      refine fin "dict" _ ?_ k7 (by cases T <;> rfl)
      rcases s _ _ q with h | ⟨o, h⟩
      · exact .base (.dK h)
      · exact .fDict h
    | obj a =>
      unfold isiD at g
      cases T <;> exact g.elim
    | fn a =>
      unfold isiD at g
      cases T <;> exact g.elim
  · subst e
    cases r with
    | lst q z r => exact fin "list" _ (.base (.lst q)) k6 (by cases T <;> rfl)
    | dic q z r => exact fin "dict" _ (.base (.dK q)) k7 (by cases T <;> rfl)
theorem e_isi {p p2 : Pos} {x : Str} (T : Ty) (hm : X.mg "isinstance" = none) (hmx : X.mg x = none) (hx : bootBuiltins x = some (.type (tyN T))) (ha : PBv ct k X W a ea) (hg : Gl X "isinstance" := by rfl) (hgx : Gl X x := by rfl) (hnx : x ≠ "__name__" := by decide) (hdx : (x == ("__debug__" : Str)) = false := by decide)
    (he : starEach [a, .Name x p2] X.env = (false, eval a X.env) :: starEach [.Name x p2] X.env := by rfl) (he2 : starEach [.Name x p2] X.env = (false, eval (.Name x p2) X.env) :: starEach [] X.env := by rfl)
    (hpl : (backTo pos (starEach [.Name x p2] X.env)).any (·.1) = false := by rfl) : PEv ct k X W (.Call (.Name "isinstance" p) [a, .Name x p2] [] pos) (xU (isiD T) ea) := fun C =>
  (pe_callB call_isi hg hm (by decide +kernel) (pa_cons (ha C) (pa_cons (pe_bltn (v := .ty (tyN T)) hgx hmx hx rfl hnx hdx) pa_nil he2) he) (by decide) (by decide) he hpl).imp fun σ H Q ⟨H0, F0, F, env, S, g⟩ => seq S g fun v d F1 H1 S1 g1 rv q => isi_read S1.sub rv (got_wf q)
/-! ### methods -/
theorem e_get1 {apos : Pos} (ha : PBv ct k X W a ea) (hb : PEv ct k X W b eb) (hbase : attributeBase a "get" X.env (eval a X.env) = eval a X.env := by rfl)
    (few : ((backTo pos (starEach [b] X.env)).all (fun x => !x.1) && (backToKw pos (keywordEach [] X.env)).all (fun x => x.1.isSome) && decide (([b] : List Expr).length + ([] : List Keyword).length + (if ([] : List Keyword).isEmpty then 0 else 1) < 30)) = true := by rfl)
    (line : (apos.endLine == pos.line) = true := by rfl) (trees : backTo pos (starEach [b] X.env) = [(false, eval b X.env)] := by rfl) : PEv ct k X W (.Call (.Attribute a "get" apos) [b] [] pos) (xM isDic get1 ea eb) := fun C =>
  (pe_dget1 (hu_of C.room) (ha C) (hb C) ⟨hbase, few, line, trees⟩).imp fun σ H Q ⟨H0, F0, F, env, S, g⟩ => seq S g fun x d F1 H1 S1 g1 rx q1 => by
    cases d with
    | dic ds =>
      obtain ⟨p, kvs, ex, hq, z, rv⟩ := bo_dic S1.sub rx
      refine ⟨p, ex, .inl ⟨kvs, hq⟩, seq S1 q1 fun y e F2 H2 S2 g2 ry q2 => ?_⟩
      have q3 := got_wf q2
      cases e with
      | str m =>
        obtain ⟨p', kvs', ex', hq', z', rv'⟩ := bo_dic S2.sub (rx.grow g2)
        rw [ex] at ex'
        cases ex'
        obtain ⟨ey, hy⟩ := bo_str (H := H2) (.inl ry)
        refine ⟨_, .inl ⟨kvs', Sum.inr (tx m), hq', ey, rfl⟩, ?_⟩
        dsimp only [get1] at q3
        rcases rpk_look (key := m) rv' with ⟨v, d3, h1, h2, r3⟩ | ⟨h1, h2⟩
        · rw [h1]; rw [h2] at q3; exact got_ok S2.sub q3 r3
        · rw [h1]; rw [h2] at q3; exact got_ok S2.sub q3 .non
      | _ => exact q3.elim
    | _ => exact q1.elim
theorem e_get2 {apos : Pos} (ha : PBv ct k X W a ea) (hb : PEv ct k X W b eb) (hc : PEv ct k X W c ec) (hbase : attributeBase a "get" X.env (eval a X.env) = eval a X.env := by rfl)
    (few : ((backTo pos (starEach [b, c] X.env)).all (fun x => !x.1) && (backToKw pos (keywordEach [] X.env)).all (fun x => x.1.isSome) && decide (([b, c] : List Expr).length + ([] : List Keyword).length + (if ([] : List Keyword).isEmpty then 0 else 1) < 30)) = true := by rfl)
    (line : (apos.endLine == pos.line) = true := by rfl) (trees : backTo pos (starEach [b, c] X.env) = [(false, eval b X.env), (false, eval c X.env)] := by rfl) : PEv ct k X W (.Call (.Attribute a "get" apos) [b, c] [] pos) (xM2 isDic get2 ea eb ec) := fun C =>
  (pe_dget2 (hu_of C.room) (ha C) (hb C) (hc C) ⟨hbase, few, line, trees⟩).imp fun σ H Q ⟨H0, F0, F, env, S, g⟩ => seq S g fun x d F1 H1 S1 g1 rx q1 => by
    cases d with
    | dic ds =>
      obtain ⟨p, kvs, ex, hq, z, rv⟩ := bo_dic S1.sub rx
      refine ⟨p, ex, .inl ⟨kvs, hq⟩, seq S1 q1 fun y e F2 H2 S2 g2 ry q2 => seq S2 q2 fun w dw F3 H3 S3 g3 rw3 q4 => ?_⟩
      have q3 := got_wf q4
      cases e with
      | str m =>
        obtain ⟨p', kvs', ex', hq', z', rv'⟩ := bo_dic S3.sub ((rx.grow g2).grow g3)
        rw [ex] at ex'
        cases ex'
        obtain ⟨ey, hy⟩ := bo_str (H := H2) (.inl ry)
        refine ⟨_, .inl ⟨kvs', Sum.inr (tx m), hq', ey, rfl⟩, ?_⟩
        dsimp only [get2] at q3
        rcases rpk_look (key := m) rv' with ⟨v, d3, h1, h2, r3⟩ | ⟨h1, h2⟩
        · rw [h1]; rw [h2] at q3; exact got_ok S3.sub q3 r3
        · rw [h1]; rw [h2] at q3; exact got_ok S3.sub q3 rw3
      | _ => exact q3.elim
    | _ => exact q1.elim
theorem asSs_rp {K : PySem.W.Frag} {F : Hp} : ∀ {vs : List V} {ds : List D} {ls : List (List Nat)}, RpA K F vs ds → asSs ds = some ls → vs = (ls.map tx).map V.str ∧ ds.length = ls.length ∧ ∀ l ∈ ls, okS l
  | _, _, ls, .nil, h => by
    have e : [] = ls := Option.some.inj h
    subst e; exact ⟨rfl, rfl, fun _ h => nomatch h⟩
  | _, _, ls, .cons r t, h => by
    cases r with
    | str l z =>
      unfold asSs at h
      cases q : asSs _ with
      | none => rw [q] at h; cases h
      | some ls' =>
        rw [q] at h
        have e : l :: ls' = ls := Option.some.inj h
        subst e
        obtain ⟨h1, h2, h3⟩ := asSs_rp t q
        refine ⟨by rw [h1]; rfl, by simp [h2], fun m hm => ?_⟩
        rcases List.mem_cons.mp hm with e | hm
        · rw [e]; exact z
        · exact h3 m hm
    | _ => cases h
end
end Pv

namespace Pv
open PySem PySem.Spec L2
/-! ### iterators that hand out pairs -/
def ItP (n : Nat) (C : Hp → Prop) (R1 R2 : Nat → V → Prop) : It :=
  ⟨fun i H => i < n ∧ C H, fun i H v H' => ∃ T x y, v = .ref T ∧ H T = none ∧ H' = upd H T (.tup [x, y]) ∧ R1 i x ∧ R2 i y, fun i H => i = n ∧ C H⟩
theorem turn_goes {P : Program} {w : World} {K : PySem.W.Frag} {tg : Expr} {it : Addr} {fp fp' wr : List Addr} {n : Nat} {P1 P2 : Nat → Value → Prop} {R1 R2 : Nat → V → Prop} {St tn : Nat → Heap → Prop} (C : Hp → Prop)
    (G : ∀ A : Around, A.handled = none → GoesN P w A tg it fp' wr n (fun i h0 v h => ∃ T x y, v = .ref T ∧ h0.objs.size ≤ T ∧ P1 i x ∧ P2 i y ∧ h.IsTuple T #[x, y]) St)
    (up : ∀ (X : Cx) pins σ H s i, X.K = K → Inv X pins σ H s → C H → tn i s.heap → St i s.heap) (down : ∀ i h, St i h → tn i h) (hw : ∀ b ∈ wr, b ∈ fp) (hm : it ∈ fp)
    (obj : ∀ i h, tn i h → ∀ b ∈ fp, ∃ o, h.get? b = some o ∧ ∀ v, o.data ≠ .cell v) (keep : ∀ i h h', tn i h → (∀ b ∈ fp, ∀ o, h.get? b = some o → h'.get? b = some o) → tn i h')
    (self : ∀ (A : Around) (i : Nat) (s : Shared) (Q : Value → Shared → Prop) (E : Value → Shared → Prop), tn i s.heap → Q (.ref it) s → wpAny (model P w) A (pyIter (.ref it)) Q E s)
    (h1 : ∀ i x, P1 i x → ∃ v, RelV v x ∧ R1 i v) (h2 : ∀ i x, P2 i x → ∃ v, RelV v x ∧ R2 i v) : Turn P w K tg (ItP n C R1 R2) fp it tn where
  mem := hm
  obj := obj
  keep := keep
  item := by
    intro X hP hw' hK hc i pins s σ H E I hf st hg
    subst hP hw'
    refine (G X.A (I.ok.hd hc)).goes i s (fun u s2 => ∃ x H', Inv X pins σ H' s2 ∧ RelV x u ∧ (ItP n C R1 R2).yld i H x H' ∧ tn (i + 1) s2.heap ∧ ∀ b ∈ fp, H' b = none) E hg.1 (up X pins σ H s i hK I hg.2 st) fun v h' tk hY st' hk htk => ?_
    obtain ⟨T, x, y, rfl, hT, p1, p2, ht⟩ := hY
    obtain ⟨xv, rx, r1⟩ := h1 i x p1
    obtain ⟨yv, ry, r2⟩ := h2 i y p2
    have new : ObjOk X.prog X.w (upd H T (.tup [xv, yv])) h' T (.tup [xv, yv]) := ⟨by show 2 ≤ sizeLine; decide, [x, y], .cons rx (.cons ry .nil), ht⟩
    have I1 : Inv X pins σ (upd H T (.tup [xv, yv])) { s with heap := h', toks := tk } := I.turnedNew (ch := wr) hk (fun b hb => hf b (hw b hb)) hT new
    refine ⟨.ref T, _, I1, rfl, ⟨T, xv, yv, rfl, I.hok.fresh hT, rfl, r1, r2⟩, down _ _ st', fun b hb => ?_⟩
    obtain ⟨o, ho, _⟩ := obj i s.heap st b hb
    have hlt : b < T := Nat.lt_of_lt_of_le (Heap.lt_size ho) hT
    rw [upd_ne (Nat.ne_of_lt hlt)]
    exact (hf b hb).1
  done := by
    intro X hP hw' hK hc i pins s σ H E I hf st hg
    subst hP hw'
    obtain ⟨rfl, hC⟩ := hg
    exact (G X.A (I.ok.hd hc)).stops s (fun s1 => Inv X pins σ H s1) E (up X pins σ H s _ hK I hC st) fun h' tk hk htk => I.turnedL (ch := wr) hk fun b hb => hf b (hw b hb)
  self := self
/-- signs of a text -/
def SgR (x : Str) : Nat → V → Prop := fun i v => ∃ c, x.cps[i]? = some c ∧ v = .str ⟨#[c]⟩
theorem sg_of {x : Str} (i : Nat) (v : Value) (h : ∃ c u, x.cps[i]? = some c ∧ v = .str ⟨#[c]⟩ u) : ∃ z, RelV z v ∧ SgR x i z := by
  obtain ⟨c, u, h1, rfl⟩ := h
  exact ⟨.str ⟨#[c]⟩, ⟨u, rfl⟩, c, h1, rfl⟩
theorem strIter_obj {h : Heap} {it : Addr} {ty : String} {x : Str} {t : Tok} {i : Nat} (st : h.IsStrIter it ty x t i) : ∃ o, h.get? it = some o ∧ ∀ v, o.data ≠ .cell v := by
  obtain ⟨o, ho, _, hd⟩ := st
  exact ⟨o, ho, fun v q => by rw [hd] at q; cases q⟩
theorem strIter_at {h h' : Heap} {it : Addr} {ty : String} {x : Str} {t : Tok} {i : Nat} (st : h.IsStrIter it ty x t i) (k : ∀ o, h.get? it = some o → h'.get? it = some o) : h'.IsStrIter it ty x t i := by
  obtain ⟨o, ho, r⟩ := st
  exact ⟨o, k o ho, r⟩
/-- enumerate(text) -/
theorem turn_enumS {P : Program} {w : World} {K : PySem.W.Frag} {elts : List Expr} {kk : Nat} {tpos : Pos} (x : Str) (t : Tok) (e it : Addr) (hne : e ≠ it) :
    Turn P w K (.Tuple elts kk tpos) (ItP x.cps.size NoL (fun i v => v = .int (i : Nat)) (SgR x)) [e, it] e (fun i h => (∃ old, IsEnum h e it ((0 : Int) + (i : Int)) old) ∧ h.IsStrIter it (strIterType x) x t i) := by
  refine turn_goes (fp' := [e, it]) (wr := [e, it]) (P1 := fun i v => ∃ t, v = .int ((0 : Int) + (i : Int)) t) (P2 := fun i v => ∃ c u, x.cps[i]? = some c ∧ v = .str ⟨#[c]⟩ u) NoL
    (fun A hh => (GoesN.enumFrom 0 (Draws.text (A := A.in1) hh it x t) e hne (by simpa using hne) (by simp)).mono fun i h0 v h _ ⟨T, t', y, ev, hn, hp, hT⟩ => ⟨T, _, y, ev, hn, ⟨t', rfl⟩, hp, hT⟩)
    (fun X pins σ H s i _ I _ st => st) (fun i h st => st) (fun b hb => hb) (by simp) (fun i h st b hb => ?_) (fun i h h' st k => ?_) (fun A i s Q E st h => ?_) (fun i v h => ?_) (fun i v h => sg_of i v h)
  · obtain ⟨⟨old, he⟩, hi⟩ := st
    have e' : b = e ∨ b = it := by simpa using hb
    rcases e' with z | z
    · rw [z]; exact ⟨_, he, fun v q => nomatch q⟩
    · rw [z]; exact strIter_obj hi
  · obtain ⟨⟨old, he⟩, hi⟩ := st
    exact ⟨⟨old, k e (by simp) _ he⟩, strIter_at hi fun o q => k it (by simp) o q⟩
  · obtain ⟨⟨old, he⟩, hi⟩ := st
    exact wpAny_pyIter_enum he h
  · obtain ⟨t', rfl⟩ := h
    exact ⟨.int ((0 : Int) + (i : Int)), ⟨t', rfl⟩, by simp⟩
/-- zip(text, text) -/
theorem turn_zipS {P : Program} {w : World} {K : PySem.W.Frag} {elts : List Expr} {kk : Nat} {tpos : Pos} (x y : Str) (t u : Tok) (N : Nat) :
    Turn P w K (.Tuple elts kk tpos) (ItP (min x.cps.size y.cps.size) NoL (SgR x) (SgR y)) [N + 4, N + 2, N + 3, N, N + 1] (N + 4) (fun i h => IsZip h (N + 4) (N + 2) (N + 3) .none ∧ IsTupOf2 h (N + 2) (.ref N) (.ref (N + 1)) ∧ (∃ a1 a2, IsTupOf2 h (N + 3) a1 a2) ∧ h.IsStrIter N (strIterType x) x t i ∧ h.IsStrIter (N + 1) (strIterType y) y u i) := by
  refine turn_goes (fp' := (N + 4) :: (N + 2) :: (N + 3) :: ([N] ++ [N + 1])) (wr := [N + 4, N + 3, N, N + 1]) NoL
    (fun A hh => GoesN.zip2 (zip_sep2 (N := N) (fp1 := []) (fp2 := []) (fun _ h => nomatch h) (fun _ h => nomatch h)) (Draws.text (A := A.in1) hh N x t) (Draws.text (A := A.in1) hh (N + 1) y u))
    (fun X pins σ H s i _ I _ st => st) (fun i h st => st) (fun b hb => ?_) (by simp) (fun i h st b hb => ?_) (fun i h h' st k => ?_) (fun A i s Q E st h => wpAny_pyIter_zip st.1 h) (fun i v h => sg_of i v h) (fun i v h => sg_of i v h)
  · simp only [List.mem_cons, List.not_mem_nil, or_false] at hb ⊢
    rcases hb with h | h | h | h <;> simp [h]
  · obtain ⟨hz, hI, ⟨a1, a2, hO⟩, h1, h2⟩ := st
    have e' : b = N + 4 ∨ b = N + 2 ∨ b = N + 3 ∨ b = N ∨ b = N + 1 := by simpa using hb
    rcases e' with z | z | z | z | z
    · rw [z]; exact ⟨_, hz, fun v q => nomatch q⟩
    · rw [z]; exact ⟨_, hI, fun v q => nomatch q⟩
    · rw [z]; exact ⟨_, hO, fun v q => nomatch q⟩
    · rw [z]; exact strIter_obj h1
    · rw [z]; exact strIter_obj h2
  · obtain ⟨hz, hI, ⟨a1, a2, hO⟩, h1, h2⟩ := st
    exact ⟨k _ (by simp) _ hz, k _ (by simp) _ hI, ⟨a1, a2, k _ (by simp) _ hO⟩, strIter_at h1 fun o q => k _ (by simp) o q, strIter_at h2 fun o q => k _ (by simp) o q⟩
/-- enumerate(tuple) -/
theorem turn_enumT {P : Program} {w : World} {K : PySem.W.Frag} {elts : List Expr} {kk : Nat} {tpos : Pos} (a e it : Addr) (xs : List V) (hne : e ≠ it) (hai : a ≠ it) (hae : e ≠ a) :
    Turn P w K (.Tuple elts kk tpos) (ItP xs.length (fun H => SqT K H a xs) (fun i v => v = .int (i : Nat)) (fun i v => xs[i]? = some v)) [e, it] e (fun i h => (∃ old, IsEnum h e it ((i : Nat) : Int) old) ∧ h.IsTupleIter it a i) where
  mem := by simp
  obj := fun i h st b hb => by
    obtain ⟨⟨old, he⟩, ⟨o, ho, hc, hd⟩⟩ := st
    have e' : b = e ∨ b = it := by simpa using hb
    rcases e' with z | z
    · rw [z]; exact ⟨_, he, fun v q => nomatch q⟩
    · rw [z]; exact ⟨o, ho, fun v q => by rw [hd] at q; cases q⟩
  keep := fun i h h' st k => let ⟨⟨old, he⟩, hi⟩ := st; ⟨⟨old, k e (by simp) _ he⟩, hi.at fun o q => k it (by simp) o q⟩
  item := by
    intro X hP hw' hK hc i pins s σ H E I hf st hg
    subst hP hw' hK
    obtain ⟨its, rv, ht, _⟩ := I.tuple hg.2
    have G := GoesN.enumFrom (prog := X.prog) (w := X.w) (A := X.A) (elts := elts) (x1 := kk) (pos := tpos) 0 (Draws.tuple (A := X.A.in1) (I.ok.hd hc) it a hai its.toArray) e hne (by simp [hne, hae]) (by simp)
    have hn : i < its.toArray.size := by rw [List.size_toArray, ← rv.length]; exact hg.1
    refine G.goes i s (fun u s2 => ∃ x H', Inv X pins σ H' s2 ∧ RelV x u ∧ (ItP xs.length (fun H => SqT X.K H a xs) (fun i v => v = .int (i : Nat)) (fun i v => xs[i]? = some v)).yld i H x H' ∧ ((∃ old, IsEnum s2.heap e it ((i + 1 : Nat) : Int) old) ∧ s2.heap.IsTupleIter it a (i + 1)) ∧ ∀ b ∈ [e, it], H' b = none) E hn
      ⟨by simpa using st.1, st.2, ht⟩ fun v h' tk hY st' hk htk => ?_
    obtain ⟨T, t', x, rfl, hT, hx, htup⟩ := hY
    have hx' : its[i]? = some x := by simpa using hx
    have hxi : i < xs.length := hg.1
    obtain ⟨u, hu, ru⟩ := rv.get (List.getElem?_eq_getElem hxi)
    rw [hx'] at hu
    cases hu
    have new : ObjOk X.prog X.w (upd H T (.tup [.int (i : Nat), xs[i]])) h' T (.tup [.int (i : Nat), xs[i]]) := ⟨by show 2 ≤ sizeLine; decide, [.int ((0 : Int) + (i : Int)) t', x], .cons ⟨t', by simp⟩ (.cons ru .nil), htup⟩
    have I1 : Inv X pins σ (upd H T (.tup [.int (i : Nat), xs[i]])) { s with heap := h', toks := tk } := I.turnedNew (ch := [e, it]) hk hf hT new
    refine ⟨.ref T, _, I1, rfl, ⟨T, _, _, rfl, I.hok.fresh hT, rfl, rfl, List.getElem?_eq_getElem hxi⟩, ⟨?_, st'.2.1⟩, fun b hb => ?_⟩
    · obtain ⟨old, ho⟩ := st'.1
      exact ⟨old, by simpa using ho⟩
    · obtain ⟨⟨old, he⟩, ⟨o, ho, _, _⟩⟩ := st
      have hlt : b < T := by
        have e' : b = e ∨ b = it := by simpa using hb
        rcases e' with z | z
        · rw [z]; exact Nat.lt_of_lt_of_le (Heap.lt_size he) hT
        · rw [z]; exact Nat.lt_of_lt_of_le (Heap.lt_size ho) hT
      rw [upd_ne (Nat.ne_of_lt hlt)]
      exact (hf b hb).1
  done := by
    intro X hP hw' hK hc i pins s σ H E I hf st hg
    subst hP hw' hK
    obtain ⟨rfl, hC⟩ := hg
    obtain ⟨its, rv, ht, _⟩ := I.tuple hC
    have G := GoesN.enumFrom (prog := X.prog) (w := X.w) (A := X.A) (elts := elts) (x1 := kk) (pos := tpos) 0 (Draws.tuple (A := X.A.in1) (I.ok.hd hc) it a hai its.toArray) e hne (by simp [hne, hae]) (by simp)
    have hn : its.toArray.size = xs.length := by rw [List.size_toArray]; exact rv.length.symm
    refine G.stops s (fun s1 => Inv X pins σ H s1) E ?_ fun h' tk hk htk => I.turnedL (ch := [e, it]) hk hf
    rw [hn]
    exact ⟨by simpa using st.1, st.2, ht⟩
  self := fun A i s Q E st h => let ⟨⟨_, he⟩, _⟩ := st; wpAny_pyIter_enum he h
theorem meets_enumB1 {v : Value} {o : Obj} {H : Heap → Prop} (B : Begins v o H) : Meets (Builtin.«enumerate.__new__» ⟨[.type "enumerate", v], []⟩) (fun _ R s => H s.heap ∧
    R (.ok (.ret (.ref (s.heap.push o).objs.size))) { s with heap := (s.heap.push o).push { cls := .type "enumerate", data := .fields #[.none, .bool false, .ref s.heap.objs.size, rawInt 0, .none, .none] } }) :=
  .of_wp fun prog w A R s h => by
    obtain ⟨hp, g, d, tk, os⟩ := s; obtain ⟨h1, h⟩ := h
    have hsub := sub_enumerate
    have q1 : ∀ {A' : Around} {E : Value → Shared → Prop} {Q : Value → Shared → Prop}, Q (.ref hp.objs.size) ⟨hp.push o, g, d, tk, os⟩ → wpAny (model prog w) A' (pyIter v) Q E ⟨hp, g, d, tk, os⟩ :=
      fun q => B.iter prog w _ _ ⟨hp, g, d, tk, os⟩ _ h1 q
    wp_walk using q1
    refine wpAny_stack_any fun st => wpAny_pure ?_
    split
    · rename_i c _ _ _ _ _
      cases (c == Value.type "enumerate")
      · wp_walk using q1
        exact ⟨_, rfl, h⟩
      · wp_walk using q1
        exact ⟨_, rfl, h⟩
    · wp_walk using q1
      exact ⟨_, rfl, h⟩
theorem call_enumB1 {prog : Program} {w : World} {A : Around} {E : Value → Shared → Prop} {s : Shared} {v : Value} {o : Obj} {H : Heap → Prop} {Q : Value → Shared → Prop} (B : Begins v o H) (h1 : H s.heap)
    (h : ∀ h', IsEnum h' (s.heap.objs.size + 1) s.heap.objs.size 0 .none → h'.get? s.heap.objs.size = some o → h'.objs.size = s.heap.objs.size + 2 →
      (∀ b o, s.heap.get? b = some o → h'.get? b = some o) → Q (.ref (s.heap.objs.size + 1)) { s with heap := h' }) :
    wpAny (model prog w) A (call (.type "enumerate") [v]) Q E s := by
  refine callType_new F.called_enumerate (by decide) (F.typeCall_enumerate_1 _) (F.newCall_enumerate_1 _) (fun obj => F.args_object_init_2 obj _) F.entry_enumerate_new (meets_enumB1 B) ⟨h1, ?_⟩
  have hz : (s.heap.push o).objs.size = s.heap.objs.size + 1 := Heap.size_push ..
  show _ ∧ _
  rw [hz]
  have he : IsEnum ((s.heap.push o).push { cls := .type "enumerate", data := .fields #[.none, .bool false, .ref s.heap.objs.size, rawInt 0, .none, .none] }) (s.heap.objs.size + 1) s.heap.objs.size 0 .none := by
    have := Heap.get?_push_size (s.heap.push o) (o := { cls := .type "enumerate", data := .fields #[.none, .bool false, .ref s.heap.objs.size, rawInt 0, .none, .none] }) rfl
    rw [hz] at this; exact this
  refine ⟨⟨_, he, rfl⟩, h _ he (Heap.get?_push_of_some _ (Heap.get?_push_size _ B.free)) (by rw [Heap.size_push, hz]) fun b o x => Heap.get?_push_of_some _ (Heap.get?_push_of_some _ x)⟩
/-! ### as walks -/
def iEnumX (K : PySem.W.Frag) (ta : TA) : TI := fun σ H R => ta σ H fun vs H1 => ∃ v, vs = [v] ∧ ((∃ a xs, v = .ref a ∧ SqT K H1 a xs ∧ R (ItP xs.length (fun H => SqT K H a xs) (fun i v => v = .int (i : Nat)) (fun i v => xs[i]? = some v)) H1) ∨
  ∃ x, v = .str x ∧ R (ItP x.cps.size NoL (fun i v => v = .int (i : Nat)) (SgR x)) H1)
theorem pi_enumX {X : Cx} {e : Expr} {ta : TA} {p pos tpos : Pos} {elts : List Expr} {kk : Nat} (hg : Gl X "enumerate") (hm : X.mg "enumerate" = none) (ha : PA X [e] ta) (hs : starEach [e] X.env = [(false, eval e X.env)] := by rfl) :
    PI X (.Tuple elts kk tpos) (.Call (.Name "enumerate" p) [e] [] pos) (iEnumX X.K ta) := by
  refine ⟨fun pins s σ H R I h => ?_⟩
  refine PyProof.Rows.Call_ (ld_blt I hg hm PyProof.Rows.boot_enumerate (PyProof.Rows.callWith_type1 (thn (ha.run pos pins s σ H _ I h) fun us s1 ⟨vs, H1, I1, r1, q1⟩ => ?_) hs rfl))
  obtain ⟨v, rfl, q1⟩ := q1
  obtain ⟨u, rfl, ru⟩ := vals1 r1
  have fresh2 : ∀ b ∈ [s1.heap.objs.size + 1, s1.heap.objs.size], FpOk X pins H1 b := fun b hb => by
    have e' : b = s1.heap.objs.size + 1 ∨ b = s1.heap.objs.size := by simpa using hb
    have hle : s1.heap.objs.size ≤ b := by
      rcases e' with z | z
      · rw [z]; exact Nat.le_add_right _ _
      · rw [z]; exact Nat.le_refl _
    exact I1.fpOk hle (I1.hok.fresh hle)
  rcases q1 with ⟨a, xs, rfl, hq, q⟩ | ⟨x, rfl, q⟩
  · cases ru
    obtain ⟨its, rv, ht, _⟩ := I1.tuple hq
    have hlt : a < s1.heap.objs.size := ht.lt
    refine call_enumB1 (begins_tuple a its.toArray) ht fun h' he hit hsz hk => wpAny_pyIter_enum he ?_
    have I2 : Inv X pins σ H1 { s1 with heap := h' } := I1.kept (t' := s1.toks) hk
    exact ⟨s1.heap.objs.size + 1, [s1.heap.objs.size + 1, s1.heap.objs.size], _, _, H1, rfl, I2, turn_enumT a (s1.heap.objs.size + 1) s1.heap.objs.size xs (Nat.succ_ne_self _) (Nat.ne_of_lt hlt) (Nat.ne_of_gt (Nat.lt_succ_of_lt hlt)), ⟨⟨.none, he⟩, ⟨_, hit, rfl, rfl⟩⟩, fresh2, q⟩
  · obtain ⟨t, rfl⟩ := ru
    refine call_enumB1 (begins_text x t) trivial fun h' he hit hsz hk => wpAny_pyIter_enum he ?_
    have I2 : Inv X pins σ H1 { s1 with heap := h' } := I1.kept (t' := s1.toks) hk
    exact ⟨s1.heap.objs.size + 1, [s1.heap.objs.size + 1, s1.heap.objs.size], _, _, H1, rfl, I2, turn_enumS x t (s1.heap.objs.size + 1) s1.heap.objs.size (Nat.succ_ne_self _), ⟨⟨.none, he⟩, ⟨_, hit, rfl, rfl⟩⟩, fresh2, q⟩
def iZipS (ta : TA) : TI := fun σ H R => ta σ H fun vs H1 => ∃ x y, vs = [.str x, .str y] ∧ R (ItP (min x.cps.size y.cps.size) NoL (SgR x) (SgR y)) H1
theorem pi_zipS {X : Cx} {e e2 : Expr} {ta : TA} {p pos tpos : Pos} {elts : List Expr} {kk : Nat} (hg : Gl X "zip") (hm : X.mg "zip" = none) (ha : PA X [e, e2] ta)
    (hs : starEach [e, e2] X.env = (false, eval e X.env) :: starEach [e2] X.env := by rfl) (hpl : (backTo pos (starEach [e2] X.env)).any (·.1) = false := by rfl) :
    PI X (.Tuple elts kk tpos) (.Call (.Name "zip" p) [e, e2] [] pos) (iZipS ta) := by
  refine ⟨fun pins s σ H R I h => ?_⟩
  refine PyProof.Rows.Call_ (ld_blt I hg hm PyProof.Rows.boot_zip (PyProof.Rows.callWith_type1 (thn (ha.run pos pins s σ H _ I h) fun us s1 ⟨vs, H1, I1, r1, q1⟩ => ?_) hs hpl))
  obtain ⟨x, y, rfl, q⟩ := q1
  obtain ⟨u1, u2, rfl, ⟨t, rfl⟩, ⟨t', rfl⟩⟩ := vals2 r1
  refine zip_begins2 (begins_text x t) (begins_text y t') trivial trivial fun h' hz hTI hTO h1 h2 hsz hk => wpAny_pyIter_zip hz ?_
  have I2 : Inv X pins σ H1 { s1 with heap := h' } := I1.kept (t' := s1.toks) hk
  refine ⟨s1.heap.objs.size + 4, [s1.heap.objs.size + 4, s1.heap.objs.size + 2, s1.heap.objs.size + 3, s1.heap.objs.size, s1.heap.objs.size + 1], _, _, H1, rfl, I2, turn_zipS x y t t' s1.heap.objs.size, ⟨hz, hTI, ⟨_, _, hTO⟩, ⟨_, h1, rfl, rfl⟩, ⟨_, h2, rfl, rfl⟩⟩, fun c hcm => ?_, q⟩
  have e' : c = s1.heap.objs.size + 4 ∨ c = s1.heap.objs.size + 2 ∨ c = s1.heap.objs.size + 3 ∨ c = s1.heap.objs.size ∨ c = s1.heap.objs.size + 1 := by simpa using hcm
  have hle : s1.heap.objs.size ≤ c := by
    rcases e' with z | z | z | z | z
    · rw [z]; exact Nat.le_add_right _ _
    · rw [z]; exact Nat.le_add_right _ _
    · rw [z]; exact Nat.le_add_right _ _
    · rw [z]; exact Nat.le_refl _
    · rw [z]; exact Nat.le_add_right _ _
  exact I1.fpOk hle (I1.hok.fresh hle)
end Pv

namespace Pv
open PySem PySem.Spec L2
/-! ### walks of data -/
section
variable {K : PySem.W.Frag} {F H : Hp}
theorem wk_lst {a : Addr} {vs : List V} {ds : List D} (q : F a = some (.lst vs)) (r : RpA K F vs ds) : WalkD K F NoL (Itl K a) ds := by
  refine ⟨fun i H F' hi ff s _ => ?_, fun H F' ff s _ => ?_, fun i H F' x H' hi ff s _ y => ?_⟩
  · have hv : i < vs.length := by rw [r.length]; exact hi
    exact ⟨vs, vs[i], .inl (s _ _ (ff _ _ q)), List.getElem?_eq_getElem hv⟩
  · exact ⟨vs, .inl (s _ _ (ff _ _ q)), Nat.le_of_eq r.length⟩
  · obtain ⟨e, y⟩ := y
    subst e
    obtain ⟨d, h1, h2⟩ := r.get (y vs (.inl (s _ _ (ff _ _ q))))
    exact ⟨F', .refl s, d, h1, h2.mono ff⟩
theorem wk_own {a : Addr} {vs : List V} {ds : List D} (r : RpA K F vs ds) : WalkD K F (fun H => H a = some (.lst vs)) (Itl K a) ds := by
  refine ⟨fun i H F' hi ff s l => ?_, fun H F' ff s l => ?_, fun i H F' x H' hi ff s l y => ?_⟩
  · have hv : i < vs.length := by rw [r.length]; exact hi
    exact ⟨vs, vs[i], .inl (.inl l), List.getElem?_eq_getElem hv⟩
  · exact ⟨vs, .inl (.inl l), Nat.le_of_eq r.length⟩
  · obtain ⟨e, y⟩ := y
    subst e
    obtain ⟨d, h1, h2⟩ := r.get (y vs (.inl (.inl l)))
    exact ⟨F', .refl s, d, h1, h2.mono ff⟩
theorem ts_ext {F' : Hp} {a : Addr} {vs : List V} (ff : ∀ a u, F a = some u → F' a = some u) (q : Ts K F a vs) : Ts K F' a vs := q.imp (ff _ _) id
theorem wk_tup {a : Addr} {vs : List V} {ds : List D} (q : Ts K F a vs) (r : RpA K F vs ds) : WalkD K F NoL (Itt K a) ds := by
  refine ⟨fun i H F' hi ff s _ => ?_, fun H F' ff s _ => ?_, fun i H F' x H' hi ff s _ y => ?_⟩
  · have hv : i < vs.length := by rw [r.length]; exact hi
    exact ⟨vs, vs[i], s.tup (ts_ext ff q), List.getElem?_eq_getElem hv⟩
  · exact ⟨vs, s.tup (ts_ext ff q), Nat.le_of_eq r.length⟩
  · obtain ⟨e, y⟩ := y
    subst e
    obtain ⟨d, h1, h2⟩ := r.get (y vs (s.tup (ts_ext ff q)))
    exact ⟨F', .refl s, d, h1, h2.mono ff⟩
theorem sg_rp {l : List Nat} (h : okS l) {i : Nat} {v : V} (y : SgR (tx l) i v) : ∃ d, (l.map fun c => D.str [c])[i]? = some d ∧ Rp K F v d := by
  obtain ⟨c, hc, rfl⟩ := y
  have hc' : l[i]? = some c := by
    rw [← Array.getElem?_toList, tx_list] at hc
    exact hc
  refine ⟨.str [c], by rw [List.getElem?_map, hc']; rfl, .str [c] ⟨(by show (1:Nat) ≤ 16777216; decide), fun c' h' => ?_⟩⟩
  rw [List.mem_singleton.mp h']
  exact h.2 c (List.mem_of_getElem? hc')
theorem wk_str {l : List Nat} (h : okS l) : WalkD K F NoL (Its (tx l)) (l.map fun c => D.str [c]) := by
  have hl : (l.map fun c => D.str [c]).length = (tx l).cps.size := by simp [tx]
  refine ⟨fun i H F' hi ff s _ => by rw [hl] at hi; exact hi, fun H F' ff s _ => Nat.le_of_eq hl.symm, fun i H F' x H' hi ff s _ y => ?_⟩
  obtain ⟨e, c, hc, rfl⟩ := y
  subst e
  obtain ⟨d, h1, h2⟩ := sg_rp (K := K) (F := F') h ⟨c, hc, rfl⟩
  exact ⟨F', .refl s, d, h1, h2⟩
theorem rngD_len (lo : Int) (n : Nat) : (rngD lo n).length = n := by simp [rngD]
theorem wk_rng {lo : Int} {n : Nat} : WalkD K F NoL (Itr lo n) (rngD lo n) := by
  refine ⟨fun i H F' hi ff s _ => by rw [rngD_len] at hi; exact hi, fun H F' ff s _ => Nat.le_of_eq (rngD_len lo n).symm, fun i H F' x H' hi ff s _ y => ?_⟩
  obtain ⟨e, rfl⟩ := y
  subst e
  rw [rngD_len] at hi
  exact ⟨F', .refl s, .int (lo + i), by simp [rngD, hi], .int _⟩
/-- pairs -/
theorem wk_pair {n : Nat} {C : Hp → Prop} {R1 R2 : Nat → V → Prop} {xs ys : List D} {zs : List D} (hz : zs.length = n) (hC : ∀ H F', (∀ a u, F a = some u → F' a = some u) → Sub F' H → C H)
    (h1 : ∀ F' i v, i < n → (∀ a u, F a = some u → F' a = some u) → R1 i v → ∃ d, xs[i]? = some d ∧ Rp K F' v d) (h2 : ∀ F' i v, i < n → (∀ a u, F a = some u → F' a = some u) → R2 i v → ∃ d, ys[i]? = some d ∧ Rp K F' v d)
    (h3 : ∀ i x y, i < n → xs[i]? = some x → ys[i]? = some y → zs[i]? = some (.tup [x, y])) : WalkD K F NoL (ItP n C R1 R2) zs := by
  refine ⟨fun i H F' hi ff s _ => ⟨hz ▸ hi, hC H F' ff s⟩, fun H F' ff s _ => ⟨hz, hC H F' ff s⟩, fun i H F' x H' hi ff s _ y => ?_⟩
  obtain ⟨T, v, w, rfl, nT, rfl, r1, r2⟩ := y
  obtain ⟨d, e1, rd⟩ := h1 F' i v (hz ▸ hi) ff r1
  obtain ⟨e, e2, re⟩ := h2 F' i w (hz ▸ hi) ff r2
  have gn := Gd.new (o := .tup [v, w]) s nT
  exact ⟨_, gn, _, h3 i d e (hz ▸ hi) e1 e2, .tup (.inl upd_same) (by show (2:Nat) ≤ 16777216; decide) (.cons (rd.mono gn.ff) (.cons (re.mono gn.ff) .nil))⟩
end
section
variable {ct : String → Addr} {k : Nat} {X : Cx} {W : WS} {e a b c : Expr} {es : List Expr} {pos : Pos} {ev ea eb ec : Xv} {tg : Expr}
/-- a list, a tuple, a text -/
theorem i_seq (h : PEv ct k X W e ev) : PFv ct k X W tg e (iSeq ev) := fun C =>
  ((pi_list (h C)).or ((pi_tup (h C)).or (pi_str (h C)))).imp fun σ H Q ⟨H0, F0, F, env, S, g⟩ => by
    by_cases h1 : ∃ ds, ev env = .ok (.lst ds)
    · obtain ⟨ds, z⟩ := h1
      refine .inl (seqE S g fun x d' F1 H1 ee S1 g1 rx q1 => ?_)
      rw [z] at ee; cases ee
      cases rx with
      | lst q zz r => exact ⟨_, rfl, ⟨_, .inl (S1.sub _ _ q)⟩, q1 _ F1 H1 (.refl S1.sub) ⟨wk_lst q r, by rw [← r.length]; exact zz⟩⟩
    · by_cases h2 : ∃ ds, ev env = .ok (.tup ds)
      · obtain ⟨ds, z⟩ := h2
        refine .inr (.inl (seqE S g fun x d' F1 H1 ee S1 g1 rx q1 => ?_))
        rw [z] at ee; cases ee
        cases rx with
        | tup q zz r => exact ⟨_, rfl, ⟨_, S1.sub.tup q⟩, q1 _ F1 H1 (.refl S1.sub) ⟨wk_tup q r, by rw [← r.length]; exact zz⟩⟩
      · refine .inr (.inr (seqE S g fun x d' F1 H1 ee S1 g1 rx q1 => ?_))
        cases d' with
        | lst ds => exact absurd ⟨ds, ee⟩ h1
        | tup ds => exact absurd ⟨ds, ee⟩ h2
        | str l =>
          cases rx with
          | str _ z => exact ⟨_, rfl, q1 _ F1 H1 (.refl S1.sub) ⟨wk_str z, by simpa using z.1⟩⟩
        | _ => exact q1.elim
/-- .. or an owned list (a comprehension) -/
theorem w_seq (h : PBv ct k X W e ev) : PWkv ct k X W tg e (iSeq ev) := fun C =>
  ((pi_list (h C)).or ((pi_tup (h C)).or (pi_str (h C)))).imp fun σ H Q ⟨H0, F0, F, env, S, g⟩ => by
    by_cases h1 : ∃ ds, ev env = .ok (.lst ds)
    · obtain ⟨ds, z⟩ := h1
      refine .inl (seqE S g fun x d' F1 H1 ee S1 g1 rx q1 => ?_)
      rw [z] at ee; cases ee
      rcases rx with rx | ⟨a, ex, na, rx⟩
      · cases rx with
        | lst q zz r => exact ⟨_, rfl, ⟨_, .inl (S1.sub _ _ q)⟩, q1 _ F1 H1 (.refl S1.sub) ⟨NoL, wk_lst q r, trivial, fun _ _ _ _ => trivial, by rw [← r.length]; exact zz⟩⟩
      · cases rx with
        | lst q zz r => exact ⟨a, ex, ⟨_, .inl (.inl q)⟩, q1 _ F1 H1 (.refl S1.sub) ⟨_, wk_own (a := a) r, q, fun H H' l s => s _ _ l, by rw [← r.length]; exact zz⟩⟩
    · by_cases h2 : ∃ ds, ev env = .ok (.tup ds)
      · obtain ⟨ds, z⟩ := h2
        refine .inr (.inl (seqE S g fun x d' F1 H1 ee S1 g1 rx q1 => ?_))
        rw [z] at ee; cases ee
        rcases rx with rx | ⟨a, ex, na, rx⟩
        · cases rx with
          | tup q zz r => exact ⟨_, rfl, ⟨_, S1.sub.tup q⟩, q1 _ F1 H1 (.refl S1.sub) ⟨NoL, wk_tup q r, trivial, fun _ _ _ _ => trivial, by rw [← r.length]; exact zz⟩⟩
        · cases rx
      · refine .inr (.inr (seqE S g fun x d' F1 H1 ee S1 g1 rx q1 => ?_))
        cases d' with
        | lst ds => exact absurd ⟨ds, ee⟩ h1
        | tup ds => exact absurd ⟨ds, ee⟩ h2
        | str l =>
          obtain ⟨ex, z⟩ := bo_str rx
          exact ⟨_, ex, q1 _ F1 H1 (.refl S1.sub) ⟨NoL, wk_str z, trivial, fun _ _ _ _ => trivial, by simpa using z.1⟩⟩
        | _ => exact q1.elim
theorem i_r1 {p : Pos} (hm : X.mg "range" = none) (ha : PEv ct k X W a ea) (hg : Gl X "range" := by rfl) (hs : starEach [a] X.env = [(false, eval a X.env)] := by rfl) : PFv ct k X W tg (.Call (.Name "range" p) [a] [] pos) (iR1 ea) := fun C =>
  (pi_range1 hg hm (pa_cons (ha C) pa_nil hs) hs).imp fun σ H Q ⟨H0, F0, F, env, S, g⟩ => seq S g fun x d F1 H1 S1 g1 rx q1 => by
    cases d with
    | int j =>
      have ex := bo_int (H := H1) (.inl rx)
      subst ex
      dsimp only [rng1] at q1
      split at q1
      · rename_i z
        exact ⟨j, rfl, z.1, z.2.1, q1 _ F1 H1 (.refl S1.sub) ⟨wk_rng, by rw [rngD_len]; exact z.2.2⟩⟩
      · exact q1.elim
    | _ => exact q1.elim
theorem i_r2 {p : Pos} (hm : X.mg "range" = none) (ha : PEv ct k X W a ea) (hb : PEv ct k X W b eb) (hg : Gl X "range" := by rfl) (hs : starEach [a, b] X.env = [(false, eval a X.env), (false, eval b X.env)] := by rfl) (hs2 : starEach [b] X.env = [(false, eval b X.env)] := by rfl)
    (hs3 : starEach [a, b] X.env = (false, eval a X.env) :: starEach [b] X.env := by rfl) : PFv ct k X W tg (.Call (.Name "range" p) [a, b] [] pos) (iR2 ea eb) := fun C =>
  (pi_range2 hg hm (pa_cons (ha C) (pa_cons (hb C) pa_nil hs2) hs3) hs hs2).imp fun σ H Q ⟨H0, F0, F, env, S, g⟩ => seq S g fun x d F1 H1 S1 g1 rx q1 => seq S1 q1 fun y e F2 H2 S2 g2 ry q2 => by
    cases d with
    | int i =>
      cases e with
      | int j =>
        have ex := bo_int (H := H1) (.inl rx)
        have ey := bo_int (H := H2) (.inl ry)
        subst ex ey
        dsimp only [rng2] at q2
        split at q2
        · rename_i z
          exact ⟨i, j, rfl, z.1, q2 _ F2 H2 (.refl S2.sub) ⟨wk_rng, by rw [rngD_len]; exact z.2⟩⟩
        · exact q2.elim
      | _ => exact q2.elim
    | _ => exact q2.elim
/-! ### zip, enumerate -/
theorem zip_at {xs ys : List D} {i : Nat} {x y : D} (h1 : xs[i]? = some x) (h2 : ys[i]? = some y) : (zipW xs ys)[i]? = some (.tup [x, y]) := by
  unfold zipW
  rw [List.getElem?_zipWith, h1, h2]
theorem enum_len : ∀ (n : Nat) (ds : List D), (enumD n ds).length = ds.length
  | _, [] => rfl
  | n, d :: r => by rw [enumD, List.length_cons, enum_len (n + 1) r]; rfl
theorem enum_at : ∀ (n : Nat) (ds : List D) (i : Nat) (d : D), ds[i]? = some d → (enumD n ds)[i]? = some (.tup [.int ((n + i : Nat) : Int), d])
  | n, [], i, d, h => by simp at h
  | n, e :: r, 0, d, h => by
    simp at h; subst h; rfl
  | n, e :: r, i + 1, d, h => by
    have := enum_at (n + 1) r i d (by simpa using h)
    rw [enumD, List.getElem?_cons_succ, this]
    congr 4
    omega
theorem zipW_len (xs ys : List D) : (zipW xs ys).length = min xs.length ys.length := by simp [zipW]
theorem wk_zipL {K : PySem.W.Frag} {F : Hp} {a b : Addr} {vs ws : List V} {ds es : List D} (qa : F a = some (.lst vs)) (qb : F b = some (.lst ws)) (ra : RpA K F vs ds) (rb : RpA K F ws es) : WalkD K F NoL (Itz K a b) (zipW ds es) := by
  have la := ra.length
  have lb := rb.length
  refine ⟨fun i H F' hi ff s _ => ?_, fun H F' ff s _ => ?_, fun i H F' x H' hi ff s _ y => ?_⟩
  · rw [zipW_len] at hi
    have h1 : i < vs.length := by omega
    have h2 : i < ws.length := by omega
    exact ⟨vs, ws, vs[i], ws[i], .inl (s _ _ (ff _ _ qa)), .inl (s _ _ (ff _ _ qb)), List.getElem?_eq_getElem h1, List.getElem?_eq_getElem h2⟩
  · exact ⟨vs, ws, .inl (s _ _ (ff _ _ qa)), .inl (s _ _ (ff _ _ qb)), by rw [zipW_len]; omega⟩
  · obtain ⟨T, v, w, rfl, nT, rfl, h1, h2⟩ := y
    obtain ⟨d, e1, r1⟩ := ra.get (h1 vs (.inl (s _ _ (ff _ _ qa))))
    obtain ⟨e, e2, r2⟩ := rb.get (h2 ws (.inl (s _ _ (ff _ _ qb))))
    have gn := Gd.new (o := .tup [v, w]) s nT
    exact ⟨_, gn, _, zip_at e1 e2, .tup (.inl upd_same) (by show (2:Nat) ≤ 16777216; decide) (.cons ((r1.mono ff).mono gn.ff) (.cons ((r2.mono ff).mono gn.ff) .nil))⟩
theorem wk_zipT {K : PySem.W.Frag} {F : Hp} {a b : Addr} {vs ws : List V} {ds es : List D} (qa : Ts K F a vs) (qb : Ts K F b ws) (ra : RpA K F vs ds) (rb : RpA K F ws es) : WalkD K F NoL (RZ.ItzT K a b) (zipW ds es) := by
  have la := ra.length
  have lb := rb.length
  refine ⟨fun i H F' hi ff s _ => ?_, fun H F' ff s _ => ?_, fun i H F' x H' hi ff s _ y => ?_⟩
  · rw [zipW_len] at hi
    have h1 : i < vs.length := by omega
    have h2 : i < ws.length := by omega
    exact ⟨vs, ws, vs[i], ws[i], s.tup (ts_ext ff qa), s.tup (ts_ext ff qb), List.getElem?_eq_getElem h1, List.getElem?_eq_getElem h2⟩
  · exact ⟨vs, ws, s.tup (ts_ext ff qa), s.tup (ts_ext ff qb), by rw [zipW_len]; omega⟩
  · obtain ⟨T, v, w, rfl, nT, rfl, h1, h2⟩ := y
    obtain ⟨d, e1, r1⟩ := ra.get (h1 vs (s.tup (ts_ext ff qa)))
    obtain ⟨e, e2, r2⟩ := rb.get (h2 ws (s.tup (ts_ext ff qb)))
    have gn := Gd.new (o := .tup [v, w]) s nT
    exact ⟨_, gn, _, zip_at e1 e2, .tup (.inl upd_same) (by show (2:Nat) ≤ 16777216; decide) (.cons ((r1.mono ff).mono gn.ff) (.cons ((r2.mono ff).mono gn.ff) .nil))⟩
theorem i_zip {p tpos : Pos} {elts : List Expr} {kk : Nat} (hm : X.mg "zip" = none) (ha : PEv ct k X W a ea) (hb : PEv ct k X W b eb) (hg : Gl X "zip" := by rfl)
    (hs : starEach [a, b] X.env = (false, eval a X.env) :: starEach [b] X.env := by rfl) (hs2 : starEach [b] X.env = (false, eval b X.env) :: starEach [] X.env := by rfl) (hpl : (backTo pos (starEach [b] X.env)).any (·.1) = false := by rfl) :
    PFv ct k X W (.Tuple elts kk tpos) (.Call (.Name "zip" p) [a, b] [] pos) (iZip ea eb) := fun C =>
  ((RZ.pi_zipA hg hm (pa_cons (ha C) (pa_cons (hb C) pa_nil hs2) hs) hs hpl).or (pi_zipS hg hm (pa_cons (ha C) (pa_cons (hb C) pa_nil hs2) hs) hs hpl)).imp fun σ H Q ⟨H0, F0, F, env, S, g⟩ => by
    by_cases hS : ∃ l, ea env = .ok (.str l)
    · obtain ⟨l, z⟩ := hS
      refine .inr (seqE S g fun x d F1 H1 ee S1 g1 rx q1 => seq S1 q1 fun y e F2 H2 S2 g2 ry q2 => ?_)
      rw [z] at ee; cases ee
      cases e with
      | str m =>
        obtain ⟨ex, hl⟩ := bo_str (H := H1) (.inl rx)
        obtain ⟨ey, hm'⟩ := bo_str (H := H2) (.inl ry)
        subst ex ey
        refine ⟨_, _, rfl, q2 _ F2 H2 (.refl S2.sub) ⟨wk_pair (xs := l.map fun c => D.str [c]) (ys := m.map fun c => D.str [c]) ?_ (fun _ _ _ _ => trivial) (fun F' i v _ ff y => sg_rp hl y) (fun F' i v _ ff y => sg_rp hm' y) (fun i x y _ h1 h2 => zip_at h1 h2), ?_⟩⟩
        · rw [zipW_len]; simp [tx]
        · rw [zipW_len, List.length_map]
          exact Nat.le_trans (Nat.min_le_left _ _) hl.1
      | _ => exact q2.elim
    · refine .inl (seqE S g fun x d F1 H1 ee S1 g1 rx q1 => seq S1 q1 fun y e F2 H2 S2 g2 ry q2 => ?_)
      cases d with
      | str l => exact absurd ⟨l, ee⟩ hS
      | lst ds =>
        cases e with
        | lst es =>
          cases rx with
          | lst qa za ra =>
            cases ry with
            | lst qb zb rb =>
              have qa' := g2.ff _ _ qa
              refine ⟨_, _, _, _, rfl, .inl ⟨.inl (S2.sub _ _ qa'), .inl (S2.sub _ _ qb), q2 _ F2 H2 (.refl S2.sub) ⟨wk_zipL qa' qb (ra.mono g2.ff) rb, ?_⟩⟩⟩
              rw [zipW_len, ← ra.length]
              exact Nat.le_trans (Nat.min_le_left _ _) za
        | _ => exact q2.elim
      | tup ds =>
        cases e with
        | tup es =>
          cases rx with
          | tup qa za ra =>
            cases ry with
            | tup qb zb rb =>
              have qa' := ts_ext g2.ff qa
              refine ⟨_, _, _, _, rfl, .inr ⟨S2.sub.tup qa', S2.sub.tup qb, q2 _ F2 H2 (.refl S2.sub) ⟨wk_zipT qa' qb (ra.mono g2.ff) rb, ?_⟩⟩⟩
              rw [zipW_len, ← ra.length]
              exact Nat.le_trans (Nat.min_le_left _ _) za
        | _ => exact q2.elim
      | _ => exact q2.elim
theorem wk_enumL {K : PySem.W.Frag} {F : Hp} {a : Addr} {vs : List V} {ds : List D} (q : F a = some (.lst vs)) (r : RpA K F vs ds) : WalkD K F NoL (Ite K a) (enumD 0 ds) := by
  have la := r.length
  refine ⟨fun i H F' hi ff s _ => ?_, fun H F' ff s _ => ?_, fun i H F' x H' hi ff s _ y => ?_⟩
  · rw [enum_len] at hi
    have h1 : i < vs.length := by omega
    exact ⟨vs, vs[i], .inl (s _ _ (ff _ _ q)), List.getElem?_eq_getElem h1⟩
  · exact ⟨vs, .inl (s _ _ (ff _ _ q)), by rw [enum_len]; omega⟩
  · obtain ⟨T, v, rfl, nT, rfl, h1⟩ := y
    obtain ⟨d, e1, r1⟩ := r.get (h1 vs (.inl (s _ _ (ff _ _ q))))
    have gn := Gd.new (o := .tup [.int (i : Nat), v]) s nT
    refine ⟨_, gn, _, enum_at 0 ds i d e1, .tup (.inl upd_same) (by show (2:Nat) ≤ 16777216; decide) (.cons ?_ (.cons ((r1.mono ff).mono gn.ff) .nil))⟩
    rw [Nat.zero_add]
    exact .int _
theorem i_enum {p tpos : Pos} {elts : List Expr} {kk : Nat} (hm : X.mg "enumerate" = none) (ha : PEv ct k X W a ea) (hg : Gl X "enumerate" := by rfl) (hs : starEach [a] X.env = [(false, eval a X.env)] := by rfl) :
    PFv ct k X W (.Tuple elts kk tpos) (.Call (.Name "enumerate" p) [a] [] pos) (iEnum ea) := fun C =>
  ((pi_enum hg hm (pa_cons (ha C) pa_nil hs) hs).or (pi_enumX hg hm (pa_cons (ha C) pa_nil hs) hs)).imp fun σ H Q ⟨H0, F0, F, env, S, g⟩ => by
    by_cases hL : ∃ ds, ea env = .ok (.lst ds)
    · obtain ⟨ds, z⟩ := hL
      refine .inl (seqE S g fun x d F1 H1 ee S1 g1 rx q1 => ?_)
      rw [z] at ee; cases ee
      cases rx with
      | lst q zz r => exact ⟨_, _, rfl, .inl (S1.sub _ _ q), q1 _ F1 H1 (.refl S1.sub) ⟨wk_enumL q r, by rw [enum_len, ← r.length]; exact zz⟩⟩
    · refine .inr (seqE S g fun x d F1 H1 ee S1 g1 rx q1 => ⟨x, rfl, ?_⟩)
      cases d with
      | lst ds => exact absurd ⟨ds, ee⟩ hL
      | tup ds =>
        cases rx with
        | tup q zz r =>
          refine .inl ⟨_, _, rfl, S1.sub.tup q, q1 _ F1 H1 (.refl S1.sub) ⟨wk_pair (xs := rngD 0 ds.length) (ys := ds) (by rw [enum_len, r.length]) (fun H F' ff s => s.tup (ts_ext ff q)) (fun F' i v hi ff y => ?_) (fun F' i v hi ff y => ?_) (fun i x y hi h1 h2 => ?_), by rw [enum_len, ← r.length]; exact zz⟩⟩
          · subst y
            rw [r.length] at hi
            exact ⟨.int (i : Nat), by simp [rngD, hi], .int _⟩
          · obtain ⟨d, e1, r1⟩ := r.get y
            exact ⟨d, e1, r1.mono ff⟩
          · rw [r.length] at hi
            have e : x = .int (i : Nat) := by simpa [rngD, hi] using h1.symm
            subst e
            have := enum_at 0 ds i y h2
            rwa [Nat.zero_add] at this
      | str l =>
        obtain ⟨ex, hl⟩ := bo_str (H := H1) (.inl rx)
        have hn : (tx l).cps.size = l.length := by simp [tx]
        refine .inr ⟨_, ex, q1 _ F1 H1 (.refl S1.sub) ⟨wk_pair (xs := rngD 0 l.length) (ys := l.map fun c => D.str [c]) (by rw [enum_len, hn, List.length_map]) (fun _ _ _ _ => trivial) (fun F' i v hi ff y => ?_) (fun F' i v _ ff y => sg_rp hl y) (fun i x y hi h1 h2 => ?_), by rw [enum_len, List.length_map]; exact hl.1⟩⟩
        · subst y
          rw [hn] at hi
          exact ⟨.int (i : Nat), by simp [rngD, hi], .int _⟩
        · rw [hn] at hi
          have e : x = .int (i : Nat) := by simpa [rngD, hi] using h1.symm
          subst e
          have := enum_at 0 _ i y h2
          rwa [Nat.zero_add] at this
      | _ => exact q1.elim
/-! ### the keys of a dict: locked while it is walked -/
def iKL (X : Cx) (td : TE) : TI := fun σ H R => td σ H fun x H1 => ∃ d kvs, x = .ref d ∧ ((H1 d = some (.dK kvs) ∧ ∀ od, (∀ o' u', X.H_0 d ≠ some (.frz o' u')) → R (Itk d od kvs) (upd H1 d (.frz od (.dK kvs)))) ∨ ∃ od, H1 d = some (.frz od (.dK kvs)) ∧ R (Itk d od kvs) H1)
theorem pi_keysL {td : TE} (he : PE X e td) : PI X tg e (iKL X td) := by
  refine ⟨fun pins s σ H R I h => ?_⟩
  refine thn (he.run pins s σ H _ I h) fun u s1 ⟨x, H1, I1, rx, d, kvs, ex, q⟩ => ?_
  subst ex
  obtain rfl : u = Value.ref d := rx
  rcases q with ⟨hd, q⟩ | ⟨od, hd, q⟩
  · obtain ⟨od, I2⟩ := I1.lock hd trivial
    have q := q od (I1.nofrz hd trivial)
    obtain ⟨hs, hgd, hx, es, ep, vs, hdt, hsz, kv, hm⟩ := I2.frzK upd_same
    refine iter_keys hs hgd hx hdt (pi_one (tk := s1.toks) I2 _ (turn_keys _ hdt) ⟨_, Heap.get?_push_size _ rfl, rfl, ?_⟩ q)
    rw [hsz] <;> rfl
  · obtain ⟨hs, hgd, hx, es, ep, vs, hdt, hsz, kv, hm⟩ := I1.frzK hd
    refine iter_keys hs hgd hx hdt (pi_one (tk := s1.toks) I1 _ (turn_keys _ hdt) ⟨_, Heap.get?_push_size _ rfl, rfl, ?_⟩ q)
    rw [hsz] <;> rfl
/-- what is wanted, behind an unlocking -/
def Ul (X : Cx) {α : Type} (f : α → Hp → Prop) : α → Hp → Prop := fun v H' => f v H' ∨ ∃ d od u, H' d = some (.frz od u) ∧ (∀ o' u', X.H_0 d ≠ some (.frz o' u')) ∧ f v (upd H' d u)
theorem ps_ul {st : Stmt} {t : TS} (h : PS X st t) : PS X st (fun D σ H => t ⟨Ul X D.nx, Ul X D.rt, Ul X D.bk, Ul X D.ct⟩ σ H) := by
  refine ⟨fun pins s σ H D I hw => ?_⟩
  refine thn (h.run pins s σ H _ I hw) fun f s1 q => ?_
  cases f with
  | next =>
    obtain ⟨σ', H', I2, q | ⟨d, od, u, e, hn, q⟩⟩ := q
    · exact ⟨σ', H', I2, q⟩
    · exact ⟨σ', _, I2.unlock e hn, q⟩
  | brk =>
    obtain ⟨σ', H', I2, q | ⟨d, od, u, e, hn, q⟩⟩ := q
    · exact ⟨σ', H', I2, q⟩
    · exact ⟨σ', _, I2.unlock e hn, q⟩
  | cont =>
    obtain ⟨σ', H', I2, q | ⟨d, od, u, e, hn, q⟩⟩ := q
    · exact ⟨σ', H', I2, q⟩
    · exact ⟨σ', _, I2.unlock e hn, q⟩
  | ret v =>
    obtain ⟨x, σ', H', I2, r, q | ⟨d, od, u, e, hn, q⟩⟩ := q
    · exact ⟨x, σ', H', I2, r, q⟩
    · exact ⟨x, σ', _, I2.unlock e hn, r, q⟩
theorem pe_ul {t : TE} (h : PE X e t) : PE X e (fun σ H Q => t σ H (Ul X Q)) := by
  refine ⟨fun pins s σ H Q I hw => ?_⟩
  refine thn (h.run pins s σ H _ I hw) fun v s1 q => ?_
  obtain ⟨x, H', I2, r, q | ⟨d, od, u, e, hn, q⟩⟩ := q
  · exact ⟨x, H', I2, r, q⟩
  · exact ⟨x, _, I2.unlock e hn, r, q⟩
end
end Pv

namespace Pv
open PySem PySem.Spec L2
theorem lcD_noexc {T : Tg} {tv : Tv} {ee : Xv} {env : En} {c : String} : ∀ l : List D, lcD T tv ee env l ≠ .exc c := by
  intro l
  induction l with
  | nil => intro h; cases h
  | cons x xs ih =>
    intro h
    unfold lcD at h
    cases y : stT T x env with
    | none => rw [y] at h; cases h
    | some env2 =>
      rw [y] at h
      dsimp only at h
      cases t1 : tv env2 with
      | ok b =>
        rw [t1] at h
        cases b with
        | true =>
          cases t2 : ee env2 with
          | ok y =>
            rw [t2] at h
            cases w : lcD T tv ee env xs with
            | ok r => rw [w] at h; cases h
            | exc c' => rw [w] at h; cases h; exact ih w
            | bad => rw [w] at h; cases h
          | exc c => rw [t2] at h; cases h
          | bad => rw [t2] at h; cases h
        | false => exact ih h
      | exc c => rw [t1] at h; cases h
      | bad => rw [t1] at h; cases h
section
variable {K : PySem.W.Frag} {H0 F0 F H F1 H1 : Hp} {σ σ1 : St} {env env1 : En} {a : Addr} {od : Obj} {u : HO}
/-! ### a lock -/
theorem sub_lock (s : Sub F H) (fa : F a = some u) (ha : H a = some u) : Sub F (upd H a (.frz od u)) := fun b x h => by
  by_cases e : b = a
  · subst e
    rw [fa] at h
    cases h
    exact .inr ⟨od, upd_same⟩
  · rcases s b x h with q | ⟨o, q⟩
    · exact .inl (by rw [upd_ne e]; exact q)
    · exact .inr ⟨o, by rw [upd_ne e]; exact q⟩
theorem SR.rebaseL (S : SR K H0 F0 F H σ env) (fa : F a = some u) (ha : H a = some u) : SR K (bse env σ (upd H a (.frz od u))) F F (upd H a (.frz od u)) σ env := by
  refine ⟨⟨fun _ _ h => h, fun b o h => bse_some h, sub_lock S.sub fa ha, fun a h => .inl h⟩, S.len, S.fz, fun i d e => ?_, S.ap⟩
  obtain ⟨b, h1, h2, h3, h4⟩ := S.ow i d e
  have ne : b ≠ a := fun z => by subst z; rw [fa] at h3; cases h3
  refine ⟨b, h1, ?_, h3, h4.mono (fun _ _ h => h) fun o q => by rw [upd_ne ne]; exact q⟩
  unfold bse
  rw [if_pos ⟨i, d, e, h1⟩]
theorem not_own (S : SR K H0 F0 F H σ env) (fa : F a = some u) : ¬ ∃ i d, gt env i = some (.ow d) ∧ σ[i]? = some (some (.ref a)) := by
  rintro ⟨i, d, e, h1⟩
  obtain ⟨b, h1', _, h3, _⟩ := S.ow i d e
  rw [h1] at h1'
  cases h1'
  rw [fa] at h3; cases h3
theorem lock_still (S : SR K H0 F0 F H σ env) (fa : F a = some u) (g : Same (bse env σ (upd H a (.frz od u))) H1) : H1 a = some (.frz od u) := by
  refine g a _ ?_
  unfold bse
  rw [if_neg (not_own S fa), upd_same]
theorem Gd.unbaseL (S : SR K H0 F0 F H σ env) (fa : F a = some u) (ha : H a = some u) (g : Gd F (bse env σ (upd H a (.frz od u))) F1 H1) : Gd F0 H0 F1 (upd H1 a u) := by
  refine ⟨fun b x h => g.ff b x (S.gd.ff b x h), fun b o h => ?_, fun b x h => ?_, fun b h => ?_⟩
  · by_cases e : b = a
    · subst e
      have q := S.gd.hh b o h
      rw [ha] at q
      cases q
      exact upd_same
    · rw [upd_ne e]
      refine g.hh b o ?_
      unfold bse
      rw [if_neg, upd_ne e]
      · exact S.gd.hh b o h
      · rintro ⟨i, d, e', h1⟩
        obtain ⟨b', h1', h2, _⟩ := S.ow i d e'
        rw [h1] at h1'
        cases h1'
        rw [h] at h2; cases h2
  · by_cases e : b = a
    · subst e
      rw [g.ff _ _ fa] at h
      cases h
      exact .inl upd_same
    · rcases g.sub b x h with q | ⟨o, q⟩
      · exact .inl (by rw [upd_ne e]; exact q)
      · exact .inr ⟨o, by rw [upd_ne e]; exact q⟩
  · rcases g.nw b h with q | q
    · exact S.gd.nw b q
    · refine .inr ?_
      unfold bse at q
      split at q
      · rename_i z
        obtain ⟨i, d, e, h1⟩ := z
        obtain ⟨b', h1', h2, _⟩ := S.ow i d e
        rw [h1] at h1'
        cases h1'
        exact h2
      · have ne : b ≠ a := fun z => by subst z; rw [upd_same] at q; cases q
        rw [upd_ne ne] at q
        exact S.gd.hh.free q
theorem SR.unbaseL (S : SR K H0 F0 F H σ env) (fa : F a = some u) (ha : H a = some u) (S1 : SR K (bse env σ (upd H a (.frz od u))) F F1 H1 σ1 env1) : SR K H0 F0 F1 (upd H1 a u) σ1 env1 := by
  have fa1 := S1.gd.ff _ _ fa
  refine ⟨Gd.unbaseL S fa ha S1.gd, S1.len, S1.fz, fun i d e => ?_, S1.ap⟩
  obtain ⟨b, h1, h2, h3, h4⟩ := S1.ow i d e
  have ne : b ≠ a := fun z => by subst z; rw [fa1] at h3; cases h3
  refine ⟨b, h1, ?_, h3, h4.mono (fun _ _ h => h) fun o q => by rw [upd_ne ne]; exact q⟩
  unfold bse at h2
  split at h2
  · rename_i z
    obtain ⟨j, d', e', h1'⟩ := z
    obtain ⟨b', h1'', h2', _⟩ := S.ow j d' e'
    rw [h1'] at h1''
    cases h1''
    exact h2'
  · rw [upd_ne ne] at h2
    exact S.gd.hh.free h2
end
/-! ### the loop's heart -/
theorem for_core {K : PySem.W.Frag} {W : WS} {J : It} {ds : List D} {T : Tg} {bv : Sv} {B F1 HL : Hp} {σ : St} {env : En} {D2 : Ends} {L : Hp → Prop} (wk : WalkD K F1 L J ds) (hL : ∀ H', Same B H' → L H') (S : SR K B F1 F1 HL σ env) (q : GotS K W B F1 D2 (forD T bv ds env)) :
    ∃ Wv : Nat → Nat → St → Hp → Prop, (∃ m, Wv 0 m σ HL) ∧ ∀ i m σ H, Wv i m σ H →
      (J.stop i H ∧ D2.nx σ H) ∨ (J.go i H ∧ ∃ N : St → Hp → Prop, (∀ σ' H', N σ' H' → ∃ m', m' < m ∧ Wv (i + 1) m' σ' H') ∧ ∀ x H', J.yld i H x H' → gT K T x σ H' fun σ2 H2 => rs K W bv { D2 with nx := N, ct := N, bk := D2.nx } σ2 H2) := by
  refine ⟨fun i m σ' H' => m = ds.length - i ∧ i ≤ ds.length ∧ ∃ F' env', SR K B F1 F' H' σ' env' ∧ GotS K W B F1 D2 (forD T bv (ds.drop i) env'), ⟨ds.length, by omega, Nat.zero_le _, F1, env, S, q⟩, ?_⟩
  rintro i m σ' H' ⟨rfl, hi, F', env', S', q'⟩
  have Lh := hL H' S'.gd.hh
  by_cases hlt : i < ds.length
  · refine .inr ⟨wk.go i H' F' hlt S'.gd.ff S'.sub Lh, fun σ2 H2 => ∃ F2 env2, SR K B F1 F2 H2 σ2 env2 ∧ GotS K W B F1 D2 (forD T bv (ds.drop (i + 1)) env2),
      fun σ2 H2 ⟨F2, env2, S2, q2⟩ => ⟨ds.length - (i + 1), by omega, rfl, hlt, F2, env2, S2, q2⟩, fun x H2 hy => ?_⟩
    obtain ⟨F2, gd2, d, hd, rx⟩ := wk.yld i H' F' x H2 hlt S'.gd.ff S'.sub Lh hy
    have hdr : ds.drop i = d :: ds.drop (i + 1) := by
      rw [List.drop_eq_getElem_cons hlt]
      congr 1
      rw [List.getElem?_eq_getElem hlt] at hd
      exact Option.some.inj hd
    rw [hdr] at q'
    unfold forD at q'
    cases z : stT T d env' with
    | none => rw [z] at q'; exact q'.elim
    | some env2 =>
      rw [z] at q'
      refine g_run (ixs T) (fun i h => h) (S'.grow gd2) rx z fun σ2 S2 _ => ⟨B, F1, F2, env2, S2, ?_⟩
      dsimp only at q'
      cases y : bv env2 with
      | nx e => rw [y] at q'; exact fun σ3 F3 H3 S3 => ⟨F3, e, S3, q'⟩
      | cont e => rw [y] at q'; exact fun σ3 F3 H3 S3 => ⟨F3, e, S3, q'⟩
      | brk e => rw [y] at q'; exact fun σ3 F3 H3 S3 => q' σ3 F3 H3 S3
      | ret d => rw [y] at q'; exact fun v F3 H3 g3 r3 => q' v F3 H3 g3 r3
      | exc c e => rw [y] at q'; exact fun σ3 F3 H3 S3 => q' σ3 F3 H3 S3
      | bad => rw [y] at q'; exact q'.elim
  · have e : i = ds.length := by omega
    subst e
    rw [List.drop_length] at q'
    exact .inl ⟨wk.stop H' F' S'.gd.ff S'.sub Lh, q' σ' F' H' S'⟩
theorem rpK_at {K : PySem.W.Frag} {F : Hp} : ∀ {kvs : List (Key × V)} {ds : List (List Nat × D)} {i : Nat} {k : Key} {v : V}, RpK K F kvs ds → kvs[i]? = some (k, v) → ∃ key, k = Sum.inr (tx key) ∧ okS key ∧ (ds.map fun kv => D.str kv.1)[i]? = some (.str key)
  | _, _, _, _, _, .nil, e => by simp at e
  | _, _, 0, _, _, @RpK.cons _ _ key _ _ _ _ z r t, e => by
    simp at e
    obtain ⟨e1, e2⟩ := e
    exact ⟨key, e1.symm, z, rfl⟩
  | _, _, i + 1, _, _, .cons z r t, e => by
    obtain ⟨key, h1, h3, h2⟩ := rpK_at (i := i) t (by simpa using e)
    exact ⟨key, h1, h3, by simpa using h2⟩
theorem wk_keys {K : PySem.W.Frag} {F : Hp} {a : Addr} {od : Obj} {kvs : List (Key × V)} {ds : List (List Nat × D)} (r : RpK K F kvs ds) : WalkD K F (fun H => H a = some (.frz od (.dK kvs))) (Itk a od kvs) (ds.map fun kv => D.str kv.1) := by
  have hl : (ds.map fun kv => D.str kv.1).length = kvs.length := by rw [List.length_map, r.length]
  refine ⟨fun i H F' hi ff s l => ⟨l, by rw [hl] at hi; exact hi⟩, fun H F' ff s l => ⟨l, Nat.le_of_eq hl.symm⟩, fun i H F' x H' hi ff s l y => ?_⟩
  obtain ⟨e, k, v, h1, rfl⟩ := y
  subst e
  obtain ⟨key, rfl, ok, h2⟩ := rpK_at r h1
  exact ⟨F', .refl s, _, h2, .str key ok⟩
end Pv

namespace Pv
open PySem PySem.Spec L2
/-! ### owned slots -/
section
variable {K : PySem.W.Frag} {H0 F0 F H F1 H1 Hs : Hp} {σ σ1 : St} {env env1 : En}
theorem SR.setO (S : SR K H0 F0 F H σ env) {a : Addr} {d : D} (i : Nat) (n0 : H0 a = none) (nf : F a = none) (r : RpO K F H a d) (nw : ∀ j d', gt env j = some (.ow d') → i ≠ j → σ[j]? ≠ some (some (.ref a))) :
    SR K H0 F0 F H (σ.set i (some (.ref a))) (pt env i (some (.ow d))) := by
  refine ⟨S.gd, by rw [List.length_set, pt_len]; exact S.len, fun j d' e => ?_, fun j d' e => ?_, fun j j' d1 d2 b e1 e2 h1 h2 => ?_⟩
  · rcases gt_pt _ _ _ _ _ e with ⟨rfl, e', l⟩ | ⟨ne, e'⟩
    · cases e'
    · obtain ⟨w, h1, h2⟩ := S.fz j d' e'
      exact ⟨w, by rw [List.getElem?_set_ne ne]; exact h1, h2⟩
  · rcases gt_pt _ _ _ _ _ e with ⟨rfl, e', l⟩ | ⟨ne, e'⟩
    · cases e'
      exact ⟨a, by rw [List.getElem?_set_self (by rw [S.len]; exact l)], n0, nf, r⟩
    · obtain ⟨w, h1, h2⟩ := S.ow j d' e'
      exact ⟨w, by rw [List.getElem?_set_ne ne]; exact h1, h2⟩
  · rcases gt_pt _ _ _ _ _ e1 with ⟨rfl, e', l⟩ | ⟨ne, e1'⟩
    · rcases gt_pt _ _ _ _ _ e2 with ⟨rfl, e', l⟩ | ⟨ne2, e2'⟩
      · rfl
      · rw [List.getElem?_set_self (by rw [S.len]; exact l)] at h1
        cases h1
        rw [List.getElem?_set_ne ne2] at h2
        exact absurd h2 (nw j' d2 e2' ne2)
    · rcases gt_pt _ _ _ _ _ e2 with ⟨rfl, e', l⟩ | ⟨ne2, e2'⟩
      · rw [List.getElem?_set_self (by rw [S.len]; exact l)] at h2
        cases h2
        rw [List.getElem?_set_ne ne] at h1
        exact absurd h1 (nw j d1 e1' ne)
      · rw [List.getElem?_set_ne ne] at h1
        rw [List.getElem?_set_ne ne2] at h2
        exact S.ap j j' d1 d2 b e1' e2' h1 h2
/-- an owned thing is rewritten -/
theorem SR.write (S : SR K H0 F0 F H σ env) {i : Nat} {a : Addr} {d d' : D} {o : HO} (e : gt env i = some (.ow d)) (h : σ[i]? = some (some (.ref a))) (r : RpO K F (upd H a o) a d') :
    SR K H0 F0 F (upd H a o) σ (pt env i (some (.ow d'))) := by
  obtain ⟨a', h1, n0, nf, r0⟩ := S.ow i d e
  rw [h] at h1
  cases h1
  refine ⟨⟨S.gd.ff, fun b u hb => ?_, fun b u hb => ?_, S.gd.nw⟩, by rw [pt_len]; exact S.len, fun j d1 e1 => ?_, fun j d1 e1 => ?_, fun j j' d1 d2 b e1 e2 h1 h2 => ?_⟩
  · have ne : b ≠ a := fun z => by subst z; rw [n0] at hb; cases hb
    rw [upd_ne ne]; exact S.gd.hh b u hb
  · have ne : b ≠ a := fun z => by subst z; rw [nf] at hb; cases hb
    rcases S.gd.sub b u hb with z | ⟨o', z⟩
    · exact .inl (by rw [upd_ne ne]; exact z)
    · exact .inr ⟨o', by rw [upd_ne ne]; exact z⟩
  · rcases gt_pt _ _ _ _ _ e1 with ⟨rfl, e', l⟩ | ⟨ne, e'⟩
    · cases e'
    · exact S.fz j d1 e'
  · rcases gt_pt _ _ _ _ _ e1 with ⟨rfl, e', l⟩ | ⟨ne, e'⟩
    · cases e'
      exact ⟨a, h, n0, nf, r⟩
    · obtain ⟨b, h1, h2, h3, h4⟩ := S.ow j d1 e'
      have nb : b ≠ a := fun z => by
        subst z
        exact ne (S.ap i j d d1 b e e' h h1)
      exact ⟨b, h1, h2, h3, h4.mono (fun _ _ q => q) fun o q => by rw [upd_ne nb]; exact q⟩
  · rcases gt_pt _ _ _ _ _ e1 with ⟨rfl, e', l⟩ | ⟨ne, e1'⟩
    · rcases gt_pt _ _ _ _ _ e2 with ⟨rfl, e', l⟩ | ⟨ne2, e2'⟩
      · rfl
      · exact S.ap _ _ _ _ _ e e2' h1 h2
    · rcases gt_pt _ _ _ _ _ e2 with ⟨rfl, e', l⟩ | ⟨ne2, e2'⟩
      · exact S.ap _ _ _ _ _ e1' e h1 h2
      · exact S.ap _ _ _ _ _ e1' e2' h1 h2
/-- an owned thing is frozen -/
theorem SR.frz (S : SR K H0 F0 F H σ env) (i : Nat) : ∃ F', SR K H0 F0 F' H σ (frz i env) := by
  unfold Pv.frz
  split
  · rename_i d e
    obtain ⟨a, h1, n0, nf, r⟩ := S.ow i d e
    have up : ∀ (o : HO) (b : Addr) (u : HO), F b = some u → upd F a o b = some u := fun o b u hb => by
      have ne : b ≠ a := fun z => by subst z; rw [nf] at hb; cases hb
      rw [upd_ne ne]; exact hb
    have key : ∀ o, H a = some o → Rp K (upd F a o) (.ref a) d → SR K H0 F0 (upd F a o) H σ (pt env i (some (.fz d))) := by
      intro o ho rp
      refine ⟨⟨fun b u hb => up o b u (S.gd.ff b u hb), S.gd.hh, fun b u hb => ?_, fun b hb => ?_⟩, by rw [pt_len]; exact S.len, fun j d1 e1 => ?_, fun j d1 e1 => ?_, fun j j' d1 d2 b e1 e2 h1 h2 => ?_⟩
      · by_cases z : b = a
        · subst z; rw [upd_same] at hb; cases hb; exact .inl ho
        · rw [upd_ne z] at hb; exact S.gd.sub b u hb
      · by_cases z : b = a
        · subst z; exact .inr n0
        · rw [upd_ne z] at hb; exact S.gd.nw b hb
      · rcases gt_pt _ _ _ _ _ e1 with ⟨rfl, e', l⟩ | ⟨ne, e'⟩
        · cases e'; exact ⟨_, h1, rp⟩
        · obtain ⟨v, q1, q2⟩ := S.fz j d1 e'
          exact ⟨v, q1, q2.mono (up o)⟩
      · rcases gt_pt _ _ _ _ _ e1 with ⟨rfl, e', l⟩ | ⟨ne, e'⟩
        · cases e'
        · obtain ⟨b, q1, q2, q3, q4⟩ := S.ow j d1 e'
          have nb : b ≠ a := fun z => by
            subst z
            exact ne (S.ap i j d d1 b e e' h1 q1)
          exact ⟨b, q1, q2, by rw [upd_ne nb]; exact q3, q4.mono (up o) fun _ q => q⟩
      · rcases gt_pt _ _ _ _ _ e1 with ⟨rfl, e', l⟩ | ⟨ne, e1'⟩
        · cases e'
        · rcases gt_pt _ _ _ _ _ e2 with ⟨rfl, e', l⟩ | ⟨ne2, e2'⟩
          · cases e'
          · exact S.ap _ _ _ _ _ e1' e2' h1 h2
    cases r with
    | lst q z r => exact ⟨_, key _ q (.lst upd_same z (r.mono (up _)))⟩
    | dic q z r => exact ⟨_, key _ q (.dic upd_same z (r.mono (up _)))⟩
  · exact ⟨F, S⟩
/-! ### several values, some of them owned -/
inductive RSl (K : PySem.W.Frag) (Hs F H : Hp) : List V → List Sl → Prop
  | nil : RSl K Hs F H [] []
  | fz {v : V} {d : D} {vs : List V} {ss : List Sl} : Rp K F v d → RSl K Hs F H vs ss → RSl K Hs F H (v :: vs) (.fz d :: ss)
  | ow {a : Addr} {d : D} {vs : List V} {ss : List Sl} : Hs a = none → F a = none → RpO K F H a d → (∀ (j : Nat) (d' : D), ss[j]? = some (Sl.ow d') → vs[j]? ≠ some (V.ref a)) → RSl K Hs F H vs ss → RSl K Hs F H (.ref a :: vs) (.ow d :: ss)
theorem RSl.length : ∀ {vs : List V} {ss : List Sl}, RSl K Hs F H vs ss → vs.length = ss.length
  | _, _, .nil => rfl
  | _, _, .fz _ t => congrArg (· + 1) (RSl.length t)
  | _, _, .ow _ _ _ _ t => congrArg (· + 1) (RSl.length t)
theorem RSl.start {Hs' : Hp} (h : Same Hs Hs') : ∀ {vs : List V} {ss : List Sl}, RSl K Hs' F H vs ss → RSl K Hs F H vs ss
  | _, _, .nil => .nil
  | _, _, .fz r t => .fz r (RSl.start h t)
  | _, _, .ow n f r d t => .ow (h.free n) f r d (RSl.start h t)
theorem RSl.fresh : ∀ {vs : List V} {ss : List Sl}, RSl K Hs F H vs ss → ∀ (j : Nat) (d' : D), ss[j]? = some (Sl.ow d') → ∀ a, vs[j]? = some (V.ref a) → Hs a = none
  | _, _, .nil, j, d', e, a, q => by simp at e
  | _, _, .fz r t, 0, d', e, a, q => by simp at e
  | _, _, .fz r t, j + 1, d', e, a, q => RSl.fresh t j d' (by simpa using e) a (by simpa using q)
  | _, _, .ow n f r d t, 0, d', e, a, q => by simp at q; subst q; exact n
  | _, _, .ow n f r d t, j + 1, d', e, a, q => RSl.fresh t j d' (by simpa using e) a (by simpa using q)
/-- stored from the left -/
def setAll : List Nat → List V → St → St
  | i :: is, v :: vs, σ => setAll is vs (σ.set i (some v))
  | _, _, σ => σ
theorem sr_all : ∀ (is : List Nat) (vs : List V) (ss : List Sl) (σ : St) (env env' : En), SR K H0 F0 F H σ env → RSl K Hs F H vs ss → (∀ a, Hs a = none → H0 a = none) → (∀ j d', gt env j = some (.ow d') → ∀ (m : Nat) (d2 : D) (a : Addr), ss[m]? = some (Sl.ow d2) → vs[m]? = some (V.ref a) → σ[j]? ≠ some (some (.ref a))) →
    ptSl is ss env = some env' → SR K H0 F0 F H (setAll is vs σ) env'
  | [], vs, ss, σ, env, env', S, r, h0, nw, e => by
    cases r with
    | nil =>
      have e' : env = env' := Option.some.inj e
      subst e'
      exact S
    | fz _ _ => cases e
    | ow _ _ _ _ _ => cases e
  | i :: is, vs, ss, σ, env, env', S, r, h0, nw, e => by
    cases r with
    | nil => cases e
    | fz rv t =>
      refine sr_all is _ _ _ _ env' (S.set i rv) t h0 (fun j d' g m d2 a q1 q2 => ?_) e
      rcases gt_pt _ _ _ _ _ g with ⟨rfl, e', l⟩ | ⟨ne, e'⟩
      · cases e'
      · rw [List.getElem?_set_ne ne]
        exact nw j d' e' (m + 1) d2 a (by simpa using q1) (by simpa using q2)
    | @ow a d vs ss n f rv dj t =>
      refine sr_all is _ _ _ _ env' (S.setO i (h0 a n) f rv fun j d' g ne => nw j d' g 0 d a rfl rfl) t h0 (fun j d' g m d2 b q1 q2 => ?_) e
      rcases gt_pt _ _ _ _ _ g with ⟨rfl, e', l⟩ | ⟨ne, e'⟩
      · rw [List.getElem?_set_self (by rw [S.len]; exact l)]
        intro z
        cases z
        exact dj m d2 q1 q2
      · rw [List.getElem?_set_ne ne]
        exact nw j d' e' (m + 1) d2 b (by simpa using q1) (by simpa using q2)
end
def GotO (K : PySem.W.Frag) (W : WS) (F H : Hp) (σ : St) (Q : List V → Hp → Prop) : Res (List Sl) → Prop
  | .ok ss => ∀ vs F' H', Gd F H F' H' → RSl K H F' H' vs ss → Q vs H'
  | .exc c => ∀ F' H', Gd F H F' H' → W c σ H'
  | .bad => False
def rdO (K : PySem.W.Frag) (W : WS) (ov : Ov) : TA := fun σ H Q => ∃ H0 F0 F env, SR K H0 F0 F H σ env ∧ GotO K W F H σ Q (ov env)
def PLv (ct : String → Addr) (k : Nat) (X : Cx) (W : WS) (es : List Expr) (ov : Ov) : Prop := Cz ct k X W → PA X es (rdO X.K W ov)
section
variable {ct : String → Addr} {k : Nat} {X : Cx} {W : WS} {e a b c : Expr} {es xs : List Expr} {pos : Pos} {ev ea eb ec : Xv} {ov : Ov} {aa : Av}
theorem l_nil : PLv ct k X W [] oNil := fun C => pa_nil.imp fun σ H Q ⟨H0, F0, F, env, S, g⟩ => g [] F H (.refl S.sub) .nil
theorem l_fz (ha : PEv ct k X W e ea) (hr : PLv ct k X W es ov) (hs : starEach (e :: es) X.env = (false, eval e X.env) :: starEach es X.env := by rfl) : PLv ct k X W (e :: es) (oF ea ov) := fun C =>
  (pa_cons (ha C) (hr C) hs).imp fun σ H Q ⟨H0, F0, F, env, S, g⟩ => ⟨H0, F0, F, env, S, by
    unfold oF at g
    cases q : ea env with
    | ok d =>
      rw [q] at g
      intro v F1 H1 g1 rv
      refine ⟨H0, F0, F1, env, S.grow g1, ?_⟩
      have g' : GotO X.K W F H σ Q ((ov env).bind fun xs => .ok (.fz d :: xs)) := g
      cases z : ov env with
      | ok ss =>
        rw [z] at g'
        exact fun vs F2 H2 g2 r => g' (v :: vs) F2 H2 (g1.trans g2) (.fz (rv.mono g2.ff) (r.start g1.hh))
      | exc c => rw [z] at g'; exact fun F' H' gd => g' F' H' (g1.trans gd)
      | bad => rw [z] at g'; exact g'
    | exc c => rw [q] at g; exact g
    | bad => rw [q] at g; exact g⟩
theorem got_ow {K : PySem.W.Frag} {F H F1 H1 Hp2 : Hp} {σ : St} {Q : List V → Hp → Prop} {p : Addr} {o : HO} {d : D} {r : Res (List Sl)} (g1 : Gd F H F1 H1) (np : H1 p = none) (ro : ∀ F' H', Gd F1 (upd H1 p o) F' H' → F' p = none → RpO K F' H' p d) (s1 : Sub F1 H1)
    (g : GotO K W F H σ Q (r.bind fun ss => .ok (.ow d :: ss))) : GotO K W F1 (upd H1 p o) σ (fun vs H' => Q (.ref p :: vs) H') r := by
  have g2 := Gd.drop (o := o) s1 np
  cases r with
  | ok ss =>
    intro vs F3 H3 g3 rr
    have nf1 : F1 p = none := by
      cases z : F1 p with
      | none => rfl
      | some u =>
        rcases s1 p u z with q | ⟨o', q⟩
        · rw [np] at q; cases q
        · rw [np] at q; cases q
    have nf : F3 p = none := by
      cases z : F3 p with
      | none => rfl
      | some u =>
        rcases g3.nw p (by rw [z]; simp) with q | q
        · exact absurd nf1 q
        · rw [upd_same] at q; cases q
    refine g _ _ _ ((g1.trans g2).trans g3) (.ow (g1.hh.free np) nf (ro F3 H3 g3 nf) (fun j d' e1 e2 => ?_) (rr.start (g1.hh.trans g2.hh)))
    have := rr.fresh j d' e1 p e2
    rw [upd_same] at this
    cases this
  | exc c => exact fun F' H' gd => g F' H' ((g1.trans g2).trans gd)
  | bad => exact g
theorem l_lst (ha : PAv ct k X W xs aa) (hr : PLv ct k X W es ov) (hs : starEach (.List xs pos :: es) X.env = (false, eval (.List xs pos) X.env) :: starEach es X.env := by rfl) : PLv ct k X W (.List xs pos :: es) (oL aa ov) := fun C =>
  (pa_cons (pe_lst (ha C)) (hr C) hs).imp fun σ H Q ⟨H0, F0, F, env, S, g⟩ => ⟨H0, F0, F, env, S, by
    unfold oL at g
    cases q : aa env with
    | ok ds =>
      rw [q] at g
      intro vs F1 H1 g1 rv
      have g' : GotO X.K W F H σ Q (if ds.length ≤ LIM then (ov env).bind fun ss => .ok (.ow (.lst ds) :: ss) else .bad) := g
      by_cases z : ds.length ≤ LIM
      · rw [if_pos z] at g'
        have z' : vs.length ≤ LIM := by rw [rv.length]; exact z
        refine ⟨by rw [lim]; exact z', fun p np => ?_⟩
        have S1 := S.grow g1
        exact ⟨H0, F0, F1, env, S1.grow (Gd.drop S1.sub np), got_ow (Hp2 := H) g1 np (fun F' H' gd nf => .lst (gd.hh _ _ upd_same) z' (RpA.mono gd.ff rv)) S1.sub g'⟩
      · rw [if_neg z] at g'; exact g'.elim
    | exc c => rw [q] at g; exact g
    | bad => rw [q] at g; exact g⟩
theorem l_dic (hr : PLv ct k X W es ov) (hs : starEach (.Dict [] [] pos :: es) X.env = (false, eval (.Dict [] [] pos) X.env) :: starEach es X.env := by rfl) : PLv ct k X W (.Dict [] [] pos :: es) (oD ov) := fun C =>
  (pa_cons pe_dnewK (hr C) hs).imp fun σ H Q ⟨H0, F0, F, env, S, g⟩ => fun p np =>
    ⟨H0, F0, F, env, S.grow (Gd.drop S.sub np), got_ow (Hp2 := H) (.refl S.sub) np (fun F' H' gd nf => .dic (gd.hh _ _ upd_same) (Nat.zero_le _) .nil) S.sub g⟩
/-- what the store of several values needs -/
theorem own_done {K : PySem.W.Frag} {H0 F0 F H F1 H1 : Hp} {σ : St} {env env' : En} {is : List Nat} {vs : List V} {ss : List Sl} (S : SR K H0 F0 F H σ env) (g : Gd F H F1 H1) (r : RSl K H F1 H1 vs ss) (e : ptSl is ss env = some env') : SR K H0 F0 F1 H1 (setAll is vs σ) env' :=
  sr_all is vs ss σ env env' (S.grow g) r (fun a h => S.gd.hh.free h) (fun j d' q m d2 a h1 h2 z => by
    have n := r.fresh m d2 h1 a h2
    obtain ⟨b, h3, _, _, h4⟩ := S.ow j d' q
    rw [z] at h3
    cases h3
    obtain ⟨o, ho⟩ := h4.there
    rw [n] at ho; cases ho) e
theorem ptSl_len : ∀ (is : List Nat) (ss : List Sl) (env env' : En), ptSl is ss env = some env' → is.length = ss.length
  | [], [], _, _, _ => rfl
  | [], _ :: _, _, _, e => by cases e
  | _ :: _, [], _, _, e => by cases e
  | _ :: is, _ :: ss, _, _, e => congrArg (· + 1) (ptSl_len is ss _ _ e)
theorem own_seq {K : PySem.W.Frag} {Dn : Ends} {H0 F0 F H : Hp} {σ : St} {env : En} {is : List Nat} {R : List V → Hp → Prop} (S : SR K H0 F0 F H σ env) (g : GotS K W H0 F0 Dn (sOwn is ov env))
    (h : ∀ vs H1, vs.length = is.length → Dn.nx (setAll is vs σ) H1 → R vs H1) : rdO K W ov σ H R := by
  refine ⟨H0, F0, F, env, S, ?_⟩
  unfold sOwn at g
  cases q : ov env with
  | ok ss =>
    rw [q] at g
    have g' : GotS K W H0 F0 Dn (match ptSl is ss env with | some env' => Fl.nx env' | none => Fl.bad) := g
    cases z : ptSl is ss env with
    | none => rw [z] at g'; exact g'.elim
    | some env' =>
      rw [z] at g'
      exact fun vs F1 H1 g1 r => h vs H1 (r.length.trans (ptSl_len _ _ _ _ z).symm) (g' _ F1 H1 (own_done S g1 r z))
  | exc c => rw [q] at g; exact fun F' H' gd => g σ F' H' (S.grow gd)
  | bad => rw [q] at g; exact g.elim
/-- x = [..] -/
theorem s_newL (i : Nat) {x : Str} {p q : Pos} (ha : PAv ct k X W xs aa) (hi : X.N[i]? = some x := by rfl) (hx : Loc X.env.scope x := by first | exact Or.inl rfl | exact Or.inr rfl) (hf : X.fn x = true ∨ X.env.scope.names.lookup x = some .local := by first | exact .inl rfl | exact .inr rfl)
    (hs : swapsWith (.List xs q) (some (.Name x p)) pos.line X.env = pure false := by rfl) : PSv ct k X W (.Assign [.Name x p] (.List xs q) pos) (sOwn [i] (oL aa oNil)) := fun C =>
  (ps_set C.nd hi hx (pe_lst (ha C)) hs hf).imp fun Dn σ H ⟨H0, F0, F, env, S, g⟩ => ⟨H0, F0, F, env, S, by
    unfold sOwn oL at g
    cases q : aa env with
    | ok ds =>
      rw [q] at g
      intro vs F1 H1 g1 rv
      by_cases z : ds.length ≤ LIM
      · have g' : GotS X.K W H0 F0 Dn (Fl.nx (pt env i (some (.ow (.lst ds))))) := by
          simp only [Res.bind, Res.fl, if_pos z, oNil, ptSl] at g
          exact g
        have z' : vs.length ≤ LIM := by rw [rv.length]; exact z
        refine ⟨by rw [lim]; exact z', fun p np => ?_⟩
        have S1 := S.grow g1
        have g2 := Gd.drop (o := .lst vs) S1.sub np
        refine g' _ F1 _ (own_done (is := [i]) (vs := [.ref p]) (ss := [.ow (.lst ds)]) S (g1.trans g2) (.ow (g1.hh.free np) ?_ (.lst upd_same z' rv) (fun j d' e => by simp at e) .nil) rfl)
        cases y : F1 p with
        | none => rfl
        | some u =>
          rcases S1.sub p u y with q | ⟨o', q⟩
          · rw [np] at q; cases q
          · rw [np] at q; cases q
      · simp only [Res.bind, Res.fl, if_neg z] at g
        exact g.elim
    | exc c => rw [q] at g; exact fun F' H' gd => g σ F' H' (S.grow gd)
    | bad => rw [q] at g; exact g.elim⟩
/-- x = {} -/
theorem s_newD (i : Nat) {x : Str} {p q : Pos} (hi : X.N[i]? = some x := by rfl) (hx : Loc X.env.scope x := by first | exact Or.inl rfl | exact Or.inr rfl) (hf : X.fn x = true ∨ X.env.scope.names.lookup x = some .local := by first | exact .inl rfl | exact .inr rfl)
    (hs : swapsWith (.Dict [] [] q) (some (.Name x p)) pos.line X.env = pure false := by rfl) : PSv ct k X W (.Assign [.Name x p] (.Dict [] [] q) pos) (sOwn [i] (oD oNil)) := fun C =>
  (ps_set C.nd hi hx pe_dnewK hs hf).imp fun Dn σ H ⟨H0, F0, F, env, S, g⟩ => fun p np => by
    have g2 := Gd.drop (o := .dK []) S.sub np
    refine g _ F _ (own_done (is := [i]) (vs := [.ref p]) (ss := [.ow (.dic [])]) S g2 (.ow np ?_ (.dic upd_same (Nat.zero_le _) .nil) (fun j d' e => by simp at e) .nil) rfl)
    cases y : F p with
    | none => rfl
    | some u =>
      rcases S.sub p u y with q | ⟨o', q⟩
      · rw [np] at q; cases q
      · rw [np] at q; cases q
/-- x, y = a, b: plain locals -/
theorem s_par2 (i j : Nat) {x y : Str} {px py pt' : Pos} {kt k2 pt2} (ha : PLv ct k X W [a, b] ov) (hw : swappedStores [.Tuple [.Name x px, .Name y py] kt pt'] (.Tuple [a, b] k2 pt2) X.env = pure (some [x, y])) (hij : i ≠ j := by decide) (hi : X.N[i]? = some x := by rfl) (hj : X.N[j]? = some y := by rfl)
    (hx : X.env.scope.names.lookup x = some .local := by rfl) (hy : X.env.scope.names.lookup y = some .local := by rfl)
    (hs : swapsWithSole [.Tuple [.Name x px, .Name y py] kt pt'] (.Tuple [a, b] k2 pt2) pos.line X.env = pure false := by rfl) : PSv ct k X W (.Assign [.Tuple [.Name x px, .Name y py] kt pt'] (.Tuple [a, b] k2 pt2) pos) (sOwn [i, j] ov) := fun C =>
  (ps_par C.calm C.nd hi hj hij hx hy (ha C) hw hs).imp fun Dn σ H ⟨H0, F0, F, env, S, g⟩ => own_seq S g fun vs H1 hl q => by
    match vs, hl with
    | [v, w], _ => exact ⟨v, w, rfl, q⟩
theorem s_par3 (i j l : Nat) {x y z : Str} {px py pz pt' : Pos} {kt k2 pt2} (ha : PLv ct k X W [a, b, c] ov) (hw : swappedStores [.Tuple [.Name x px, .Name y py, .Name z pz] kt pt'] (.Tuple [a, b, c] k2 pt2) X.env = pure (some [x, y, z])) (hij : i ≠ j := by decide) (hil : i ≠ l := by decide) (hjl : j ≠ l := by decide) (hi : X.N[i]? = some x := by rfl) (hj : X.N[j]? = some y := by rfl) (hl : X.N[l]? = some z := by rfl)
    (hx : X.env.scope.names.lookup x = some .local := by rfl) (hy : X.env.scope.names.lookup y = some .local := by rfl) (hz : X.env.scope.names.lookup z = some .local := by rfl)
    (hs : swapsWithSole [.Tuple [.Name x px, .Name y py, .Name z pz] kt pt'] (.Tuple [a, b, c] k2 pt2) pos.line X.env = pure false := by rfl) : PSv ct k X W (.Assign [.Tuple [.Name x px, .Name y py, .Name z pz] kt pt'] (.Tuple [a, b, c] k2 pt2) pos) (sOwn [i, j, l] ov) := fun C =>
  (ps_par3 C.calm C.nd hi hj hl hij hil hjl hx hy hz (ha C) hw hs).imp fun Dn σ H ⟨H0, F0, F, env, S, g⟩ => own_seq S g fun vs H1 hl q => by
    match vs, hl with
    | [v, w, u], _ => exact ⟨v, w, u, rfl, q⟩
theorem gns_all : ∀ (is : List Nat) (vs : List V) (σ : St) (H : Hp) (Q : St → Hp → Prop), vs.length = is.length → Q (setAll is vs σ) H → gNs is vs σ H Q
  | [], [], σ, H, Q, _, q => ⟨rfl, q⟩
  | [], _ :: _, _, _, _, h, _ => by cases h
  | _ :: _, [], _, _, _, h, _ => by cases h
  | i :: is, v :: vs, σ, H, Q, h, q => ⟨v, vs, rfl, gns_all is vs _ H Q (Nat.succ.inj h) q⟩
/-- x, y, .. = a, b, ..: not all plain locals -/
theorem s_parT {is : List Nat} {tgs : List Expr} {kt k2 : Nat} {pt' pt2 : Pos} (ha : PLv ct k X W es ov) (hg : X.N.Nodup → X.calm = true → PGsv X tgs is) (hz : is.length ≤ LIM := by decide) (hw : swappedStores [.Tuple tgs kt pt'] (.Tuple es k2 pt2) X.env = pure none := by rfl)
    (hs : swapsWithSole [.Tuple tgs kt pt'] (.Tuple es k2 pt2) pos.line X.env = pure false := by rfl) (h1 : (assignEach [.Tuple tgs kt pt'] X.env).map (·.2) = [assign (.Tuple tgs kt pt') X.env] := by rfl) (hn : (assignEach tgs X.env).length = is.length := by rfl) (hst : (assignEach tgs X.env).findIdx? (·.1) = none := by rfl) :
    PSv ct k X W (.Assign [.Tuple tgs kt pt'] (.Tuple es k2 pt2) pos) (sOwn is ov) := fun C =>
  (ps_asg (pe_tup (ha C)) (pg_tup C.calm (hg C.nd C.calm) hn hst) hs hw h1).imp fun Dn σ H ⟨H0, F0, F, env, S, g⟩ => by
    refine ⟨H0, F0, F, env, S, ?_⟩
    unfold sOwn at g
    cases q : ov env with
    | ok ss =>
      rw [q] at g
      have g' : GotS X.K W H0 F0 Dn (match ptSl is ss env with | some env' => Fl.nx env' | none => Fl.bad) := g
      cases z : ptSl is ss env with
      | none => rw [z] at g'; exact g'.elim
      | some env' =>
        rw [z] at g'
        intro vs F1 H1 g1 r
        have hl := r.length.trans (ptSl_len _ _ _ _ z).symm
        have S1 := own_done S g1 r z
        refine ⟨by rw [lim, hl]; exact hz, fun p np => ?_⟩
        refine ⟨p, vs, rfl, .inl (.inl upd_same), hl, gns_all is vs σ _ _ hl ?_⟩
        exact g' _ F1 _ (S1.grow (Gd.drop S1.sub np))
    | exc c => rw [q] at g; exact fun F' H' gd => g σ F' H' (S.grow gd)
    | bad => rw [q] at g; exact g.elim
/-! ### changes -/
theorem own_at {K : PySem.W.Frag} {H0 F0 F H : Hp} {σ : St} {env : En} {i : Nat} {ds : List D} (S : SR K H0 F0 F H σ env) (e : gt env i = some (.ow (.lst ds))) : ∃ a vs, σ[i]? = some (some (.ref a)) ∧ F a = none ∧ H a = some (.lst vs) ∧ vs.length ≤ LIM ∧ RpA K F vs ds := by
  obtain ⟨a, h1, h2, h3, h4⟩ := S.ow i _ e
  cases h4 with
  | lst q z r => exact ⟨a, _, h1, h3, q, z, r⟩
theorem own_atD {K : PySem.W.Frag} {H0 F0 F H : Hp} {σ : St} {env : En} {i : Nat} {ds : List (List Nat × D)} (S : SR K H0 F0 F H σ env) (e : gt env i = some (.ow (.dic ds))) : ∃ a vs, σ[i]? = some (some (.ref a)) ∧ F a = none ∧ H a = some (.dK vs) ∧ vs.length ≤ LIM ∧ RpK K F vs ds := by
  obtain ⟨a, h1, h2, h3, h4⟩ := S.ow i _ e
  cases h4 with
  | dic q z r => exact ⟨a, _, h1, h3, q, z, r⟩
/-- x.append(e) -/
theorem s_app (i : Nat) {x : Str} {p apos cpos : Pos} (he : PEv ct k X W e ev) (hN : X.N[i]? = some x := by rfl) (hv : Vis X.env.scope x := by first | exact Or.inl rfl | exact Or.inr (Or.inl rfl) | exact Or.inr (Or.inr rfl)) (hd : (x == ("__debug__" : Str)) = false := by decide)
    (hcd : (x == ("__classdict__" : Str)) = false := by decide) (hst : starEach [e] X.env = (false, eval e X.env) :: starEach [] X.env := by rfl)
    (hbase : attributeBase (.Name x p) "append" X.env (eval (.Name x p) X.env) = eval (.Name x p) X.env := by rfl)
    (hfew : ((backTo cpos (starEach [e] X.env)).all (fun x => !x.1) && (backToKw cpos (keywordEach [] X.env)).all (fun x => x.1.isSome) && decide (([e] : List Expr).length + ([] : List Keyword).length + (if ([] : List Keyword).isEmpty then 0 else 1) < 30)) = true := by rfl)
    (hline : (apos.endLine == cpos.line) = true := by rfl) (hplain : (backTo cpos (starEach [] X.env)).any (·.1) = false := by rfl)
    (hs : swapsWith (.Call (.Attribute (.Name x p) "append" apos) [e] [] cpos) none pos.line X.env = pure false := by rfl) : PSv ct k X W (.Expr (.Call (.Attribute (.Name x p) "append" apos) [e] [] cpos) pos) (sApp i ev) := fun C =>
  (ps_expr (pe_bm PySem.F.plainAttrs_list PySem.F.slot_list_append PySem.F.type_list_append mt_append (pe_var hN hv hd hcd) (pa_cons (he C) pa_nil hst) hbase hfew hline hst hplain) hs).imp fun Dn σ H ⟨H0, F0, F, env, S, g⟩ => by
    unfold sApp at g
    cases q : gt env i with
    | none => rw [q] at g; exact g.elim
    | some s =>
      rw [q] at g
      cases s with
      | fz d => exact g.elim
      | ow d =>
        cases d with
        | lst ds =>
          dsimp only at g
          obtain ⟨p, vs, h1, h2, h3, h4, h5⟩ := own_at S q
          refine ⟨_, h1, .inl ⟨rfl, _, .inl (.inl h3)⟩, ?_⟩
          refine sseq S g fun v d F1 H1 S1 g1 rv g' => ?_
          obtain ⟨p', vs', h1', h2', h3', h4', h5'⟩ := own_at S1 q
          rw [h1] at h1'
          cases h1'
          by_cases z : ds.length < LIM
          · rw [if_pos z] at g'
            have z' : vs'.length < LIM := by rw [h5'.length]; exact z
            refine ⟨p, vs', v, rfl, rfl, h3', by rw [lim]; exact z', g' σ F1 _ (S1.write q h1 (.lst upd_same (by simp; omega) (h5'.append (.cons rv .nil))))⟩
          · rw [if_neg z] at g'; exact g'.elim
        | _ => exact g.elim
def rExtR : V → List V → Hp → VK → Prop := fun x vs H Q => ∃ l b xs zs, x = .ref l ∧ vs = [.ref b] ∧ H l = some (.lst xs) ∧ Rd H b (.lst zs) ∧ xs.length + zs.length ≤ sizeLine ∧ Q .non (upd H l (.lst (xs ++ zs)))
theorem mt_extR : MtM X "list.extend" rExtR := by
  intro pins s σ H x vs v us Q I rx rv h
  obtain ⟨l, b, xs, zs, rfl, rfl, hH, hB, hz, q⟩ := h
  cases rx
  obtain ⟨u, rfl, ru⟩ := rv.one
  cases ru
  obtain ⟨z, its, n, r, hl, e⟩ := I.lstM hH
  obtain ⟨z2, its2, n2, r2, e2⟩ := hB.ok I.hok
  have hl2 := r2.length
  have hsz : its.toArray.size + its2.toArray.size ≤ sizeLine := by rw [List.size_toArray, List.size_toArray]; omega
  have hlong : ¬ (!its.toArray.isEmpty && Builtin.List.listTooLong (its.toArray.size + its2.toArray.size)) = true := by
    rw [notLongL hsz, Bool.and_false]
    exact Bool.false_ne_true
  refine call_meets F.slot_list_extend ⟨_, e, rfl⟩ F.entry_list_extend (F.args_list_extend_2 _ _)
    (AutoSeq1.list_extend_list_list_0 l its.toArray n b its2.toArray n2 hlong (by rw [List.size_toArray]; omega) (by omega)) ⟨e, e2, ?_⟩
  refine ⟨.non, _, I.lset (its' := its ++ its2) hH e (by simp) (r.append r2) ?_, rfl, q⟩
  rw [List.length_append]
  exact hz
/-- x.extend(e) -/
theorem s_ext (i : Nat) {x : Str} {p apos cpos : Pos} (he : PEv ct k X W e ev) (hN : X.N[i]? = some x := by rfl) (hv : Vis X.env.scope x := by first | exact Or.inl rfl | exact Or.inr (Or.inl rfl) | exact Or.inr (Or.inr rfl)) (hd : (x == ("__debug__" : Str)) = false := by decide)
    (hcd : (x == ("__classdict__" : Str)) = false := by decide) (hst : starEach [e] X.env = (false, eval e X.env) :: starEach [] X.env := by rfl)
    (hbase : attributeBase (.Name x p) "extend" X.env (eval (.Name x p) X.env) = eval (.Name x p) X.env := by rfl)
    (hfew : ((backTo cpos (starEach [e] X.env)).all (fun x => !x.1) && (backToKw cpos (keywordEach [] X.env)).all (fun x => x.1.isSome) && decide (([e] : List Expr).length + ([] : List Keyword).length + (if ([] : List Keyword).isEmpty then 0 else 1) < 30)) = true := by rfl)
    (hline : (apos.endLine == cpos.line) = true := by rfl) (hplain : (backTo cpos (starEach [] X.env)).any (·.1) = false := by rfl)
    (hs : swapsWith (.Call (.Attribute (.Name x p) "extend" apos) [e] [] cpos) none pos.line X.env = pure false := by rfl) : PSv ct k X W (.Expr (.Call (.Attribute (.Name x p) "extend" apos) [e] [] cpos) pos) (sExt i ev) := fun C =>
  (ps_expr (pe_bm PySem.F.plainAttrs_list PySem.F.slot_list_extend PySem.F.type_list_extend mt_extR (pe_var hN hv hd hcd) (pa_cons (he C) pa_nil hst) hbase hfew hline hst hplain) hs).imp fun Dn σ H ⟨H0, F0, F, env, S, g⟩ => by
    unfold sExt at g
    cases q : gt env i with
    | none => rw [q] at g; exact g.elim
    | some s =>
      rw [q] at g
      cases s with
      | fz d => exact g.elim
      | ow d =>
        cases d with
        | lst ds =>
          dsimp only at g
          obtain ⟨p, vs, h1, h2, h3, h4, h5⟩ := own_at S q
          refine ⟨_, h1, .inl ⟨rfl, _, .inl (.inl h3)⟩, ?_⟩
          refine sseq S g fun v d F1 H1 S1 g1 rv g' => ?_
          obtain ⟨p', vs', h1', h2', h3', h4', h5'⟩ := own_at S1 q
          rw [h1] at h1'
          cases h1'
          cases d with
          | lst es =>
            obtain ⟨b, zs, rfl, hb, hz, rb⟩ := bo_lst S1.sub (.inl rv)
            dsimp only [exD] at g'
            by_cases z : ds.length + es.length ≤ LIM
            · rw [if_pos z] at g'
              have z' : vs'.length + zs.length ≤ LIM := by rw [h5'.length, rb.length]; exact z
              refine ⟨p, b, vs', zs, rfl, rfl, h3', hb, by rw [lim]; exact z', g' σ F1 _ (S1.write q h1 (.lst upd_same (by simpa using z') (h5'.append rb)))⟩
            · rw [if_neg z] at g'; exact g'.elim
          | _ => exact g'.elim
        | _ => exact g.elim
theorem rpK_any {K : PySem.W.Frag} {F : Hp} {key : List Nat} : ∀ {kvs : List (Key × V)} {ds : List (List Nat × D)}, RpK K F kvs ds → (kvs.any fun kv => decide (kv.1 = Sum.inr (tx key))) = ds.any fun kv => decide (kv.1 = key)
  | _, _, .nil => rfl
  | _, _, @RpK.cons _ _ k v kvs d ds z r t => by
    rw [List.any_cons, List.any_cons, rpK_any t]
    congr 1
    by_cases e : k = key
    · subst e; simp
    · have : (Sum.inr (tx k) : Key) ≠ Sum.inr (tx key) := fun q => e (tx_inj (Sum.inr.inj q))
      simp [e, this]
theorem rpK_map {K : PySem.W.Frag} {F : Hp} {key : List Nat} {v : V} {d : D} (r : Rp K F v d) : ∀ {kvs : List (Key × V)} {ds : List (List Nat × D)}, RpK K F kvs ds → RpK K F (kvs.map fun kv => if kv.1 = Sum.inr (tx key) then (kv.1, v) else kv) (ds.map fun kv => if kv.1 = key then (kv.1, d) else kv)
  | _, _, .nil => .nil
  | _, _, @RpK.cons _ _ k v' kvs d' ds z r' t => by
    rw [List.map_cons, List.map_cons]
    by_cases e : k = key
    · subst e
      rw [if_pos rfl, if_pos rfl]
      exact .cons z r (rpK_map r t)
    · have : (Sum.inr (tx k) : Key) ≠ Sum.inr (tx key) := fun q => e (tx_inj (Sum.inr.inj q))
      rw [if_neg this, if_neg e]
      exact .cons z r' (rpK_map r t)
theorem rpK_snoc {K : PySem.W.Frag} {F : Hp} {key : List Nat} {v : V} {d : D} (z : okS key) (r : Rp K F v d) : ∀ {kvs : List (Key × V)} {ds : List (List Nat × D)}, RpK K F kvs ds → RpK K F (kvs ++ [(Sum.inr (tx key), v)]) (ds ++ [(key, d)])
  | _, _, .nil => .cons z r .nil
  | _, _, .cons z' r' t => .cons z' r' (rpK_snoc z r t)
theorem rpK_put {K : PySem.W.Frag} {F : Hp} {key : List Nat} {v : V} {d : D} {kvs : List (Key × V)} {ds : List (List Nat × D)} (z : okS key) (r : Rp K F v d) (t : RpK K F kvs ds) : RpK K F (putK kvs (Sum.inr (tx key)) v) (putD ds key d) := by
  unfold putK putD
  rw [rpK_any t]
  split
  · exact rpK_map r t
  · exact rpK_snoc z r t
theorem putK_len (kvs : List (Key × V)) (k : Key) (v : V) : (putK kvs k v).length ≤ kvs.length + 1 := by
  unfold putK
  split
  · simp
  · simp
/-- x[i] = v, x an owned dict -/
theorem s_put (i : Nat) {x : Str} {p p' : Pos} {kx vx : Xv} {ke ve : Expr} (hk : PEv ct k X W ke kx) (hve : PEv ct k X W ve vx) (hN : X.N[i]? = some x := by rfl) (hv : Vis X.env.scope x := by first | exact Or.inl rfl | exact Or.inr (Or.inl rfl) | exact Or.inr (Or.inr rfl)) (hd : (x == ("__debug__" : Str)) = false := by decide)
    (hcd : (x == ("__classdict__" : Str)) = false := by decide) (hs : swapsWith ve (some (.Subscript (.Name x p) ke p')) pos.line X.env = pure false := by rfl) : PSv ct k X W (.Assign [.Subscript (.Name x p) ke p'] ve pos) (sPut i kx vx) := fun C =>
  (ps_dput (hu_of C.room) (pe_var hN hv hd hcd) (hk C) (hve C) hs).imp fun Dn σ H ⟨H0, F0, F, env, S, g⟩ => sseq S g fun v d F1 H1 S1 g1 rv g' => by
    cases q : gt env i with
    | none => rw [q] at g'; exact g'.elim
    | some s =>
      rw [q] at g'
      cases s with
      | fz d => exact g'.elim
      | ow dd =>
        cases dd with
        | dic ds =>
          dsimp only at g'
          obtain ⟨p, vs, h1, h2, h3, h4, h5⟩ := own_atD S1 q
          refine ⟨_, h1, sseq S1 g' fun y e F2 H2 S2 g2 ry g3 => ?_⟩
          cases e with
          | str key =>
            obtain ⟨p', vs', h1', h2', h3', h4', h5'⟩ := own_atD S2 q
            rw [h1] at h1'
            cases h1'
            obtain ⟨ey, hy⟩ := bo_str (H := H2) (.inl ry)
            dsimp only at g3
            by_cases z : ds.length < LIM
            · rw [if_pos z] at g3
              have z' : vs'.length < LIM := by rw [h5'.length]; exact z
              refine ⟨p, _, rfl, .inl ⟨vs', Sum.inr (tx key), h3', ey, by rw [lim]; exact z', rfl⟩, g3 σ F2 _ (S2.write q h1 (.dic upd_same ?_ (rpK_put hy (rv.mono g2.ff) h5')))⟩
              have := putK_len vs' (Sum.inr (tx key)) v
              omega
            · rw [if_neg z] at g3; exact g3.elim
          | _ => exact g3.elim
        | _ => exact g'.elim
/-- ghost: a slot is owned no more -/
theorem s_frz (i : Nat) {st : Stmt} {s : Sv} (h : PSv ct k X W st s) : PSv ct k X W st (sFrz i s) := fun C => (h C).imp fun Dn σ H ⟨H0, F0, F, env, S, g⟩ => by
  obtain ⟨F', S'⟩ := S.frz i
  exact ⟨H0, F0, F', _, S', g⟩
theorem ss_frz (i : Nat) {st : List Stmt} {s : Sv} (h : PSsv ct k X W st s) : PSsv ct k X W st (sFrz i s) := fun C => (h C).imp fun Dn σ H ⟨H0, F0, F, env, S, g⟩ => by
  obtain ⟨F', S'⟩ := S.frz i
  exact ⟨H0, F0, F', _, S', g⟩
end
end Pv

namespace Pv
open PySem PySem.Spec L2
/-! ### sorted -/
theorem each_rel {P : V → D → Prop} : ∀ {vs : List V} {us : List Value} {ds : List D}, Vals vs us → PySem.W.EachIs P vs ds → PySem.W.EachIs (fun u d => ∃ v, RelV v u ∧ P v d) us ds
  | _, _, _, .nil, .nil => .nil
  | _, _, _, .cons r t, .cons p q => .cons ⟨_, r, p⟩ (each_rel t q)
theorem each_back {P : V → D → Prop} : ∀ {us : List Value} {ds : List D}, PySem.W.EachIs (fun u d => ∃ v, RelV v u ∧ P v d) us ds → ∃ vs, Vals vs us ∧ PySem.W.EachIs P vs ds
  | _, _, .nil => ⟨[], .nil, .nil⟩
  | _, _, .cons ⟨v, r, p⟩ t => by
    obtain ⟨vs, h1, h2⟩ := each_back t
    exact ⟨v :: vs, .cons r h1, .cons p h2⟩
def rSrtL (K : PySem.W.Frag) : List V → Hp → VK → Prop := fun vs H Q => ∃ (a : Addr) (xs : List V) (ds : List D) (P : V → D → Prop), vs = [V.ref a] ∧ SqL K H a xs ∧ DpAll K H xs (ds.map toP) ∧ PySem.W.EachIs P xs ds ∧ PySem.W.AllAlike (ds.map toP) ∧ PySem.W.Sortable (ds.map toP) ∧
  (∀ d ∈ ds, (toP d).depth ≤ 60) ∧ ∀ (ys : List V) (p : Addr), PySem.W.EachIs P ys (ds.mergeSort (PySem.W.dataLe false toP)) → H p = none → Q (.ref p) (upd H p (.lst ys))
section
variable {X : Cx} {k : Nat}
theorem cr_srtL (hr : Room k X.A) : CallR X (.builtin "sorted") (rSrtL X.K) := by
  intro pins s σ H xs us Q I r q
  obtain ⟨a, vs, ds, P, ex, hs, hdp, hp, hal, hk, hdep, q⟩ := q
  subst ex
  obtain ⟨u, rfl, ru⟩ := r.one
  cases ru
  obtain ⟨its, rv, hl, hz⟩ := I.list hs
  obtain ⟨as, hrd⟩ := Dp.readsAll I _ _ its hdp rv
  have hlen : its.length = ds.length := by
    have := (each_rel rv hp).length
    exact this
  have hn : vs.length = its.length := rv.length
  have hl' : s.heap.IsList a its.toArray := by
    obtain ⟨o, n, e, h1, h2, h3⟩ := hl
    exact ⟨o, e, h1, n, h3⟩
  refine PySem.W.sorted_data hl' (each_rel rv hp) (PySem.W.readsAll_each toP hrd) hal hk (by omega) (fun d hd => ?_) fun out ho eo => ?_
  · have := hdep d hd
    have := hr.units
    omega
  · obtain ⟨ys, h1, h2⟩ := each_back eo
    obtain ⟨e', he'⟩ := PyProof.Rows.sortedAll_at s.heap its out.toArray
    refine ⟨.ref (s.heap.objs.size + 1), upd H (s.heap.objs.size + 1) (.lst ys), I.laid (t' := s.toks) (fun b u e => PyProof.Rows.sortedAll_old e) (Nat.le_succ _) ?_, rfl, q ys _ h2 (I.hok.fresh (Nat.le_succ _))⟩
    refine ⟨?_, out, e', h1, he'⟩
    have : ys.length = out.length := h1.length
    omega
end
theorem each_strs : ∀ {acc : List Value} {ks : List (List Nat)}, acc.length = ks.length → (∀ (j : Nat) (v : Value), acc[j]? = some v → ∃ (l : List Nat) (t : Tok), ks[j]? = some l ∧ v = Value.str (tx l) t) → PySem.W.EachIs (fun u (l : List Nat) => ∃ t, u = Value.str (tx l) t) acc ks
  | [], [], _, _ => .nil
  | [], _ :: _, h, _ => by cases h
  | _ :: _, [], h, _ => by cases h
  | u :: acc, l :: ks, h, g => by
    obtain ⟨l', t, e1, e2⟩ := g 0 u rfl
    simp at e1
    subst e1
    exact .cons ⟨t, e2⟩ (each_strs (Nat.succ.inj h) fun j v e => by
      obtain ⟨l'', t', e3, e4⟩ := g (j + 1) v (by simpa using e)
      exact ⟨l'', t', by simpa using e3, e4⟩)
theorem each_vals : ∀ {us : List Value} {ks : List (List Nat)}, PySem.W.EachIs (fun u (l : List Nat) => ∃ t, u = Value.str (tx l) t) us ks → Vals (ks.map fun l => V.str (tx l)) us
  | _, _, .nil => .nil
  | _, _, .cons ⟨t, e⟩ q => .cons ⟨t, e⟩ (each_vals q)
section
variable {X : Cx}
/-- sorted(d), the keys texts, any number of them -/
theorem call_srtD {k : Nat} (hcalm : X.calm = true) (hr : Room k X.A) : CallR X (.builtin "sorted") (fun xs H Q => ∃ (a : Addr) (kvs : List (Key × V)) (ks : List (List Nat)), xs = [.ref a] ∧ Rd H a (.dK kvs) ∧ kvs.map (·.1) = ks.map (fun l => Sum.inr (tx l)) ∧ 
    ∀ p, H p = none → Q (.ref p) (upd H p (.lst ((ks.mergeSort (PySem.W.dataLe false fun l => .str (tx l))).map fun l => V.str (tx l))))) := by
  intro pins s σ H xs us Q I r q
  obtain ⟨a, kvs, ks, ex, hd, hks, q⟩ := q
  subst ex
  obtain ⟨u, rfl, rx⟩ := r.one
  cases rx
  obtain ⟨z, lo, vs, rel, dd⟩ := dk_rd I.hok hd
  obtain ⟨ep, hat⟩ := dd.dictAt
  have hkeys : vs.map (·.1) = ks.map (fun l => Sum.inr (tx l)) := rel.keys.symm.trans hks
  have hl : vs.length = ks.length := by
    have e := congrArg List.length hkeys
    rw [List.length_map, List.length_map] at e
    exact e
  have hkl : kvs.length = ks.length := by
    have e := congrArg List.length hks
    rw [List.length_map, List.length_map] at e
    exact e
  have h16 : vs.length ≤ sizeLine := by rw [hl, ← hkl]; exact z
  refine Calls.call_function_entry PyProof.Rows.kind_sorted PyProof.Rows.plain_sorted PyProof.Rows.entry_sorted (PyProof.Rows.args_sorted1 _) ?_
  unfold Builtin.«sorted»
  refine wpAny_bind (m := checkCount "sorted" 1 1 _) (wpAny_pure ?_)
  refine wpAny_bind (PySem.W.kdu_collect (A := X.A.in1) (PySem.W.kdl_dict (knd := mixKind X.prog X.w) (kvs := vs) (ep := ep) lo) (I.ok.hd hcalm) hat h16 fun h' tk acc hk hacc => ?_)
  have hal : acc.toList.length = ks.length := by rw [Array.length_toList, hacc.1, hl]
  have hS := each_strs hal fun j v e => by
    obtain ⟨k, x, e1, e2⟩ := hacc.2 j v (by rw [← Array.getElem?_toList]; exact e)
    have e3 : (vs.map (·.1))[j]? = some k := by rw [List.getElem?_map, e1]; all_goals rfl
    rw [hkeys, List.getElem?_map] at e3
    cases e4 : ks[j]? with
    | none => rw [e4] at e3; cases e3
    | some y =>
      rw [e4] at e3
      have e5 : Sum.inr (tx y) = k := Option.some.inj e3
      subst e5
      obtain ⟨t, ev⟩ := Value.isStrOf_shape (x := tx y) (v := v) e2
      exact ⟨y, t, rfl, ev⟩
  have I1 : Inv X pins σ H { s with heap := h', toks := tk } := I.kept hk
  refine wpAny_bind (wpAny_newList ?_ (by rw [hal]; omega))
  have hoL : (h'.push (PyProof.Rows.seqObj "list" acc.toList.toArray 0)).get? h'.objs.size = some (PyProof.Rows.seqObj "list" acc.toList.toArray 0) := Heap.get?_push_size _ rfl
  show wpAny _ _ _ _ _ { s with heap := h'.push (PyProof.Rows.seqObj "list" acc.toList.toArray 0), toks := tk }
  refine wpAny_bind (wpAny_holding (PySem.W.list_sort_data (s := { s with heap := h'.push (PyProof.Rows.seqObj "list" acc.toList.toArray 0), toks := tk }) (enc := fun l => .str (tx l)) hoL hS (hS.mono fun u l ⟨t, e⟩ => ⟨[], by subst e; exact .str _ _, by simp⟩)
    (PySem.W.AllAlike.of fun _ _ => by simp [PySem.W.alike]) (PySem.W.Sortable.others fun _ => ⟨by simp, by simp⟩) (by omega) (fun b _ => by have := hr.units; simp [PyData.depth, Around.in1]; omega) fun out ho eo => ?_))
  have hv := each_vals eo
  obtain ⟨e', he'⟩ := PyProof.Rows.sortedHeap_at (vs := acc.toList) (out := out.toArray) hoL
  have hlen : ((ks.mergeSort (PySem.W.dataLe false fun l => .str (tx l))).map fun l => V.str (tx l)).length ≤ sizeLine := by
    rw [hv.length, ho]; omega
  refine wpAny_pure ⟨_, rfl, .ref h'.objs.size, upd H h'.objs.size (.lst _), I1.laid (t' := tk) (fun b u e => ?_) (Nat.le_refl _)
    (show ObjOk X.prog X.w _ _ _ (.lst _) from ⟨hlen, out, e', hv, he'⟩), rfl, q _ (I1.hok.fresh (Nat.le_refl _))⟩
  have hb : b < h'.objs.size := Heap.lt_size e
  rw [PyProof.Rows.sortedHeap_old (Nat.ne_of_lt hb) (by rw [PyProof.Rows.size_push']; exact Nat.lt_succ_of_lt hb)]
  exact Heap.get?_push_of_some _ e
end
end Pv

namespace Pv
open PySem PySem.Spec L2
theorem each_A {K : PySem.W.Frag} {F : Hp} : ∀ {vs : List V} {ds : List D}, RpA K F vs ds → PySem.W.EachIs (Rp K F) vs ds
  | _, _, .nil => .nil
  | _, _, .cons r t => .cons r (each_A t)
theorem A_each {K : PySem.W.Frag} {F : Hp} : ∀ {vs : List V} {ds : List D}, PySem.W.EachIs (Rp K F) vs ds → RpA K F vs ds
  | _, _, .nil => .nil
  | _, _, .cons r t => .cons r (A_each t)
theorem plains_mem : ∀ {ds : List D}, plains ds = true → ∀ d ∈ ds, plain d = true
  | [], _, d, h => nomatch h
  | e :: es, h, d, hd => by
    rw [plains, Bool.and_eq_true] at h
    rcases List.mem_cons.mp hd with q | q
    · subst q; exact h.1
    · exact plains_mem h.2 d q
theorem deps_mem : ∀ {ds : List D} {d : D}, d ∈ ds → dep d ≤ deps ds
  | e :: es, d, hd => by
    rw [deps]
    rcases List.mem_cons.mp hd with q | q
    · subst q; exact Nat.le_max_left _ _
    · exact Nat.le_trans (deps_mem q) (Nat.le_max_right _ _)
theorem ms_congr {α : Type} {le le' : α → α → Bool} : ∀ (l : List α), (∀ a ∈ l, ∀ b ∈ l, le a b = le' a b) → l.mergeSort le = l.mergeSort le' := by
  intro l h
  have mg : ∀ (xs ys : List α), (∀ a ∈ xs, ∀ b ∈ ys, le a b = le' a b) → List.merge xs ys le = List.merge xs ys le' := by
    intro xs
    induction xs with
    | nil => intro ys _; simp
    | cons x xs ih =>
      intro ys
      induction ys with
      | nil => intro _; simp
      | cons y ys ih2 =>
        intro h
        rw [List.cons_merge_cons, List.cons_merge_cons, h x List.mem_cons_self y List.mem_cons_self]
        split
        · rw [ih (y :: ys) fun a ha b hb => h a (List.mem_cons_of_mem _ ha) b hb]
        · rw [ih2 fun a ha b hb => h a ha b (List.mem_cons_of_mem _ hb)]
  have key : ∀ (n : Nat) (l : List α), l.length ≤ n → (∀ a ∈ l, ∀ b ∈ l, le a b = le' a b) → l.mergeSort le = l.mergeSort le' := by
    intro n
    induction n with
    | zero =>
      intro l hl _
      have : l = [] := List.eq_nil_of_length_eq_zero (by omega)
      subst this
      simp
    | succ n ih =>
      intro l hl h
      match l, hl, h with
      | [], _, _ => simp
      | [a], _, _ => simp
      | a :: b :: xs, hl, h =>
        rw [List.mergeSort, List.mergeSort]
        have hs : ∀ {z : α}, z ∈ (List.MergeSort.Internal.splitInTwo ⟨a :: b :: xs, rfl⟩).1.1 → z ∈ a :: b :: xs := fun {z} hz => by
          rw [List.MergeSort.Internal.splitInTwo_fst] at hz
          exact List.mem_of_mem_take hz
        have hs2 : ∀ {z : α}, z ∈ (List.MergeSort.Internal.splitInTwo ⟨a :: b :: xs, rfl⟩).2.1 → z ∈ a :: b :: xs := fun {z} hz => by
          rw [List.MergeSort.Internal.splitInTwo_snd] at hz
          exact List.mem_of_mem_drop hz
        have l1 : (List.MergeSort.Internal.splitInTwo ⟨a :: b :: xs, rfl⟩).1.1.length ≤ n := by
          rw [List.MergeSort.Internal.splitInTwo_fst]
          simp only [List.length_take, List.length_cons] at hl ⊢
          omega
        have l2 : (List.MergeSort.Internal.splitInTwo ⟨a :: b :: xs, rfl⟩).2.1.length ≤ n := by
          rw [List.MergeSort.Internal.splitInTwo_snd]
          simp only [List.length_drop, List.length_cons] at hl ⊢
          omega
        show List.merge _ _ _ = List.merge _ _ _
        rw [ih _ l1 fun x hx y hy => h x (hs hx) y (hs hy), ih _ l2 fun x hx y hy => h x (hs2 hx) y (hs2 hy)]
        refine mg _ _ fun x hx y hy => h x (hs ?_) y (hs2 ?_)
        · exact (List.mergeSort_perm _ _).mem_iff.mp hx
        · exact (List.mergeSort_perm _ _).mem_iff.mp hy
  exact key l.length l (Nat.le_refl _) h
theorem ms_map {α β : Type} {le : β → β → Bool} (f : α → β) (l : List α) : (l.mergeSort fun a b => le (f a) (f b)).map f = (l.map f).mergeSort le := List.map_mergeSort (fun a _ b _ => rfl)
theorem alkAll_mem {ds : List D} (h : alkAll ds = true) {a b : D} (ha : a ∈ ds) (hb : b ∈ ds) : alk a b = true := by
  unfold alkAll at h
  rw [List.all_eq_true] at h
  have := h a ha
  rw [List.all_eq_true] at this
  exact this b hb
section
variable {K : PySem.W.Frag} {ct : String → Addr} {k : Nat} {X : Cx} {W : WS} {e a b c : Expr} {es : List Expr} {pos : Pos} {ev ea eb ec : Xv}
def rSrtD : List V → Hp → VK → Prop := fun xs H Q => ∃ (a : Addr) (kvs : List (Key × V)) (ks : List (List Nat)), xs = [.ref a] ∧ Rd H a (.dK kvs) ∧ kvs.map (·.1) = ks.map (fun l => Sum.inr (tx l)) ∧ 
    ∀ p, H p = none → Q (.ref p) (upd H p (.lst ((ks.mergeSort (PySem.W.dataLe false fun l => .str (tx l))).map fun l => V.str (tx l))))
theorem rpK_keys {F : Hp} : ∀ {kvs : List (Key × V)} {ds : List (List Nat × D)}, RpK K F kvs ds → kvs.map (·.1) = (ds.map (·.1)).map (fun l => Sum.inr (tx l)) ∧ ∀ l ∈ ds.map (·.1), okS l
  | _, _, .nil => ⟨rfl, fun _ h => nomatch h⟩
  | _, _, .cons z r t => by
    obtain ⟨h1, h2⟩ := rpK_keys t
    refine ⟨by simp only [List.map_cons, h1], fun l hl => ?_⟩
    rcases List.mem_cons.mp hl with q | q
    · subst q; exact z
    · exact h2 l q
theorem rpA_strs {F : Hp} : ∀ {ls : List (List Nat)}, (∀ l ∈ ls, okS l) → RpA K F (ls.map fun l => V.str (tx l)) (ls.map D.str)
  | [], _ => .nil
  | l :: ls, h => .cons (.str l (h l List.mem_cons_self)) (rpA_strs fun m hm => h m (List.mem_cons_of_mem _ hm))
theorem ud_srt : UnD K (fun xs H Q => rSrtL K xs H Q ∨ rSrtD xs H Q) sortD := by
  intro F H x d Q s rx g
  cases d with
  | lst ds =>
    dsimp only [sortD] at g
    split at g
    · rename_i z
      unfold srtOk at z
      simp only [Bool.and_eq_true, decide_eq_true_eq] at z
      obtain ⟨⟨⟨z1, z2⟩, z3⟩, z4⟩ := z
      obtain ⟨p, vs, ex, hq, zl, rv⟩ := bo_lst s rx
      subst ex
      obtain ⟨dp, cl⟩ := rpA_dp s rv z1
      rw [toPs_map] at dp
      have hal : PySem.W.AllAlike (ds.map toP) := by
        intro a ha b hb
        obtain ⟨a', ha', rfl⟩ := List.mem_map.mp ha
        obtain ⟨b', hb', rfl⟩ := List.mem_map.mp hb
        exact toP_alike a' b' (alkAll_mem z2 ha' hb') (plains_mem z1 _ ha') (plains_mem z1 _ hb')
      have hso : PySem.W.Sortable (ds.map toP) := by
        rw [Bool.or_eq_true] at z4
        rcases z4 with z4 | z4
        · refine .inl fun d hd => ?_
          obtain ⟨d', hd', rfl⟩ := List.mem_map.mp hd
          have := List.all_eq_true.mp z4 d' hd'
          cases d' with
          | tup es =>
            cases es with
            | nil => simp at this
            | cons y ys => exact ⟨toP y, toPs ys, by simp [toP, toPs]⟩
          | _ => simp at this
        · refine .inr fun d hd => ?_
          obtain ⟨d', hd', rfl⟩ := List.mem_map.mp hd
          have := List.all_eq_true.mp z4 d' hd'
          have pl := plains_mem z1 _ hd'
          cases d' with
          | non => simp at this
          | tup es => simp at this
          | dic _ => simp [plain] at pl
          | obj _ => simp [plain] at pl
          | fn _ => simp [plain] at pl
          | _ => simp [toP]
      have ems : ds.mergeSort (PySem.W.dataLe false toP) = ds.mergeSort dle := by
        refine ms_congr ds fun a ha b hb => ?_
        rw [PySem.W.dataLe_eq]
        show (!PySem.W.dataLt (toP b) (toP a)) = !dlt b a
        have hn : isNon b = false := by
          rw [Bool.or_eq_true] at z4
          rcases z4 with z4 | z4
          · have := List.all_eq_true.mp z4 b hb
            cases b <;> first | rfl | (simp at this; done)
          · have := List.all_eq_true.mp z4 b hb
            cases b <;> first | rfl | (simp at this; done)
        rw [toP_lt b a (alkAll_mem z2 hb ha) (plains_mem z1 _ hb) (plains_mem z1 _ ha) hn]
      refine .inl ⟨p, vs, ds, Rp K F, rfl, .inl hq, dp, each_A rv, hal, hso, fun d hd => ?_, fun ys p' h1 np => ?_⟩
      · rw [toP_dep]; exact Nat.le_trans (deps_mem hd) z3
      · rw [ems] at h1
        have ra := A_each h1
        have hl : ys.length ≤ LIM := by
          rw [ra.length, List.length_mergeSort, ← rv.length]; exact zl
        exact got_new s g np fun ff => .lst upd_same hl (ra.mono ff)
    · exact g.elim
  | dic ds =>
    obtain ⟨p, kvs, ex, hq, zl, rv⟩ := bo_dic s rx
    subst ex
    obtain ⟨h1, h2⟩ := rpK_keys rv
    refine .inr ⟨p, kvs, ds.map (·.1), rfl, hq, h1, fun p' np => ?_⟩
    have e1 : ((ds.map (·.1)).mergeSort (PySem.W.dataLe false fun l => PyData.str (tx l))).map D.str = (ds.map fun kv => D.str kv.1).mergeSort dle := by
      rw [PySem.W.dataLe_eq]
      have e2 : (fun a b : List Nat => cond false (!PySem.W.dataLt (PyData.str (tx a)) (PyData.str (tx b))) (!PySem.W.dataLt (PyData.str (tx b)) (PyData.str (tx a)))) = fun a b => dle (D.str a) (D.str b) := by
        funext a b
        show (!PySem.W.dataLt (PyData.str (tx b)) (PyData.str (tx a))) = !dlt (.str b) (.str a)
        rw [PySem.W.dataLt_str, tx_list, tx_list]
        simp [dlt]
      rw [e2, ms_map (le := dle) D.str, List.map_map]
      rfl
    dsimp only [sortD] at g
    rw [← e1] at g
    refine got_new s g np fun ff => .lst upd_same ?_ (rpA_strs fun l hl => h2 l ((List.mergeSort_perm _ _).mem_iff.mp hl))
    rw [List.length_map, List.length_mergeSort, List.length_map, ← rv.length]; exact zl
  | _ => exact g.elim
theorem e_sorted {p : Pos} (hm : X.mg "sorted" = none) (ha : PBv ct k X W a ea) (hg : Gl X "sorted" := by rfl) (he : starEach [a] X.env = (false, eval a X.env) :: starEach [] X.env := by rfl) : PEv ct k X W (.Call (.Name "sorted" p) [a] [] pos) (xU sortD ea) := fun C =>
  e_blt ud_srt (fun h => CallR.or (cr_srtL C.room) (call_srtD h C.room)) hm (by decide +kernel) ha hg (by decide) (by decide) he C
/-! ### join -/
theorem join_tx (sep : List Nat) (ls : List (List Nat)) : Txt.join (tx sep) (ls.map tx) = tx (joinL sep ls) := by
  have key : ∀ ls, TL.joinL sep ls = joinL sep ls := by
    intro ls
    induction ls with
    | nil => rfl
    | cons l r ih =>
      cases r with
      | nil => rfl
      | cons m r => rw [TL.joinL, ih]; simp [joinL]
  have e := TL.tl_join (tx sep) (ls.map tx)
  rw [List.map_map] at e
  have e2 : (TL.tl ∘ tx) = id := by funext l; exact tx_list l
  rw [e2, List.map_id] at e
  refine TL.ext_tl ((congrArg TL.tl (TL.join_eq (tx sep) (ls.map tx))).trans (e.trans ?_))
  rw [show TL.tl (tx sep) = sep from tx_list sep, key]
  exact (tx_list _).symm
theorem joinL_len (sep : List Nat) : ∀ ls : List (List Nat), (joinL sep ls).length ≤ (ls.map List.length).sum + ls.length * sep.length
  | [] => by simp [joinL]
  | [a] => by simp [joinL]
  | a :: b :: r => by
    have := joinL_len sep (b :: r)
    simp only [joinL, List.length_append, List.map_cons, List.sum_cons, List.length_cons] at this ⊢
    have e : (r.length + 1 + 1) * sep.length = (r.length + 1) * sep.length + sep.length := by rw [Nat.succ_mul]
    omega
theorem joinL_mem (sep : List Nat) {x : Nat} : ∀ ls : List (List Nat), x ∈ joinL sep ls → x ∈ sep ∨ ∃ l ∈ ls, x ∈ l
  | [], h => by simp [joinL] at h
  | [a], h => .inr ⟨a, List.mem_cons_self, h⟩
  | a :: b :: r, h => by
    simp only [joinL, List.mem_append] at h
    rcases h with (h | h) | h
    · exact .inr ⟨a, List.mem_cons_self, h⟩
    · exact .inl h
    · rcases joinL_mem sep (b :: r) h with q | ⟨l, q1, q2⟩
      · exact .inl q
      · exact .inr ⟨l, List.mem_cons_of_mem _ q1, q2⟩
theorem e_join {apos : Pos} (ha : PEv ct k X W a ea) (hb : PBv ct k X W b eb) (hs : starEach [b] X.env = [(false, eval b X.env)] := by rfl) (hbase : attributeBase a "join" X.env (eval a X.env) = eval a X.env := by rfl) (hline : (apos.endLine == pos.line) = true := by rfl) :
    PEv ct k X W (.Call (.Attribute a "join" apos) [b] [] pos) (xM isStr joinD ea eb) := fun C =>
  (pe_join (ha C) (hb C) hs hbase hline).imp fun σ H Q ⟨H0, F0, F, env, S, g⟩ => seq S g fun x d F1 H1 S1 g1 rx q1 => by
    cases d with
    | str sep =>
      obtain ⟨ex, hx⟩ := bo_str (H := H1) (.inl rx)
      refine ⟨⟨_, ex⟩, seq S1 q1 fun y e F2 H2 S2 g2 ry q2 => ?_⟩
      have q3 := got_wf q2
      cases e with
      | lst ds =>
        dsimp only [joinD] at q3
        obtain ⟨p, vs, ey, hq, zl, rv⟩ := bo_lst S2.sub ry
        cases z : asSs ds with
        | none => rw [z] at q3; exact q3.elim
        | some ls =>
          rw [z] at q3
          dsimp only at q3
          obtain ⟨h1, h2, h3⟩ := asSs_rp rv z
          split at q3
          · rename_i hz
            refine ⟨tx sep, p, ls.map tx, ex, by rw [ey], .inl (.inl (by rw [← h1]; exact hq)), ?_, ?_⟩
            · rw [List.map_map]
              have : (fun x => x.length) ∘ tx = List.length := by funext l; exact tx_len l
              rw [this, List.length_map, tx_len]
              exact hz
            · rw [join_tx]
              refine got_ok S2.sub q3 (.str _ ⟨Nat.le_trans (joinL_len sep ls) hz, fun c hc => ?_⟩)
              rcases joinL_mem sep ls hc with q | ⟨l, q1, q2⟩
              · exact hx.2 c q
              · exact (h3 l q1).2 c q2
          · exact q3.elim
      | _ => exact q3.elim
    | _ => exact q1.elim
/-! ### raise -/
theorem s_raise (cn : String) {C : Addr} {bmB : List Value} {B newId initId : String} {x m : Str} {j : Nat} {p p2 pc : Pos} (hct : ct cn = C) (F : ExcBaseFacts B newId initId bmB) (q : PySem.W.excIn X.K C bmB newId = true) (gC : X.mg x = some (.ref C)) (kC : PySem.W.keepIn X.K (.ref C) = true) (r1 : PySem.W.subIn X.K (.ref C) (.type "BaseException") = some true) (r2 : PySem.W.typeIn X.K (.ref C) = some (.type "type")) (hc : X.calm = true := by rfl) (hg : Gl X x := by rfl)
    (hdb : (x == ("__debug__" : Str)) = false := by decide) : PSv ct k X W (.Raise (some (.Call (.Name x p) [.Constant (.str m) j p2] [] pc)) none pos) (sRaise cn) := fun Cc =>
  (ps_raise hc Cc.tk (pmk_own F q gC kC (raises_own r1 r2) hg hdb)).imp fun Dn σ H ⟨H0, F0, F, env, S, g⟩ => ⟨cn, by rw [hct], rfl, g σ F H S⟩
end
end Pv

namespace Pv
open PySem PySem.Spec L2
/-! ### in an except suite -/
def PEh (X : Cx) (e : Expr) (ev : Xv) : Prop := PE X e (rd X.K (RE X.K) WF ev)
def PAh (X : Cx) (es : List Expr) (ev : Av) : Prop := PA X es (rd X.K (RA X.K) WF ev)
def PSh (X : Cx) (st : List Stmt) (sv : Sv) : Prop := PSs X st (rs X.K WF sv)
section
variable {X : Cx} {e a b c : Expr} {es : List Expr} {pos : Pos} {ev ea eb ec : Xv} {aa : Av} {st : Stmt} {rest : List Stmt} {s r : Sv}
theorem h_var (i : Nat) {x : Str} (hN : X.N[i]? = some x := by rfl) (hv : Vis X.env.scope x := by first | exact Or.inl rfl | exact Or.inr (Or.inl rfl) | exact Or.inr (Or.inr rfl)) (hd : (x == ("__debug__" : Str)) = false := by decide)
    (hcd : (x == ("__classdict__" : Str)) = false := by decide) : PEh X (.Name x pos) (rdV i) := (pe_var hN hv hd hcd).imp fun σ H Q ⟨H0, F0, F, env, S, g⟩ => by
  unfold rdV at g
  cases q : gt env i with
  | none => rw [q] at g; exact g.elim
  | some s =>
    rw [q] at g
    cases s with
    | fz d =>
      obtain ⟨v, h1, h2⟩ := S.fz i d q
      exact ⟨v, h1, g v F H (.refl S.sub) h2⟩
    | ow d => exact g.elim
theorem h_nil : PAh X [] aNil := pa_nil.imp fun σ H Q ⟨H0, F0, F, env, S, g⟩ => g [] F H (.refl S.sub) .nil
theorem h_cons (ha : PEh X e ea) (hr : PAh X es aa) (hs : starEach (e :: es) X.env = (false, eval e X.env) :: starEach es X.env := by rfl) : PAh X (e :: es) (aCons ea aa) :=
  (pa_cons ha hr hs).imp fun σ H Q ⟨H0, F0, F, env, S, g⟩ => seq S g fun x d F1 H1 S1 g1 rx q1 => seq S1 q1 fun xs ds F2 H2 S2 g2 rxs q2 =>
    q2 (x :: xs) F2 H2 (.refl S2.sub) (.cons (Rp.mono g2.ff rx) rxs)
theorem h_lst (h : PAh X es aa) : PEh X (.List es pos) (xLst aa) :=
  (pe_lst h).imp fun σ H Q ⟨H0, F0, F, env, S, g⟩ => seq S g fun vs ds F1 H1 S1 g1 r q1 => by
    by_cases z : ds.length ≤ LIM
    · rw [if_pos z] at q1
      have z' : vs.length ≤ LIM := by rw [r.length]; exact z
      refine ⟨by rw [lim]; exact z', fun p np => ?_⟩
      have gn := Gd.new (o := .lst vs) S1.sub np
      exact q1 _ _ _ gn (.lst upd_same z' (RpA.mono gn.ff r))
    · rw [if_neg z] at q1; exact q1.elim
theorem h_op {op : Operator} {r : R2} {f : D → D → Res D} (hd : OpD X.K r f) (ho : OpR X (binaryOp op) r) (ha : PEh X a ea) (hb : PEh X b eb) : PEh X (.BinOp a op b pos) (xOp f ea eb) :=
  (pe_op ho ha hb).imp fun σ H Q ⟨H0, F0, F, env, S, g⟩ => seq S g fun x d F1 H1 S1 g1 rx q1 => seq S1 q1 fun y e F2 H2 S2 g2 ry q2 =>
    hd F2 H2 x y d e Q S2.sub (.inl (Rp.mono g2.ff rx)) (.inl ry) (got_wf q2)
theorem hs_cons (h1 : PS X st (rs X.K WF s)) (h2 : PSh X rest r) : PSh X (st :: rest) (sSeq s r) := (pss_cons h1 h2).imp fun Dn σ H ⟨H0, F0, F, env, S, g⟩ => by
  refine ⟨H0, F0, F, env, S, ?_⟩
  unfold sSeq at g
  cases q : s env with
  | nx env' => rw [q] at g; exact fun σ' F' H' S' => ⟨H0, F0, F', env', S', g⟩
  | ret d => rw [q] at g; exact g
  | brk env' => rw [q] at g; exact g
  | cont env' => rw [q] at g; exact g
  | exc c env' => rw [q] at g; exact g
  | bad => rw [q] at g; exact g
theorem hs_one (h1 : PS X st (rs X.K WF s)) : PSh X [st] s := pss_one h1
theorem h_ret (h : PEh X e ev) : PS X (.Return (some e) pos) (rs X.K WF (sRet ev)) :=
  (ps_ret h).imp fun Dn σ H ⟨H0, F0, F, env, S, g⟩ => sseq S g fun v d F1 H1 S1 g1 rv q => q v F1 H1 S1.gd rv
theorem h_set (i : Nat) {x : Str} {p : Pos} (hN : X.N.Nodup) (h : PEh X e ev) (hi : X.N[i]? = some x := by rfl) (hx : Loc X.env.scope x := by first | exact Or.inl rfl | exact Or.inr rfl) (hf : X.fn x = true ∨ X.env.scope.names.lookup x = some .local := by first | exact .inl rfl | exact .inr rfl)
    (hs : swapsWith e (some (.Name x p)) pos.line X.env = pure false := by rfl) : PS X (.Assign [.Name x p] e pos) (rs X.K WF (sAsg (.nm i) ev)) :=
  (ps_set hN hi hx h hs hf).imp fun Dn σ H ⟨H0, F0, F, env, S, g⟩ => sseq S g fun v d F1 H1 S1 g1 rv q => q _ F1 H1 (S1.set i rv)
theorem fstT_at : ∀ {bs : List Bool} {j m : Nat}, fstT bs j = some m → ∃ i, m = j + i ∧ bs[i]? = some true ∧ ∀ n, n < i → bs[n]? = some false
  | [], _, _, h => by cases h
  | true :: _, j, m, h => by
    have e : j = m := Option.some.inj h
    subst e
    exact ⟨0, rfl, rfl, fun n hn => absurd hn (Nat.not_lt_zero _)⟩
  | false :: r, j, m, h => by
    obtain ⟨i, h1, h2, h3⟩ := fstT_at (bs := r) (j := j + 1) h
    refine ⟨i + 1, by omega, by simpa using h2, fun n hn => ?_⟩
    cases n with
    | zero => rfl
    | succ n => simpa using h3 n (by omega)
/-- e.index(True), e of bools -/
theorem h_idx {apos p2 : Pos} {j : Nat} (h : PEh X e ev) (hbase : attributeBase e "index" X.env (eval e X.env) = eval e X.env := by rfl)
    (hfew : ((backTo pos (starEach [.Constant (.bool true) j p2] X.env)).all (fun x => !x.1) && (backToKw pos (keywordEach [] X.env)).all (fun x => x.1.isSome) && decide (([.Constant (.bool true) j p2] : List Expr).length + ([] : List Keyword).length + (if ([] : List Keyword).isEmpty then 0 else 1) < 30)) = true := by rfl)
    (hline : (apos.endLine == pos.line) = true := by rfl) (hst : starEach [.Constant (.bool true) j p2] X.env = (false, eval (.Constant (.bool true) j p2) X.env) :: starEach [] X.env := by rfl) (hplain : (backTo pos (starEach [] X.env)).any (·.1) = false := by rfl) :
    PEh X (.Call (.Attribute e "index" apos) [.Constant (.bool true) j p2] [] pos) (xU idxT ev) :=
  (pe_bm PySem.F.plainAttrs_list PySem.F.slot_list_index PySem.F.type_list_index mt_index h (pa_cons pe_bl pa_nil hst) hbase hfew hline hst hplain).imp fun σ H Q ⟨H0, F0, F, env, S, g⟩ => seq S g fun x d F1 H1 S1 g1 rx q1 => by
    have q3 := got_wf q1
    cases d with
    | lst ds =>
      obtain ⟨p, vs, ex, hq, zl, rv⟩ := bo_lst S1.sub (.inl rx)
      subst ex
      dsimp only [idxT] at q3
      cases z : asBs ds with
      | none => rw [z] at q3; exact q3.elim
      | some bs =>
        rw [z] at q3
        dsimp only at q3
        have ev := asBs_rp rv z
        subst ev
        cases w : fstT bs 0 with
        | none => rw [w] at q3; exact q3.elim
        | some m =>
          rw [w] at q3
          obtain ⟨i, h1, h2, h3⟩ := fstT_at w
          rw [Nat.zero_add] at h1
          subst h1
          refine ⟨.inl ⟨rfl, _, .inl hq⟩, p, bs.map V.bl, .bl true, m, .bl true, rfl, rfl, .inl hq, rfl, ?_, ?_, rfl, fun n z' hn hz' => ?_, got_ok S1.sub q3 (.int _)⟩
          · rw [List.all_eq_true]
            intro v hv
            obtain ⟨b, _, rfl⟩ := List.mem_map.mp hv
            rfl
          · rw [List.getElem?_map, h2]; rfl
          · rw [List.getElem?_map, h3 n hn] at hz'
            cases hz'
            rfl
    | _ => exact q3.elim
end
section
variable {X : Cx} {pos : Pos}
/-- isinstance(e, C), e the exception in slot i -/
theorem h_is (i : Nat) {a D Cd : Addr} {oe : Obj} {pn : List (Addr × Obj)} {x y : Str} {b : Bool} {p p2 p3 : Pos} (E : ExcC X.K D) (hz : Zc (.ref D) none oe) (hf : ∃ vs, oe.data = .fields vs) (hm : X.mg "isinstance" = none) (hC : X.mg y = some (.ref Cd)) (hk : PySem.W.kitOne X.K (.ref D) (.ref Cd) = some b)
    (hN : X.N[i]? = some x := by rfl) (hv : Vis X.env.scope x := by first | exact Or.inl rfl | exact Or.inr (Or.inl rfl) | exact Or.inr (Or.inr rfl)) (hd : (x == ("__debug__" : Str)) = false := by decide)
    (hcd : (x == ("__classdict__" : Str)) = false := by decide) (hg : Gl X "isinstance" := by rfl) (hgC : Gl X y := by rfl) (hdb : (y == ("__debug__" : Str)) = false := by decide)
    (hs1 : starEach [.Name x p2, .Name y p3] X.env = (false, eval (.Name x p2) X.env) :: starEach [.Name y p3] X.env := by rfl) (hs2 : starEach [.Name y p3] X.env = (false, eval (.Name y p3) X.env) :: starEach [] X.env := by rfl)
    (hpl : (backTo pos (starEach [.Name y p3] X.env)).any (·.1) = false := by rfl) :
    PEh (X.suite a ((a, oe) :: pn)) (.Call (.Name "isinstance" p) [.Name x p2, .Name y p3] [] pos) (xIs i a b) :=
  (pe_callB (X := X.suite a ((a, oe) :: pn)) (call_isE E hz hf) hg hm (by decide +kernel) (pa_cons (pe_var hN hv hd hcd) (pa_cons (pe_glob (v := .ref Cd) hgC hC rfl hdb) pa_nil hs2) hs1) (by decide) (by decide) hs1 hpl).imp fun σ H Q ⟨H0, F0, F, env, S, g⟩ => by
    unfold xIs at g
    cases q : gt env i with
    | none => rw [q] at g; exact g.elim
    | some s =>
      rw [q] at g
      cases s with
      | fz d =>
        obtain ⟨v, h1, h2⟩ := S.fz i d q
        cases d with
        | obj a' =>
          dsimp only at g
          split at g
          · rename_i e
            subst e
            cases h2
            refine ⟨_, h1, .ref Cd, .ref Cd, b, rfl, fun u r => by cases r; rfl, hk, got_ok S.sub g (.bl b)⟩
          · exact g.elim
        | _ => exact g.elim
      | ow d => exact g.elim
/-- try: body except x as n: a suite that returns -/
theorem s_try_as {ct : String → Addr} {k : Nat} {W : WS} (i : Nat) {x n : Str} {cE : Addr} {body suite : List Stmt} {b₀ : Stmt} {np pos' : Pos} {bv : Sv} {hv : String → Addr → Sv} {cat : String → Option Bool} {r : String → Option D}
    (hb : ∀ (W' : WS) (pn : List (Addr × Obj)) (xe : Value → Shared → Prop), PSsv ct k (X.tr pn xe) W' body bv)
    (hcat : ∀ c b, cat c = some b → PySem.W.exmOne X.K (.ref (ct c)) (.ref cE) = some b)
    (hsu : ∀ (a : Addr) (oe : Obj) (pn : List (Addr × Obj)) (c : String), X.N.Nodup → r c ≠ none → Zc (.ref (ct c)) none oe → (∃ vs, oe.data = .fields vs) → PSh (X.suite a ((a, oe) :: pn)) (b₀ :: suite) (hv c a))
    (hr : ∀ c a env d, i < env.length → r c = some d → hv c a (pt env i (some (.fz (.obj a)))) = .ret d)
    (hm : X.mg x = some (.ref cE)) (hs : X.stack = X.env :: X.outer := by rfl) (hf : X.env.frame = some X.env.locals := by rfl) (hi : X.N[i]? = some n := by rfl) (hln : X.env.kindOf n = some .local := by rfl) (hg : Gl X x := by rfl) (hdb : (x == ("__debug__" : Str)) = false := by decide) :
    PSv ct k X W (.Try body [.ExceptHandler (some (.Name x np)) (some n) (b₀ :: suite) pos'] [] [] pos) (sTry i cat r bv) := fun C =>
  (ps_try_as (c := .ref cE) (Wout := wx ct W) (tb := fun W' => rs X.K (fun c σ H => W' (.ref (ct c)) none σ H) bv) (ts := fun a cls d Dn σ H => ∃ c, cls = .ref (ct c) ∧ d = none ∧ r c ≠ none ∧ rs X.K WF (hv c a) Dn σ H) hs hf C.nd hi hln ⟨hg, hdb, .inl hm⟩ C.tk
    (fun W' pn xe tk po => hb _ pn xe ⟨tk.imp fun cls d σ H ⟨c, e1, e2, q⟩ => by rw [e1, e2]; exact q, po, C.calm, C.nd, C.room⟩)
    (fun a oe cls d pn hz hf => ⟨fun pins s σ H Q I ⟨c, e1, e2, hn, q⟩ => by
      subst e1 e2
      exact (hsu a oe pn c C.nd hn hz hf).run pins s σ H Q I q⟩)).imp fun Dn σ H ⟨H0, F0, F, env, S, g⟩ => by
    refine ⟨H0, F0, F, env, S, ?_⟩
    unfold sTry at g
    cases q : bv env with
    | exc c env' =>
      rw [q] at g
      dsimp only at g
      cases z : cat c with
      | none => rw [z] at g; exact g.elim
      | some bb =>
        rw [z] at g
        intro σ' F' H' S'
        refine ⟨bb, hcat c bb z, fun eb a na => ?_, fun eb => ?_⟩
        · subst eb
          dsimp only at g
          by_cases il : i < env'.length
          case neg => rw [if_neg il] at g; exact g.elim
          rw [if_pos il] at g
          cases y : r c with
          | none => rw [y] at g; exact g.elim
          | some d =>
            rw [y] at g
            refine ⟨c, rfl, rfl, by rw [y]; simp, H0, F0, F', _, S'.set i (d := .obj a) (.obj a), ?_⟩
            rw [hr c a env' d il y]
            exact g
        · subst eb
          exact ⟨c, rfl, rfl, g σ' F' H' S'⟩
    | nx e => rw [q] at g; exact g
    | ret d => rw [q] at g; exact g
    | brk e => rw [q] at g; exact g
    | cont e => rw [q] at g; exact g
    | bad => rw [q] at g; exact g
end
end Pv

namespace Pv
def iKeys (a : Xv) : Av := fun env => (a env).bind fun d => match d with
  | .dic kvs => .ok (kvs.map fun kv => .str kv.1)
  | _ => .bad
def sForD (T : Tg) (a : Xv) (b : Sv) : Sv := fun env => (iKeys a env).fl env fun xs => noX (forD T b xs env)
def asIs : List D → Option (List Int)
  | [] => some []
  | .int i :: r => (asIs r).map (i :: ·)
  | _ => none
def maxL : List Int → Option Int
  | [] => none
  | a :: r => some (r.foldl max a)
def minL : List Int → Option Int
  | [] => none
  | a :: r => some (r.foldl min a)
def maxD : D → Res D
  | .lst ds => match (asIs ds).bind maxL with
    | some m => .ok (.int m)
    | none => .bad
  | _ => .bad
def minD : D → Res D
  | .lst ds => match (asIs ds).bind minL with
    | some m => .ok (.int m)
    | none => .bad
  | _ => .bad
def sumD : D → Res D
  | .lst ds => match asIs ds with
    | some ns => .ok (.int ns.sum)
    | none => .bad
  | _ => .bad
def prD : List (Xv × Xv) → En → Res (List (List Nat × D))
  | [], _ => .ok []
  | (kx, vx) :: r, env => (kx env).calm.bind fun kd => (vx env).calm.bind fun vd => match kd with
    | .str key => (prD r env).bind fun ps => .ok ((key, vd) :: ps)
    | _ => .bad
def mergeD (acc ps : List (List Nat × D)) : List (List Nat × D) := ps.foldl (fun acc kv => putD acc kv.1 kv.2) acc
def xDic (prs : List (Xv × Xv)) : Xv := fun env => match prD prs env with
  | .ok ps => .ok (.dic (mergeD [] ps))
  | _ => .bad
def oDK (prs : List (Xv × Xv)) (r : Ov) : Ov := fun env => match prD prs env with
  | .ok ps => (r env).bind fun ss => .ok (.ow (.dic (mergeD [] ps)) :: ss)
  | _ => .bad
def truD : D → Option Bool
  | .str l => some (!l.isEmpty)
  | .non => some false
  | .bl b => some b
  | _ => none
def xOrT (a b : Xv) : Xv := fun env => (a env).bind fun x => match truD x with
  | some true => .ok x
  | some false => b env
  | none => .bad
def distN (acc : List (List Nat)) : List (List Nat) → List (List Nat)
  | [] => acc
  | x :: xs => distN (if x ∈ acc then acc else x :: acc) xs
def ssetD : D → Res D
  | .lst ds => match asSs ds with
    | some ls => if ls.length ≤ 4000 then .ok (.lst (((distN [] ls).mergeSort fun a b => dle (.str a) (.str b)).map D.str)) else .bad
    | none => .bad
  | _ => .bad
def xCallV (tb : String → Option (List D → Res D)) (f : Xv) (a : Av) : Xv := fun env => (f env).bind fun d => match d with
  | .fn n => (match tb n with
    | some Fn => (a env).bind Fn
    | none => .bad)
  | _ => .bad
end Pv

namespace Pv
open PySem PySem.Spec L2
/-! ### walks over the keys of a dict -/
section
variable {K : PySem.W.Frag} {H0 F0 F H F1 H1 : Hp} {σ σ1 : St} {env env1 : En} {a : Addr} {od : Obj} {u : HO}
theorem Gd.lock (s : Sub F H) (fa : F a = some u) (ha : H a = some u) : Sub F (upd H a (.frz od u)) := sub_lock s fa ha
theorem Gd.unlock (fa : F a = some u) (ha : H a = some u) (g : Gd F (upd H a (.frz od u)) F1 H1) : Gd F H F1 (upd H1 a u) := by
  refine ⟨g.ff, fun b o h => ?_, fun b x h => ?_, fun b h => ?_⟩
  · by_cases e : b = a
    · subst e
      rw [ha] at h
      cases h
      exact upd_same
    · rw [upd_ne e]
      exact g.hh b o (by rw [upd_ne e]; exact h)
  · by_cases e : b = a
    · subst e
      rw [g.ff _ _ fa] at h
      cases h
      exact .inl upd_same
    · rcases g.sub b x h with q | ⟨o, q⟩
      · exact .inl (by rw [upd_ne e]; exact q)
      · exact .inr ⟨o, by rw [upd_ne e]; exact q⟩
  · rcases g.nw b h with q | q
    · exact .inl q
    · have ne : b ≠ a := fun z => by subst z; rw [upd_same] at q; cases q
      rw [upd_ne ne] at q
      exact .inr q
theorem key_walk {kvs : List (Key × V)} {ds : List (List Nat × D)} (r : RpK K F kvs ds) (z : kvs.length ≤ LIM) (h : H a = some (.frz od (.dK kvs))) : RW K F H (Itk a od kvs) (ds.map fun kv => D.str kv.1) :=
  ⟨fun H => H a = some (.frz od (.dK kvs)), wk_keys r, h, fun H H' e s => s a _ e, by rw [List.length_map, ← r.length]; exact z⟩
end
section
variable {ct : String → Addr} {k : Nat} {X : Cx} {W : WS} {e a b c : Expr} {es : List Expr} {pos : Pos} {ev ea eb ec : Xv}
/-- for T in d: body, d a dict -/
theorem s_forD {tg iter : Expr} {body : List Stmt} {T : Tg} {bv : Sv} (ha : PEv ct k X W iter ea) (hg : X.N.Nodup → X.calm = true → PGv X tg T) (hb : PSsv ct k X W body bv)
    (hs : ∀ x, foldedSetIterable iter X.env x = pure x := by intro _; rfl) : PSv ct k X W (.For tg iter body [] pos) (sForD T ea bv) := fun C =>
  (ps_ul (ps_for C.po C.calm (pi_keysL (ha C)) (hg C.nd C.calm) (hb C) hs)).imp fun Dn σ H ⟨H0, F0, F, env, S, g⟩ => by
    have g' : GotS X.K W H0 F0 Dn ((ea env).fl env fun d => match d with | .dic kvs => noX (forD T bv (kvs.map fun kv => .str kv.1) env) | _ => .bad) := by
      have e : sForD T ea bv env = ((ea env).fl env fun d => match d with | .dic kvs => noX (forD T bv (kvs.map fun kv => .str kv.1) env) | _ => .bad) := by
        unfold sForD iKeys
        cases ea env with
        | ok d => cases d <;> rfl
        | exc c => rfl
        | bad => rfl
      rw [e] at g; exact g
    refine sseq S g' fun v d F1 H1 S1 g1 rv q => ?_
    cases d with
    | dic ds =>
      cases rv with
      | @dic p kvs _ fp zl rk =>
      dsimp only at q
      refine ⟨p, kvs, rfl, ?_⟩
      rcases S1.sub p _ fp with hp | ⟨od, hp⟩
      · refine .inl ⟨hp, fun od hn => ?_⟩
        have S2 := S1.rebaseL (od := od) fp hp
        refine for_core (W := W) (bv := bv) (T := T) (wk_keys (a := p) (od := od) rk) (fun H' s => lock_still S1 fp s) S2 ?_
        have un : ∀ {f : St → Hp → Prop} {env'}, (∀ σ F H, SR X.K H0 F0 F H σ env' → f σ H) → ∀ σ' F' H', SR X.K (bse env σ (upd H1 p (.frz od (.dK kvs)))) F1 F' H' σ' env' → Ul X f σ' H' := fun {f env'} h σ' F' H' S' =>
          .inr ⟨p, od, _, lock_still S1 fp S'.gd.hh, hn, h _ _ _ (SR.unbaseL S1 fp hp S')⟩
        cases z : forD T bv (ds.map fun kv => .str kv.1) env with
        | nx e => rw [z] at q; exact un q
        | ret d => rw [z] at q; exact fun v F' H' gd r => .inr ⟨p, od, _, lock_still S1 fp gd.hh, hn, q v F' _ (Gd.unbaseL S1 fp hp gd) r⟩
        | brk e => rw [z] at q; exact un q
        | cont e => rw [z] at q; exact un q
        | exc c e => rw [z] at q; exact (show False from q).elim
        | bad => rw [z] at q; exact (show False from q).elim
      · refine .inr ⟨od, hp, ?_⟩
        have S2 := S1.rebase
        have still : ∀ H', Same (bse env σ H1) H' → H' p = some (.frz od (.dK kvs)) := fun H' s => by
          refine s p _ ?_
          unfold bse
          rw [if_neg (not_own S1 fp)]
          exact hp
        refine for_core (W := W) (bv := bv) (T := T) (wk_keys (a := p) (od := od) rk) still S2 ?_
        cases z : forD T bv (ds.map fun kv => .str kv.1) env with
        | nx e => rw [z] at q; exact fun σ' F' H' S' => .inl (q _ _ _ (S1.unbase S'))
        | ret d => rw [z] at q; exact fun v F' H' gd r => .inl (q v F' _ (Gd.unbase S1 gd) r)
        | brk e => rw [z] at q; exact fun σ' F' H' S' => .inl (q _ _ _ (S1.unbase S'))
        | cont e => rw [z] at q; exact fun σ' F' H' S' => .inl (q _ _ _ (S1.unbase S'))
        | exc c e => rw [z] at q; exact (show False from q).elim
        | bad => rw [z] at q; exact (show False from q).elim
    | _ => exact q.elim
def LcAsk (K : PySem.W.Frag) (T : Tg) (own : List Nat) (tv : Tv) (ee : Xv) (σ : St) (Q : VK) (J : It) (H1 : Hp) : Prop :=
    ∀ A, H1 A = none → ∃ Wv : Nat → Nat → Hp → Prop, (∃ m, Wv 0 m (upd H1 A (.lst []))) ∧ ∀ i m H, Wv i m H → (J.stop i H ∧ Q (.ref A) H) ∨ (J.go i H ∧ ∃ Nx : Hp → Prop, (∀ H', Nx H' → ∃ m', m' < m ∧ Wv (i + 1) m' H') ∧
      ∀ x H', J.yld i H x H' → gT K T x (L2.wipe σ own) H' fun σ2 H2 => L2.wipe σ2 own = L2.wipe σ own ∧ rd K RB WF tv σ2 H2 fun b H3 =>
        if b = true then rd K (RE K) WF ee σ2 H3 fun y H4 => ∃ acc, H4 A = some (.lst acc) ∧ acc.length < sizeLine ∧ Nx (upd H4 A (.lst (acc ++ [y]))) else Nx H3)
theorem LcAsk.imp {K : PySem.W.Frag} {T : Tg} {own : List Nat} {tv : Tv} {ee : Xv} {σ : St} {Q Q' : VK} {J : It} {H1 : Hp} (h : LcAsk K T own tv ee σ Q J H1) (i : ∀ v H, Q v H → Q' v H) : LcAsk K T own tv ee σ Q' J H1 := by
  intro A nA
  obtain ⟨Wv, h1, h2⟩ := h A nA
  refine ⟨Wv, h1, fun j m H w => ?_⟩
  rcases h2 j m H w with ⟨z1, z2⟩ | z
  · exact .inl ⟨z1, i _ _ z2⟩
  · exact .inr z
theorem lc_ask {K : PySem.W.Frag} {T : Tg} {own : List Nat} {tv : Tv} {ee : Xv} {σ : St} {env : En} {H0 F0 F1 H1 : Hp} {ds : List D} {J : It} {Q : VK} (ho : ∀ i ∈ ixs T, i ∈ own) (S1 : SR K H0 F0 F1 H1 σ env) (rJ : RW K F1 H1 J ds)
    (q : Got (RE K) W F1 H1 σ Q ((lcD T tv ee (wipeE env own) ds).bind fun r => .ok (.lst r))) : LcAsk K T own tv ee σ Q J H1 := lc_read ho S1 rJ q
/-- what a comprehension over the keys asks, at the heap where the dict stands -/
theorem lcD_read {K : PySem.W.Frag} {T : Tg} {own : List Nat} {tv : Tv} {ee : Xv} {σ : St} {env : En} {H0 F0 F1 H1 : Hp} {ds : List (List Nat × D)} {kvs : List (Key × V)} {p : Addr} {Q : VK} (ho : ∀ i ∈ ixs T, i ∈ own) (S1 : SR K H0 F0 F1 H1 σ env) (fp : F1 p = some (.dK kvs)) (zl : kvs.length ≤ LIM) (rk : RpK K F1 kvs ds)
    (q : Got (RE K) W F1 H1 σ Q ((lcD T tv ee (wipeE env own) (ds.map fun kv => .str kv.1)).bind fun r => .ok (.lst r))) :
    ∃ d kvs, V.ref p = .ref d ∧ ((H1 d = some (.dK kvs) ∧ ∀ od, (∀ o' u', X.H_0 d ≠ some (.frz o' u')) → LcAsk K T own tv ee σ (Ul X Q) (Itk d od kvs) (upd H1 d (.frz od (.dK kvs)))) ∨ ∃ od, H1 d = some (.frz od (.dK kvs)) ∧ LcAsk K T own tv ee σ (Ul X Q) (Itk d od kvs) H1) := by
  refine ⟨p, kvs, rfl, ?_⟩
  rcases S1.sub p _ fp with hp | ⟨od, hp⟩
  · refine .inl ⟨hp, fun od hn => ?_⟩
    refine LcAsk.imp (Q := fun v H' => ∃ F', Gd F1 (upd H1 p (.frz od (.dK kvs))) F' H' ∧ Q v (upd H' p (.dK kvs))) ?_ fun v H' ⟨F', gd, h⟩ => .inr ⟨p, od, _, gd.hh _ _ upd_same, hn, h⟩
    refine lc_ask (W := W) ho (S1.rebaseL fp hp) (key_walk rk zl upd_same) ?_
    cases z : (lcD T tv ee (wipeE env own) (ds.map fun kv => .str kv.1)) with
    | ok r => rw [z] at q; exact fun v F' H' gd r' => ⟨F', gd, q v F' _ (Gd.unlock fp hp gd) r'⟩
    | exc c => exact absurd z (lcD_noexc _)
    | bad => rw [z] at q; exact q.elim
  · exact .inr ⟨od, hp, LcAsk.imp (lc_ask ho S1 (key_walk rk zl hp) q) fun v H h => .inl h⟩
theorem e_lcD {elt tg iter : Expr} {ifs : List Expr} {scope : Scope} {own : List (Str × Nat)} {T : Tg} {tv : Tv} {ee : Xv} (hi : PEv ct k X W iter ea) (ok : blkC X.N X.env.scope scope own = true) (ho : ∀ i ∈ ixs T, i ∈ own.map (·.2))
    (hg : ∀ (s : Shared) (H : Hp) (A : Addr) (cl : List (Str × Addr)) (fp : List Addr), X.N.Nodup → X.calm = true → PGv (X.blk s H scope (compEnvC scope cl A X.env) fp) tg T)
    (ht : ∀ (s : Shared) (H : Hp) (A : Addr) (cl : List (Str × Addr)) (fp : List Addr), PTsv ct k (X.blk s H scope (compEnvC scope cl A X.env) fp) WF ifs tv)
    (he : ∀ (s : Shared) (H : Hp) (A : Addr) (cl : List (Str × Addr)) (fp : List Addr), PEv ct k (X.blk s H scope (compEnvC scope cl A X.env) fp) WF elt ee) (hs : ∀ x, foldedSetIterable iter X.env x = pure x := by intro _; rfl) :
    PEv ct k X W (.ListComp elt [⟨tg, iter, ifs, 0⟩] scope pos) (xLc T (own.map (·.2)) (iKeys ea) tv ee) := fun C =>
  (pe_ul (pe_lc (g := gT X.K T) (tt := rd X.K RB WF tv) (te := rd X.K (RE X.K) WF ee) C.calm C.nd (pi_keysL (hi C)) (blkOk_by ok) (fun s H A cl fp => hg s H A cl fp C.nd C.calm) (fun s H A cl fp => ht s H A cl fp C.blk) (fun s H A cl fp => he s H A cl fp C.blk) hs)).imp fun σ H Q ⟨H0, F0, F, env, S, g⟩ => by
    have g' : Got (RE X.K) W F H σ Q ((ea env).bind fun d => match d with | .dic kvs => ((lcD T tv ee (wipeE env (own.map (·.2))) (kvs.map fun kv => .str kv.1)).bind fun r => .ok (.lst r)) | _ => .bad) := by
      have e : xLc T (own.map (·.2)) (iKeys ea) tv ee env = ((ea env).bind fun d => match d with | .dic kvs => ((lcD T tv ee (wipeE env (own.map (·.2))) (kvs.map fun kv => .str kv.1)).bind fun r => .ok (.lst r)) | _ => .bad) := by
        unfold xLc iKeys
        cases ea env with
        | ok d => cases d <;> rfl
        | exc c => rfl
        | bad => rfl
      rw [e] at g; exact g
    refine seq S g' fun v d F1 H1 S1 g1 rv q => ?_
    cases d with
    | dic ds =>
      cases rv with
      | dic fp zl rk =>
        exact lcD_read (X := X) ho S1 fp zl rk q
    | _ => exact q.elim
theorem s_lcD {elt tg iter : Expr} {ifs : List Expr} {scope : Scope} {own : List (Str × Nat)} {T : Tg} {tv : Tv} {ee : Xv} {y : Str} {py spos : Pos} (i : Nat) (hi : PEv ct k X W iter ea) (ok : blkC X.N X.env.scope scope own = true) (ho : ∀ i ∈ ixs T, i ∈ own.map (·.2))
    (hg : ∀ (s : Shared) (H : Hp) (A : Addr) (cl : List (Str × Addr)) (fp : List Addr), X.N.Nodup → X.calm = true → PGv (X.blk s H scope (compEnvC scope cl A X.env) fp) tg T)
    (ht : ∀ (s : Shared) (H : Hp) (A : Addr) (cl : List (Str × Addr)) (fp : List Addr), PTsv ct k (X.blk s H scope (compEnvC scope cl A X.env) fp) WF ifs tv)
    (he : ∀ (s : Shared) (H : Hp) (A : Addr) (cl : List (Str × Addr)) (fp : List Addr), PEv ct k (X.blk s H scope (compEnvC scope cl A X.env) fp) WF elt ee)
    (hsw : swapsWith (.ListComp elt [⟨tg, iter, ifs, 0⟩] scope pos) (some (.Name y py)) spos.line X.env = pure true) (hy : X.N[i]? = some y := by rfl) (hyl : X.env.scope.names.lookup y = some .local := by rfl)
    (hs : ∀ x, foldedSetIterable iter X.env x = pure x := by intro _; rfl) :
    PSv ct k X W (.Assign [.Name y py] (.ListComp elt [⟨tg, iter, ifs, 0⟩] scope pos) spos) (sAsg (.nm i) (xLc T (own.map (·.2)) (iKeys ea) tv ee)) := fun C =>
  (ps_ul (ps_setLc (g := gT X.K T) (tt := rd X.K RB WF tv) (te := rd X.K (RE X.K) WF ee) C.calm C.nd hy hyl hsw (pi_keysL (hi C)) (blkOk_by ok) (fun s H A cl fp => hg s H A cl fp C.nd C.calm) (fun s H A cl fp => ht s H A cl fp C.blk) (fun s H A cl fp => he s H A cl fp C.blk) hs)).imp fun Dn σ H ⟨H0, F0, F, env, S, g⟩ => by
    have g' : GotS X.K W H0 F0 Dn ((ea env).fl env fun d => match d with | .dic kvs => (((lcD T tv ee (wipeE env (own.map (·.2))) (kvs.map fun kv => .str kv.1)).bind fun r => Res.ok (D.lst r))).fl env (fun d => .nx (pt env i (some (.fz d)))) | _ => .bad) := by
      have e : sAsg (.nm i) (xLc T (own.map (·.2)) (iKeys ea) tv ee) env = ((ea env).fl env fun d => match d with | .dic kvs => (((lcD T tv ee (wipeE env (own.map (·.2))) (kvs.map fun kv => .str kv.1)).bind fun r => Res.ok (D.lst r))).fl env (fun d => .nx (pt env i (some (.fz d)))) | _ => .bad) := by
        unfold sAsg xLc iKeys
        cases ea env with
        | ok d => cases d <;> rfl
        | exc c => rfl
        | bad => rfl
      rw [e] at g; exact g
    refine sseq S g' fun v d F1 H1 S1 g1 rv q => ?_
    cases d with
    | dic ds =>
      cases rv with
      | dic fp zl rk =>
        dsimp only at q
        have q2 : Got (RE X.K) W F1 H1 σ (fun v H' => gName i v σ H' Dn.nx) ((lcD T tv ee (wipeE env (own.map (·.2))) (ds.map fun kv => .str kv.1)).bind fun r => Res.ok (D.lst r)) := by
          cases z : ((lcD T tv ee (wipeE env (own.map (·.2))) (ds.map fun kv => .str kv.1)).bind fun r => Res.ok (D.lst r)) with
          | ok d => rw [z] at q; exact fun v F' H' gd r => q _ F' H' ((S1.grow gd).set i r)
          | exc c => rw [z] at q; exact fun F' H' gd => q σ F' H' (S1.grow gd)
          | bad => rw [z] at q; exact q.elim
        exact lcD_read (X := X) ho S1 fp zl rk q2
    | _ => exact q.elim
end
end Pv

namespace Pv
open PySem PySem.Spec L2
/-! ### max, min, sum of ints -/
theorem asIs_rp {K : PySem.W.Frag} {F : Hp} : ∀ {vs : List V} {ds : List D} {ns : List Int}, RpA K F vs ds → asIs ds = some ns → vs = ns.map V.int
  | _, _, ns, .nil, h => by
    have e : [] = ns := Option.some.inj h
    subst e; rfl
  | _, _, ns, .cons r t, h => by
    cases r with
    | int i =>
      unfold asIs at h
      cases z : asIs _ with
      | none => rw [z] at h; cases h
      | some ns' =>
        rw [z] at h
        have e : i :: ns' = ns := Option.some.inj h
        subst e
        rw [asIs_rp t z]
        rfl
    | _ => cases h
theorem foldl_max : ∀ (r : List Int) (a : Int), r.foldl max a ∈ a :: r ∧ ∀ y ∈ a :: r, y ≤ r.foldl max a
  | [], a => ⟨List.mem_cons_self, fun y hy => by simp at hy; simp [hy]⟩
  | b :: r, a => by
    obtain ⟨h1, h2⟩ := foldl_max r (max a b)
    rw [List.foldl_cons]
    have hm : max a b ≤ r.foldl max (max a b) := h2 _ List.mem_cons_self
    refine ⟨?_, fun y hy => ?_⟩
    · rcases List.mem_cons.mp h1 with q | q
      · rw [q]
        rcases Int.le_total a b with z | z
        · rw [Int.max_eq_right z]; simp
        · rw [Int.max_eq_left z]; simp
      · exact List.mem_cons_of_mem _ (List.mem_cons_of_mem _ q)
    · rcases List.mem_cons.mp hy with q | q
      · have := Int.le_max_left a b; omega
      · rcases List.mem_cons.mp q with q | q
        · have := Int.le_max_right a b; omega
        · exact h2 y (List.mem_cons_of_mem _ q)
theorem foldl_min : ∀ (r : List Int) (a : Int), r.foldl min a ∈ a :: r ∧ ∀ y ∈ a :: r, r.foldl min a ≤ y
  | [], a => ⟨List.mem_cons_self, fun y hy => by simp at hy; simp [hy]⟩
  | b :: r, a => by
    obtain ⟨h1, h2⟩ := foldl_min r (min a b)
    rw [List.foldl_cons]
    have hm : r.foldl min (min a b) ≤ min a b := h2 _ List.mem_cons_self
    refine ⟨?_, fun y hy => ?_⟩
    · rcases List.mem_cons.mp h1 with q | q
      · rw [q]
        rcases Int.le_total a b with z | z
        · rw [Int.min_eq_left z]; simp
        · rw [Int.min_eq_right z]; simp
      · exact List.mem_cons_of_mem _ (List.mem_cons_of_mem _ q)
    · rcases List.mem_cons.mp hy with q | q
      · have := Int.min_le_left a b; omega
      · rcases List.mem_cons.mp q with q | q
        · have := Int.min_le_right a b; omega
        · exact h2 y (List.mem_cons_of_mem _ q)
section
variable {K : PySem.W.Frag} {ct : String → Addr} {k : Nat} {X : Cx} {W : WS} {e a b c : Expr} {es : List Expr} {pos : Pos} {ev ea eb ec : Xv}
theorem ud_max : UnD K (rMax K) maxD := by
  intro F H x d Q s rx g
  cases d with
  | lst ds =>
    obtain ⟨p, vs, ex, hq, z, rv⟩ := bo_lst s rx
    subst ex
    dsimp only [maxD] at g
    cases w : asIs ds with
    | none => rw [w] at g; exact g.elim
    | some ns =>
      rw [w] at g
      have ev := asIs_rp rv w
      subst ev
      cases ns with
      | nil => exact g.elim
      | cons n r =>
        obtain ⟨h1, h2⟩ := foldl_max r n
        refine ⟨p, n :: r, rfl, .inl hq, by simp, fun m hm hle => ?_⟩
        have e : m = r.foldl max n := by have := h2 m hm; have := hle _ h1; omega
        subst e
        exact got_ok s g (.int _)
  | _ => exact g.elim
theorem ud_min : UnD K (rMin K) minD := by
  intro F H x d Q s rx g
  cases d with
  | lst ds =>
    obtain ⟨p, vs, ex, hq, z, rv⟩ := bo_lst s rx
    subst ex
    dsimp only [minD] at g
    cases w : asIs ds with
    | none => rw [w] at g; exact g.elim
    | some ns =>
      rw [w] at g
      have ev := asIs_rp rv w
      subst ev
      cases ns with
      | nil => exact g.elim
      | cons n r =>
        obtain ⟨h1, h2⟩ := foldl_min r n
        refine ⟨p, n :: r, rfl, .inl hq, by simp, fun m hm hle => ?_⟩
        have e : m = r.foldl min n := by have := h2 m hm; have := hle _ h1; omega
        subst e
        exact got_ok s g (.int _)
  | _ => exact g.elim
theorem ud_sum : UnD K (rSum K) sumD := by
  intro F H x d Q s rx g
  cases d with
  | lst ds =>
    obtain ⟨p, vs, ex, hq, z, rv⟩ := bo_lst s rx
    subst ex
    dsimp only [sumD] at g
    cases w : asIs ds with
    | none => rw [w] at g; exact g.elim
    | some ns =>
      rw [w] at g
      have ev := asIs_rp rv w
      subst ev
      exact ⟨p, ns, rfl, .inl hq, got_ok s g (.int _)⟩
  | _ => exact g.elim
theorem e_max {p : Pos} (hm : X.mg "max" = none) (ha : PBv ct k X W a ea) (hg : Gl X "max" := by rfl) (he : starEach [a] X.env = (false, eval a X.env) :: starEach [] X.env := by rfl) : PEv ct k X W (.Call (.Name "max" p) [a] [] pos) (xU maxD ea) := e_blt ud_max (fun h => cr_max h) hm (by decide +kernel) ha hg (by decide) (by decide) he
theorem e_min {p : Pos} (hm : X.mg "min" = none) (ha : PBv ct k X W a ea) (hg : Gl X "min" := by rfl) (he : starEach [a] X.env = (false, eval a X.env) :: starEach [] X.env := by rfl) : PEv ct k X W (.Call (.Name "min" p) [a] [] pos) (xU minD ea) := e_blt ud_min (fun h => cr_min h) hm (by decide +kernel) ha hg (by decide) (by decide) he
theorem e_sum {p : Pos} (hm : X.mg "sum" = none) (ha : PBv ct k X W a ea) (hg : Gl X "sum" := by rfl) (he : starEach [a] X.env = (false, eval a X.env) :: starEach [] X.env := by rfl) : PEv ct k X W (.Call (.Name "sum" p) [a] [] pos) (xU sumD ea) := e_blt ud_sum (fun h => cr_sum h) hm (by decide +kernel) ha hg (by decide) (by decide) he
/-! ### displays of dicts, the keys texts -/
def trP (K : PySem.W.Frag) (W : WS) (p : Xv × Xv) : TE × TE := (rd K (RE K) W p.1, rd K (RE K) W p.2)
theorem pr_read {σ : St} {env : En} : ∀ {prs : List (Xv × Xv)} {ps : List (List Nat × D)} {H0 F0 F H : Hp} {Q : List (V × V) → Hp → Prop}, prD prs env = .ok ps → SR K H0 F0 F H σ env →
    (∀ kvs F' H', Gd F H F' H' → RpK K F' kvs ps → Q (kvs.map fun kv => (kV kv.1, kv.2)) H') → tPairs (prs.map (trP K W)) σ H Q
  | [], ps, H0, F0, F, H, Q, h, S, hq => by
    have e : [] = ps := Res.ok.inj h
    subst e
    exact hq [] F H (.refl S.sub) .nil
  | (kx, vx) :: r, ps, H0, F0, F, H, Q, h, S, hq => by
    unfold prD at h
    cases h1 : kx env with
    | ok kd =>
      rw [h1] at h
      cases h2 : vx env with
      | ok vd =>
        rw [h2] at h
        cases kd with
        | str key =>
          dsimp only [Res.calm, Res.bind] at h
          cases h3 : prD r env with
          | ok ps' =>
            rw [h3] at h
            have e : (key, vd) :: ps' = ps := Res.ok.inj h
            subst e
            refine ⟨H0, F0, F, env, S, ?_⟩
            show Got _ _ _ _ _ _ (kx env)
            rw [h1]
            intro kv F1 H1 g1 rk
            refine ⟨H0, F0, F1, env, S.grow g1, ?_⟩
            show Got _ _ _ _ _ _ (vx env)
            rw [h2]
            intro vv F2 H2 g2 rv
            refine pr_read h3 ((S.grow g1).grow g2) fun kvs F' H' g3 rr => ?_
            obtain ⟨ek, hk⟩ := bo_str (H := H1) (.inl rk)
            subst ek
            exact hq ((Sum.inr (tx key), vv) :: kvs) F' H' ((g1.trans g2).trans g3) (.cons hk (rv.mono g3.ff) rr)
          | exc c => rw [h3] at h; cases h
          | bad => rw [h3] at h; cases h
        | _ => cases h
      | exc c => rw [h2] at h; cases h
      | bad => rw [h2] at h; cases h
    | exc c => rw [h1] at h; cases h
    | bad => rw [h1] at h; cases h
theorem rpK_merge {F : Hp} : ∀ {kvs : List (Key × V)} {ps : List (List Nat × D)} {acc : List (Key × V)} {acc' : List (List Nat × D)}, RpK K F kvs ps → RpK K F acc acc' → RpK K F (mergeK acc kvs) (mergeD acc' ps)
  | _, _, _, _, .nil, h => h
  | _, _, _, _, @RpK.cons _ _ key v kvs d ds z r t, h => by
    show RpK K F (mergeK (putK _ _ _) kvs) (mergeD (putD _ _ _) ds)
    exact rpK_merge t (rpK_put z r h)
/-- the pairs of a display -/
def PDv (ct : String → Addr) (k : Nat) (X : Cx) (W : WS) (p : Pos) (keys : List (Option Expr)) (values : List Expr) (prs : List (Xv × Xv)) : Prop := Cz ct k X W → PPs X p keys values (prs.map (trP X.K W))
theorem d_nil {p : Pos} : PDv ct k X W p [] [] [] := fun C => pps_nil
theorem d_cons {p : Pos} {ks : List (Option Expr)} {vs : List Expr} {kx vx : Xv} {prs : List (Xv × Xv)} {ke ve : Expr} (hk : PEv ct k X W ke kx) (hv : PEv ct k X W ve vx) (hr : PDv ct k X W p ks vs prs) : PDv ct k X W p (some ke :: ks) (ve :: vs) ((kx, vx) :: prs) := fun C => pps_cons (hk C) (hv C) (hr C)
theorem disp_read {σ : St} {env : En} {prs : List (Xv × Xv)} {ps : List (List Nat × D)} {H0 F0 F H : Hp} {Q : VK} (h : prD prs env = .ok ps) (hl : ps.length ≤ 15) (S : SR K H0 F0 F H σ env)
    (hq : ∀ p kvs F' H', H p = none → Gd F H F' H' → F' p = none → H' p = some (.dK []) → kvs.length ≤ 15 → RpK K F' kvs (mergeD [] ps) → Q (.ref p) (upd H' p (.dK kvs))) : tDisp (prs.map (trP K W)) σ H Q := by
  intro p np
  have g0 := Gd.drop (o := .dK []) S.sub np
  refine pr_read h (S.grow g0) fun kvs F' H' g1 rr => ?_
  have hp := g1.hh p _ upd_same
  have f0 : F p = none := by
    cases z : F p with
    | none => rfl
    | some u =>
      rcases S.sub p u z with q | ⟨o', q⟩
      · rw [np] at q; cases q
      · rw [np] at q; cases q
  have f1 : F' p = none := by
    cases z : F' p with
    | none => rfl
    | some u =>
      rcases g1.nw p (by rw [z]; simp) with q | q
      · exact absurd f0 q
      · rw [upd_same] at q; cases q
  have hk : kvs.length ≤ 15 := by rw [rr.length]; exact hl
  refine ⟨hp, kvs, rfl, hk, hq p _ F' H' np (g0.trans g1) f1 hp ?_ (rpK_merge rr .nil)⟩
  have := length_mergeK kvs []
  simp at this
  omega
theorem prD_len {env : En} : ∀ {prs : List (Xv × Xv)} {ps : List (List Nat × D)}, prD prs env = .ok ps → ps.length = prs.length
  | [], ps, h => by
    have e : [] = ps := Res.ok.inj h
    subst e; rfl
  | (kx, vx) :: r, ps, h => by
    unfold prD at h
    cases h1 : kx env with
    | ok kd =>
      rw [h1] at h
      cases h2 : vx env with
      | ok vd =>
        rw [h2] at h
        cases kd with
        | str key =>
          dsimp only [Res.calm, Res.bind] at h
          cases h3 : prD r env with
          | ok ps' =>
            rw [h3] at h
            have e : (key, vd) :: ps' = ps := Res.ok.inj h
            subst e
            simp [prD_len h3]
          | exc c => rw [h3] at h; cases h
          | bad => rw [h3] at h; cases h
        | _ => cases h
      | exc c => rw [h2] at h; cases h
      | bad => rw [h2] at h; cases h
    | exc c => rw [h1] at h; cases h
    | bad => rw [h1] at h; cases h
/-- {k: v, ..}, frozen -/
theorem e_dic {keys : List (Option Expr)} {values : List Expr} {prs : List (Xv × Xv)} (h : PDv ct k X W pos keys values prs) (hp : prs.length ≤ 15 := by decide) (hall : keys.all (·.isSome) = true := by rfl) (hl : keys.length = values.length := by rfl) (h0 : keys ≠ [] := by simp) (h15 : keys.length ≤ 15 := by decide) :
    PEv ct k X W (.Dict keys values pos) (xDic prs) := fun C =>
  (pe_disp (h C) hall hl h0 h15).imp fun σ H Q ⟨H0, F0, F, env, S, g⟩ => by
    unfold xDic at g
    cases z : prD prs env with
    | ok ps =>
      rw [z] at g
      refine disp_read z (by rw [prD_len z]; exact hp) S fun p kvs F' H' np gd f1 hp1 hk rr => ?_
      have up : ∀ b u, F' b = some u → upd F' p (.dK kvs) b = some u := fun b u hb => by
        have ne : b ≠ p := fun q => by subst q; rw [f1] at hb; cases hb
        rw [upd_ne ne]; exact hb
      refine g _ (upd F' p (.dK kvs)) _ ⟨fun b u hb => up b u (gd.ff b u hb), fun b o hb => ?_, fun b u hb => ?_, fun b hb => ?_⟩ (.dic upd_same (Nat.le_trans hk (by decide)) (rr.mono up))
      · have ne : b ≠ p := fun q => by subst q; rw [np] at hb; cases hb
        rw [upd_ne ne]; exact gd.hh b o hb
      · by_cases q : b = p
        · subst q; rw [upd_same] at hb; cases hb; exact .inl upd_same
        · rw [upd_ne q] at hb
          rcases gd.sub b u hb with y | ⟨o, y⟩
          · exact .inl (by rw [upd_ne q]; exact y)
          · exact .inr ⟨o, by rw [upd_ne q]; exact y⟩
      · by_cases q : b = p
        · subst q; exact .inr np
        · rw [upd_ne q] at hb; exact gd.nw b hb
    | exc c => rw [z] at g; exact g.elim
    | bad => rw [z] at g; exact g.elim
/-- x = {k: v, ..}, owned -/
theorem s_newDK (i : Nat) {x : Str} {p q : Pos} {keys : List (Option Expr)} {values : List Expr} {prs : List (Xv × Xv)} (h : PDv ct k X W q keys values prs) (hp : prs.length ≤ 15 := by decide) (hall : keys.all (·.isSome) = true := by rfl) (hl : keys.length = values.length := by rfl) (h0 : keys ≠ [] := by simp) (h15 : keys.length ≤ 15 := by decide)
    (hi : X.N[i]? = some x := by rfl) (hx : Loc X.env.scope x := by first | exact Or.inl rfl | exact Or.inr rfl) (hf : X.fn x = true ∨ X.env.scope.names.lookup x = some .local := by first | exact .inl rfl | exact .inr rfl)
    (hs : swapsWith (.Dict keys values q) (some (.Name x p)) pos.line X.env = pure false := by rfl) : PSv ct k X W (.Assign [.Name x p] (.Dict keys values q) pos) (sOwn [i] (oDK prs oNil)) := fun C =>
  (ps_set C.nd hi hx (pe_disp (h C) hall hl h0 h15) hs hf).imp fun Dn σ H ⟨H0, F0, F, env, S, g⟩ => by
    unfold sOwn oDK at g
    cases z : prD prs env with
    | ok ps =>
      rw [z] at g
      refine disp_read z (by rw [prD_len z]; exact hp) S fun p kvs F' H' np gd f1 hp1 hk rr => ?_
      have gd2 : Gd F H F' (upd H' p (.dK kvs)) := by
        refine ⟨gd.ff, fun b o hb => ?_, fun b u hb => ?_, gd.nw⟩
        · have ne : b ≠ p := fun q => by subst q; rw [np] at hb; cases hb
          rw [upd_ne ne]; exact gd.hh b o hb
        · have ne : b ≠ p := fun q => by subst q; rw [f1] at hb; cases hb
          rcases gd.sub b u hb with y | ⟨o, y⟩
          · exact .inl (by rw [upd_ne ne]; exact y)
          · exact .inr ⟨o, by rw [upd_ne ne]; exact y⟩
      exact g _ F' _ (own_done (is := [i]) (vs := [.ref p]) (ss := [.ow (.dic (mergeD [] ps))]) S gd2 (.ow np f1 (.dic upd_same (Nat.le_trans hk (by decide)) rr) (fun j d' e => by simp at e) .nil) rfl)
    | exc c => rw [z] at g; exact g.elim
    | bad => rw [z] at g; exact g.elim
/-! ### or by truth: texts -/
theorem e_orT {rest : List Expr} (ha : PEv ct k X W a ea) (hb : PEv ct k X W (.BoolOp .Or (b :: rest) pos) eb) : PEv ct k X W (.BoolOp .Or (a :: b :: rest) pos) (xOrT ea eb) := fun C =>
  (pe_orT (ha C) (hb C)).imp fun σ H Q ⟨H0, F0, F, env, S, g⟩ => seq S g fun x d F1 H1 S1 g1 rx q1 => by
    have fin : ∀ t : Bool, truD d = some t → TruV X.K x H1 t → ∃ k, TruV X.K x H1 k ∧ if k = true then Q x H1 else rd X.K (RE X.K) W eb σ H1 Q := by
      intro t e h
      refine ⟨t, h, ?_⟩
      rw [e] at q1
      cases t with
      | true => exact q1 _ F1 H1 (.refl S1.sub) rx
      | false => exact ⟨H0, F0, F1, env, S1, q1⟩
    cases rx with
    | str l z =>
      refine fin _ rfl ⟨by rw [tx_len, lim]; exact z.1, ?_⟩
      rw [tx_len]
      cases l with
      | nil => rfl
      | cons c l =>
        have : ((c :: l).length : Int) ≠ 0 := by simp only [List.length_cons]; omega
        rw [bne_iff_ne.mpr this]
        rfl
    | non => exact fin _ rfl (by simp [TruV])
    | bl b => exact fin _ rfl (by simp [TruV])
    | _ => exact q1.elim
/-- {}, frozen -/
theorem e_dic0 : PEv ct k X W (.Dict [] [] pos) (xC (.dic [])) := fun C =>
  pe_dnewK.imp fun σ H Q ⟨H0, F0, F, env, S, g⟩ => fun p np => by
    have gn := Gd.new (o := .dK []) S.sub np
    exact g _ _ _ gn (.dic upd_same (Nat.zero_le _) .nil)
end
end Pv

namespace Pv
open PySem PySem.Spec L2 PySem.Froz
/-! ### sets of texts, with the order of their table -/
def TxS (P : Program) (w : World) (h : Heap) (a : Addr) (l : List Str) : Prop := ∃ D : SD, h.get? a = some (sObj "set" D) ∧ TxOk P w D l ∧ l.Nodup ∧ Ris D.2.2.place.toList ∧ (w.params.followText "set-order" = true ∨ D.2.2.led = true)
section
variable {P : Program} {w : World} {A : Around} {E : Value → Shared → Prop} {s : Shared}
theorem addTx_ris (h : Int) (v : Value) (D : SD) (r : Ris D.2.2.place.toList) : Ris (addTx h v D).2.2.place.toList ∧ (addTx h v D).2.2.led = D.2.2.led := by
  have r1 := layNew_ris D.2.2 D.1 h v r
  have l1 := layNew_led D.2.2 D.1 h v
  have key : ∀ t2 : SetTable, Ris t2.place.toList → t2.led = D.2.2.led → ∀ wd, Ris (tailTx D.2.1 (layNew D.2.2 D.1 h v).1 t2 wd).2.2.place.toList ∧ (tailTx D.2.1 (layNew D.2.2 D.1 h v).1 t2 wd).2.2.led = D.2.2.led := by
    intro t2 q1 q2 wd
    unfold tailTx
    split
    · exact ⟨relayAll_ris _ _ _, (relayAll_led _ _ _).trans q2⟩
    · exact ⟨q1, q2⟩
  unfold addTx
  split
  · exact key { (layNew D.2.2 D.1 h v).2.1 with plain := false } r1 l1 _
  · exact key _ r1 l1 _
theorem txs_add {a : Addr} {l : List Str} {k : Str} {u : Tok} {Q : Bool → Shared → Prop} (R : TxS P w s.heap a l) (hb : l.length + 1 < scanBound)
    (hQ : ∀ b h', Heap.SameBut a s.heap h' → TxS P w h' a (if k ∈ l then l else k :: l) → Q b { s with heap := h' }) : wpAny (model P w) A (setAddHashed a (.str k u) (hashStr w k)) Q E s := by
  obtain ⟨D, ho, F, nd, r, hl⟩ := R
  by_cases hk : k ∈ l
  · obtain ⟨es, ep, t⟩ := D
    have hd : (sObj "set" (es, ep, t)).data = .set es ep t := rfl
    have hel : ElemsOf (strKind P w) es.toList := F.el
    have hsz : es.size = l.length := F.sz
    have hb0 : es.size < scanBound := by omega
    have hkey : (strKind P w).is k (.str k u) = true := is_str k u
    have hfi : ∃ j, List.findIdx? (fun e => (strKind P w).is k e.2) es.toList = some j := by
      cases q : List.findIdx? (fun e => (strKind P w).is k e.2) es.toList with
      | some j => exact ⟨j, rfl⟩
      | none =>
        obtain ⟨e, he, z⟩ := (F.mem k).mp hk
        have c := List.findIdx?_eq_none_iff.mp q e he
        rw [z] at c; cases c
    obtain ⟨j, hj⟩ := hfi
    unfold setAddHashed setAddHashedIn
    refine wpAny_holding (wpAny_bind (wpAny_setState_of ho hd F.fit ?_))
    dsimp only
    rw [byScan_of rfl hb0 hel]
    simp only [↓reduceIte]
    unfold setAddByScan
    refine wpAny_bind ?_
    refine wpAny_bind (wpAny_rule ?_)
    refine wpAny_bind (wpAny_setScan_of (knd := strKind P w) (k := k) hkey ho hd F.fit hel ?_)
    rw [hj]
    dsimp only
    refine wpAny_pure (wpAny_pure ?_)
    refine hQ _ s.heap (Heap.SameBut.refl a s.heap) ?_
    rw [if_pos hk]
    exact ⟨_, ho, F, nd, r, hl⟩
  · refine add_x ho F hk hb ?_
    obtain ⟨r1, l1⟩ := addTx_ris (hashStr w k) (.str k u) D r
    refine hQ _ _ (Heap.SameBut.update s.heap a _) ?_
    rw [if_neg hk]
    exact ⟨_, get_upd _ ho rfl, add_ok u F, List.nodup_cons.mpr ⟨hk, nd⟩, r1, by rw [l1]; exact hl⟩
/-- the texts, each once -/
def dist (acc : List Str) : List Str → List Str
  | [] => acc
  | x :: xs => dist (if x ∈ acc then acc else x :: acc) xs
theorem dist_len : ∀ (xs acc : List Str), (dist acc xs).length ≤ acc.length + xs.length
  | [], acc => Nat.le_refl _
  | x :: xs, acc => by
    have := dist_len xs (if x ∈ acc then acc else x :: acc)
    rw [dist]
    refine Nat.le_trans this ?_
    split <;> simp <;> omega
end
section
variable {prog : Program} {w : World} {A : Around} {R : Result → Shared → Prop} {I : Addr} {fp wr : List Addr} {G : Array GenState → Array GenState → Prop} {n : Nat} {P : Nat → Value → Prop} {St : Nat → Shared → Prop}
theorem TxS.keep {h h' : Heap} {a : Addr} {l : List Str} (R : TxS prog w h a l) (k : ∀ o, h.get? a = some o → h'.get? a = some o) : TxS prog w h' a l := by
  obtain ⟨D, ho, r⟩ := R
  exact ⟨D, k _ ho, r⟩
theorem loopTx (W : WalksS prog w A.in1 I fp wr G n P St) (S : Addr) (hSf : S ∉ fp) (xs : List Str) (hsz : xs.length = n) (hn : n + 1 < scanBound)
    (hval : ∀ i v, P i v → ∃ x t, xs[i]? = some x ∧ v = .str x t) :
    ∀ (k i : Nat) (s : Shared), n - i = k → i ≤ n → St i s → TxS prog w s.heap S (dist [] (xs.take i)) →
      (∀ s', Moved (S :: wr) G s s' → TxS prog w s'.heap S (dist [] xs) → R (.ok (.ret .none)) s') →
      codeAny (model prog w) A (.builtin "set.update.loop" ⟨[.ref S, .ref I], []⟩) R s := by
  have hSw : S ∉ wr := fun h => hSf (W.sub _ h)
  have hsub : ∀ b ∈ wr, b ∈ S :: wr := fun b hb => List.mem_cons_of_mem _ hb
  have snoc : ∀ (ys acc : List Str) (x : Str), dist acc (ys ++ [x]) = if x ∈ dist acc ys then dist acc ys else x :: dist acc ys := by
    intro ys
    induction ys with
    | nil => intro acc x; rfl
    | cons y ys ih => intro acc x; rw [List.cons_append, dist, ih, dist]
  intro k
  induction k with
  | zero =>
    intro i s hk hi hst hS hR
    have hin : i = n := by omega
    subst hin
    refine codeAny_builtin PyProof.Rows.F.entry_set_update_loop ?_
    rw [Around.under_plainId PyProof.Rows.F.plain_set_update_loop _]
    show wpAny _ A.in1 (pyNext (.ref I) >>= _) _ _ s
    refine wpAny_bind (W.done s _ _ hst fun s' hm => ?_)
    show wpAny _ A.in1 (ret Value.none) _ _ s'
    refine wpAny_pure (hR s' (hm.mono hsub) ?_)
    have e : xs.take i = xs := by rw [← hsz]; exact List.take_length
    rw [e] at hS
    exact hS.keep fun o e => hm.heap S _ hSw e
  | succ k ih =>
    intro i s hk hi hst hS hR
    have hlt : i < n := by omega
    refine codeAny_builtin PyProof.Rows.F.entry_set_update_loop ?_
    rw [Around.under_plainId PyProof.Rows.F.plain_set_update_loop _]
    show wpAny _ A.in1 (pyNext (.ref I) >>= _) _ _ s
    refine wpAny_bind (W.item i s _ _ hlt hst fun v s' hP hst' hm => ?_)
    obtain ⟨x, t, hx, rfl⟩ := hval i v hP
    have hS' := hS.keep fun o e => hm.heap S _ hSw e
    show wpAny _ A.in1 (holding [Value.str x t] (setAdd S (.str x t)) >>= _) _ _ s'
    refine wpAny_bind (wpAny_holding ?_)
    unfold setAdd
    refine wpAny_holding ?_
    refine wpAny_bind ((PySem.strKind prog w).pyHash (k := x) (is_str x t) ?_)
    have hlen : (dist [] (xs.take i)).length + 1 < scanBound := by
      have := dist_len (xs.take i) []
      have h2 : (xs.take i).length ≤ n := by rw [List.length_take]; omega
      simp at this
      omega
    refine txs_add (s := { s' with toks := s'.toks + 1 }) hS' hlen fun b h' hsb hS2 => ?_
    have hSi : TxS prog w h' S (dist [] (xs.take (i + 1))) := by
      rw [List.take_add_one, hx]
      show TxS prog w h' S (dist [] (xs.take i ++ [x]))
      rw [snoc]
      exact hS2
    refine wpAny_pure ⟨plainId_quiet PyProof.Rows.F.plain_set_update_loop _, ih (i + 1) _ (by omega) hlt (W.frame _ s' _ _ hst' (Nat.le_succ _) fun b hb o e => ?_) hSi fun s'' hm'' hS'' => ?_⟩
    · rw [hsb.2 b (fun h : b = S => hSf (by rw [← h]; exact hb))]; exact e
    · refine hR s'' (Moved.trans W.gtrans ((hm.mono hsub).then_heap (Nat.le_succ _) fun b o hb e => ?_) hm'') hS''
      rw [hsb.2 b (fun h : b = S => hb (by rw [h]; exact List.mem_cons_self))]; exact e
end
end Pv

namespace Pv
open PySem PySem.Spec L2 PySem.Froz PyProof.Rows
section
variable {P : Program} {w : World} {A : Around} {E : Value → Shared → Prop} {s : Shared}
abbrev nSet (w : World) : Obj := { cls := .type "set", dict := none, data := .set #[] 0 (.fresh 0 0 (!w.params.followText "set-order")) }
theorem txs_new {h : Heap} {a : Addr} (ho : h.get? a = some (nSet w)) : TxS P w h a [] :=
  ⟨(#[], 0, .fresh 0 0 (!w.params.followText "set-order")), ho, TxOk.nil (by rfl), List.nodup_nil, List.Pairwise.nil, by
    show _ ∨ (!w.params.followText "set-order") = true
    cases w.params.followText "set-order"
    · exact .inr rfl
    · exact .inl rfl⟩
set_option maxHeartbeats 3200000 in
/-- set(xs), xs a list of texts -/
theorem call_set_tx {l : Addr} {items : Array Value} {xs : List Str} {Q : Value → Shared → Prop} (hh : A.handled = none) (hl : s.heap.IsList l items) (hi : StrsAre items.toList xs) (hb : xs.length + 1 < scanBound)
    (h : ∀ (h' : Heap) (tk : Nat), TxS P w h' s.heap.objs.size (dist [] xs) → (∀ b o, s.heap.get? b = some o → h'.get? b = some o) → Q (.ref s.heap.objs.size) { s with heap := h', toks := tk }) :
    wpAny (model P w) A (call (.type "set") [.ref l]) Q E s := by
  have hisz : xs.length = items.size := by rw [← StrsAre.len_eq hi, Array.length_toList]
  obtain ⟨c, tl, hmro⟩ := PySem.F.called_set.mro
  have hmade := PySem.F.called_set.made
  have hsub := PySem.F.called_set.sub
  refine wpAny_call (codeAny_of_tree ?_)
  show wpAny _ _ (callAny (.type "set") _) _ _ _
  refine wpAny_pure ⟨Code.quiet_builtin _ (by decide +kernel), codeAny_builtin PySem.F.entry_type_call ?_⟩
  rw [Around.under_plain (weight_type_call_type "set" [.ref l] []) rfl]
  have h1 := PySem.F.called_set.notType
  have h2 := PySem.F.called_set.canCreate
  have hct := PySem.F.typeCall_set_1 (.ref l)
  repeat (any_goals (first | assumption | wp_step))
  refine codeAny_mono (code_set_led1 (.ref l) (E := E) (Q₁ := fun obj s₁ => obj = .ref s.heap.objs.size ∧ s₁ = { s with heap := s.heap.push (nSet w) }) ⟨rfl, rfl⟩) fun r s₁ hr => ?_
  cases r with
  | error e => exact hr
  | ok fl =>
    cases fl with
    | ret obj =>
      obtain ⟨rfl, rfl⟩ := hr
      have hS : (s.heap.push (nSet w)).get? s.heap.objs.size = some (nSet w) := Heap.get?_push_size _ rfl
      have hT : Shared.TypeIs { s with heap := s.heap.push (nSet w) } (.ref s.heap.objs.size) "set" := ⟨_, hS, rfl⟩
      have hli := PySem.F.called_set.init.lookup
      have hbi := PySem.F.called_set.init.bind (.ref s.heap.objs.size)
      repeat (any_goals (first | assumption | wp_step))
      refine codeAny_mono (codeAny_call_builtin (R := wants (fun r s₂ => r = .none ∧ ∃ h' tk, s₂ = { s with heap := h', toks := tk } ∧ TxS P w h' s.heap.objs.size (dist [] xs) ∧
          (∀ b o, s.heap.get? b = some o → h'.get? b = some o)) E) PySem.F.called_set.init.plain PySem.F.entry_set_init (check_set_init_1 hT ?_)) fun r₂ s₂ hr₂ => ?_
      · obtain ⟨ol, hol, hcl, nl, hdl⟩ := hl
        obtain ⟨ocls, odict, odata, oslots⟩ := ol
        simp only at hcl hdl
        subst hcl; subst hdl
        have hol' : (s.heap.push (nSet w)).get? l = some { cls := .type "list", dict := odict, data := .seq items nl, slots := oslots } := Heap.get?_push_of_some _ hol
        have hsls := PySem.F.sub_list_set
        have hslf := PySem.F.sub_list_frozenset
        have hne : (Value.type "list" == Value.type "dict") = false := by decide
        have hl1 : (s.heap.push (nSet w)).IsList l items := ⟨_, hol', rfl, nl, rfl⟩
        unfold Builtin.«set.__init__» noKeywords Builtin.Frozenset.updateFrom
        generalize hPI : pyIter = PI
        wp_walk
        subst hPI
        refine wpAny_pyIter_list hl1 ?_
        refine wpAny_bind (wpAny_runValue ?_)
        have hlS : l < s.heap.objs.size := Heap.lt_size hol
        have hh3 : A.in1.in1.in1.handled = none := by simp [hh]
        have hneI : l ≠ (s.heap.push (nSet w)).objs.size := by
          rw [Heap.size_push]; exact Nat.ne_of_lt (Nat.lt_succ_of_lt hlS)
        have hSf : s.heap.objs.size ∉ [(s.heap.push (nSet w)).objs.size, l] := by
          rw [Heap.size_push]; simp only [List.mem_cons, List.mem_singleton, List.not_mem_nil, or_false, not_or]
          exact ⟨Nat.ne_of_lt (Nat.lt_succ_self _), Nat.ne_of_gt hlS⟩
        have hval : ∀ (i : Nat) (v : Value), items[i]? = some v → ∃ x t, xs[i]? = some x ∧ v = .str x t := fun i v hv => by
          have hi' : i < xs.length := by rw [hisz]; exact (Array.getElem?_eq_some_iff.mp hv).1
          obtain ⟨t, e⟩ := SS.strs_at hi i v (by rw [Array.getElem?_toList]; exact hv)
          refine ⟨xs[i], t, List.getElem?_eq_getElem hi', ?_⟩
          rw [e, List.getD_eq_getElem?_getD, List.getElem?_eq_getElem hi'] <;> rfl
        refine loopTx ((Walks.list hh3 _ l hneI items).toS) s.heap.objs.size
          hSf xs hisz (by rw [← hisz]; exact hb) hval (items.size - 0) 0 _ (by omega) (Nat.zero_le _)
          ⟨⟨_, Heap.get?_push_size _ rfl, rfl, rfl⟩, (hl1.push _)⟩ ?hS0 ?hR
        case hS0 => exact txs_new (Heap.get?_push_of_some _ hS)
        case hR =>
          intro s' hm hS'
          obtain ⟨h', g2, d', tk', os'⟩ := s'
          have eg : g2 = s.gens := hm.gens
          have ed : d' = s.drawn := hm.drawn
          have eo : os' = s.os := hm.os
          subst eg; subst ed; subst eo
          show wpAny _ _ _ _ _ _
          refine wpAny_pure ?_
          show wpAny _ _ (ret Value.none) _ _ _
          refine wpAny_pure ⟨rfl, h', tk', rfl, hS', fun b o e => ?_⟩
          have hb0 : b < s.heap.objs.size := Heap.lt_size e
          have hb1 : b ≠ s.heap.objs.size := Nat.ne_of_lt hb0
          have hb2 : b ≠ (s.heap.push (nSet w)).objs.size := by
            rw [Heap.size_push]; exact Nat.ne_of_lt (Nat.lt_succ_of_lt hb0)
          exact hm.heap b o (by simp only [List.mem_cons, List.mem_singleton, List.not_mem_nil, or_false, not_or]; exact ⟨hb1, hb2⟩) (Heap.get?_push_of_some _ (Heap.get?_push_of_some _ e))
      · cases r₂ with
        | error e => exact hr₂
        | ok fl₂ =>
          cases fl₂ with
          | ret r =>
            obtain ⟨rfl, h', tk, rfl, hS', hk'⟩ := hr₂
            repeat (any_goals (first | assumption | wp_step))
            exact h _ _ hS' hk'
          | _ => exact hr₂.elim
    | _ => exact hr.elim
end
end Pv

namespace Pv
open PySem PySem.Spec L2 PySem.Froz
theorem perm_each {vs : List Value} (h : ∀ v ∈ vs, ∃ x t, v = .str x t) : ∃ ys : List (List Nat), PySem.W.EachIs (fun u (l : List Nat) => ∃ t, u = Value.str (tx l) t) vs ys := by
  induction vs with
  | nil => exact ⟨[], .nil⟩
  | cons v vs ih =>
    obtain ⟨ys, hy⟩ := ih fun u hu => h u (List.mem_cons_of_mem _ hu)
    obtain ⟨x, t, rfl⟩ := h v List.mem_cons_self
    exact ⟨x.cps.toList :: ys, .cons ⟨t, by rw [← tx_of rfl]⟩ hy⟩
theorem perm_cover : ∀ (ls ys : List (List Nat)), ls.Nodup → (∀ x ∈ ls, x ∈ ys) → ys.length = ls.length → ys.Perm ls
  | [], ys, _, _, hl => by
    have : ys = [] := List.eq_nil_of_length_eq_zero hl
    subst this
    exact .refl _
  | x :: ls, ys, nd, hs, hl => by
    rw [List.nodup_cons] at nd
    have hx := hs x List.mem_cons_self
    have p1 := List.perm_cons_erase hx
    have ih := perm_cover ls (ys.erase x) nd.2 (fun y hy => by
      have ne : y ≠ x := fun e => nd.1 (e ▸ hy)
      have := (p1.mem_iff (a := y)).mp (hs y (List.mem_cons_of_mem _ hy))
      rcases List.mem_cons.mp this with q | q
      · exact absurd q ne
      · exact q) (by have := p1.length_eq; simp only [List.length_cons] at this hl; omega)
    exact p1.trans (ih.cons x)
theorem srt_unique {ls ys : List (List Nat)} (p : ys.Perm ls) : ys.mergeSort (fun a b => dle (.str a) (.str b)) = ls.mergeSort (fun a b => dle (.str a) (.str b)) := by
  have le_iff : ∀ a b : List Nat, dle (.str a) (.str b) = true ↔ ¬ b < a := fun a b => by simp [dle, dlt]
  have tr : ∀ a b c : List Nat, dle (.str a) (.str b) = true → dle (.str b) (.str c) = true → dle (.str a) (.str c) = true := fun a b c h k => by
    rw [le_iff] at h k ⊢
    intro q
    by_cases z : b < c
    · exact h (List.lt_trans z q)
    · have e : b = c := List.le_antisymm (List.not_lt.mp k) (List.not_lt.mp z)
      subst e; exact h q
  have tot : ∀ a b : List Nat, (dle (.str a) (.str b) || dle (.str b) (.str a)) = true := fun a b => by
    rw [Bool.or_eq_true, le_iff, le_iff]
    by_cases z : b < a
    · exact .inr fun k => List.lt_irrefl _ (List.lt_trans z k)
    · exact .inl z
  refine List.Perm.eq_of_pairwise (le := fun a b => dle (.str a) (.str b) = true) (fun a b _ _ h k => ?_) (List.pairwise_mergeSort tr tot ys) (List.pairwise_mergeSort tr tot ls) (((List.mergeSort_perm ys _).trans p).trans (List.mergeSort_perm ls _).symm)
  rw [le_iff] at h k
  exact List.le_antisymm (List.not_lt.mp h) (List.not_lt.mp k)
theorem each_mem_str {vs : List Value} {ys : List (List Nat)} (e : PySem.W.EachIs (fun u (l : List Nat) => ∃ t, u = Value.str (tx l) t) vs ys) {x : List Nat} {t : Tok} (h : Value.str (tx x) t ∈ vs) : x ∈ ys := by
  induction e with
  | nil => exact nomatch h
  | cons r _ ih =>
    obtain ⟨t', rfl⟩ := r
    rcases List.mem_cons.mp h with q | q
    · injection q with q1 q2
      rw [tx_inj q1]; exact List.mem_cons_self
    · exact List.mem_cons_of_mem _ (ih q)
section
variable {P : Program} {w : World} {A : Around} {E : Value → Shared → Prop} {s : Shared}
/-- sorted(s), s a set of texts -/
theorem sorted_tx {a : Addr} {ls : List (List Nat)} {Q : Value → Shared → Prop} (R : TxS P w s.heap a (ls.map tx)) (hh : A.handled = none) (hb : ls.length < scanBound) (hu : A.units + 100 < cLine)
    (hQ : ∀ (s' : Shared) (p : Addr) (out : List Value) (c : Nat), (∀ b o, s.heap.get? b = some o → s'.heap.get? b = some o) → s'.gens = s.gens → s'.os = s.os → s.heap.objs.size ≤ p →
      s'.heap.get? p = some (PyProof.Rows.seqObj "list" out.toArray c) → PySem.W.EachIs (fun u (l : List Nat) => ∃ t, u = Value.str (tx l) t) out (ls.mergeSort fun a b => dle (.str a) (.str b)) → Q (.ref p) s') :
    wpAny (model P w) A (call (.builtin "sorted") [.ref a]) Q E s := by
  obtain ⟨D, ho, F, nd, r, hl⟩ := R
  obtain ⟨es, ep, t⟩ := D
  have hsz : es.size = ls.length := by have := F.sz; simpa using this
  refine Calls.call_function_entry PyProof.Rows.kind_sorted PyProof.Rows.plain_sorted PyProof.Rows.entry_sorted (PyProof.Rows.args_sorted1 _) ?_
  unfold Builtin.«sorted»
  refine wpAny_bind (m := checkCount "sorted" 1 1 _) (wpAny_pure ?_)
  refine wpAny_bind (collect_set (A := A.in1) (es := es) (ep := ep) (t := t) hh ⟨_, ho, rfl, rfl⟩ F.fit (by omega) r hl fun s1 vs k1 hz g1 o1 pm => ?_)
  have shape : ∀ v ∈ vs, ∃ x t, v = .str x t := fun v hv => by
    obtain ⟨e, he, q⟩ := List.mem_map.mp (pm.mem_iff.mp hv)
    obtain ⟨⟨k, hk, _⟩, _⟩ := F.el e he
    obtain ⟨t, ev⟩ := Value.isStrOf_shape (x := k) (v := e.2) hk
    exact ⟨k, t, by rw [← q]; exact ev⟩
  obtain ⟨ys, hy⟩ := perm_each shape
  have hvl : vs.length = ls.length := by rw [pm.length_eq, List.length_map, Array.length_toList]; exact hsz
  have hyl : ys.length = ls.length := by rw [← hy.length]; exact hvl
  have hndl : ls.Nodup := by
    have := nd
    rw [List.nodup_iff_pairwise_ne, List.pairwise_map] at this
    exact List.nodup_iff_pairwise_ne.mpr (this.imp fun h e => h (by rw [e]))
  have hperm : ys.Perm ls := perm_cover ls ys hndl (fun x hx => by
    obtain ⟨e, he, z⟩ := (F.mem (tx x)).mp (List.mem_map.mpr ⟨x, hx, rfl⟩)
    obtain ⟨t, ev⟩ := Value.isStrOf_shape (x := tx x) (v := e.2) z
    have : e.2 ∈ vs := pm.mem_iff.mpr (List.mem_map.mpr ⟨e, he, rfl⟩)
    rw [ev] at this
    exact each_mem_str hy this) hyl
  refine wpAny_bind (wpAny_newList ?_ (by rw [hvl, sizeLine_eq]; unfold scanBound at hb; omega))
  have hoL : (s1.heap.push (PyProof.Rows.seqObj "list" vs.toArray 0)).get? s1.heap.objs.size = some (PyProof.Rows.seqObj "list" vs.toArray 0) := Heap.get?_push_size _ rfl
  refine wpAny_bind (wpAny_holding (PySem.W.list_sort_data (s := { s1 with heap := s1.heap.push (PyProof.Rows.seqObj "list" vs.toArray 0) }) (enc := fun l => .str (tx l)) hoL hy (hy.mono fun u l ⟨t, e⟩ => ⟨[], by subst e; exact .str _ _, by simp⟩)
    (PySem.W.AllAlike.of fun _ _ => by simp [PySem.W.alike]) (PySem.W.Sortable.others fun _ => ⟨by simp, by simp⟩) (by rw [hyl, sizeLine_eq]; unfold scanBound at hb; omega) (fun b _ => by simp [PyData.depth, Around.in1]; omega) fun out ho' eo => ?_))
  obtain ⟨c, hc⟩ := PyProof.Rows.sortedHeap_at (vs := vs) (out := out.toArray) hoL
  have e2 : (fun a b : List Nat => cond false (!PySem.W.dataLt (PyData.str (tx a)) (PyData.str (tx b))) (!PySem.W.dataLt (PyData.str (tx b)) (PyData.str (tx a)))) = fun a b => dle (D.str a) (D.str b) := by
    funext a b
    show (!PySem.W.dataLt (PyData.str (tx b)) (PyData.str (tx a))) = !dlt (.str b) (.str a)
    rw [PySem.W.dataLt_str, tx_list, tx_list]
    simp [dlt]
  rw [PySem.W.dataLe_eq, e2, srt_unique hperm] at eo
  refine wpAny_pure ⟨_, rfl, hQ _ s1.heap.objs.size out c (fun b u e => ?_) g1 o1 hz hc eo⟩
  have q := k1 b u e
  have hlt := Heap.lt_size q
  show (PyProof.Rows.sortedHeap (s1.heap.push (PyProof.Rows.seqObj "list" vs.toArray 0)) s1.heap.objs.size vs out.toArray).get? b = some u
  rw [PyProof.Rows.sortedHeap_old (Nat.ne_of_lt hlt) (by rw [PyProof.Rows.size_push']; exact Nat.lt_succ_of_lt hlt)]
  exact Heap.get?_push_of_some _ q
end
end Pv

namespace Pv
open PySem PySem.Spec L2
/-! ### sorted(set(xs)), xs a list of texts -/
theorem dist_tx : ∀ (xs acc : List (List Nat)), dist (acc.map tx) (xs.map tx) = (distN acc xs).map tx
  | [], acc => rfl
  | x :: xs, acc => by
    rw [List.map_cons, dist, distN]
    have : (if tx x ∈ acc.map tx then acc.map tx else tx x :: acc.map tx) = (if x ∈ acc then acc else x :: acc).map tx := by
      by_cases h : x ∈ acc
      · rw [if_pos h, if_pos (List.mem_map.mpr ⟨x, h, rfl⟩)]
      · have h2 : tx x ∉ acc.map tx := fun q => by
          obtain ⟨y, hy, e⟩ := List.mem_map.mp q
          exact h (tx_inj e ▸ hy)
        rw [if_neg h, if_neg h2]
        rfl
    rw [this]
    exact dist_tx xs _
theorem distN_mem : ∀ (xs acc : List (List Nat)) (y : List Nat), y ∈ distN acc xs → y ∈ acc ∨ y ∈ xs
  | [], acc, y, h => .inl h
  | x :: xs, acc, y, h => by
    rcases distN_mem xs _ y h with q | q
    · split at q
      · exact .inl q
      · rcases List.mem_cons.mp q with z | z
        · rw [z]; exact .inr List.mem_cons_self
        · exact .inl z
    · exact .inr (List.mem_cons_of_mem _ q)
theorem distN_len : ∀ (xs acc : List (List Nat)), (distN acc xs).length ≤ acc.length + xs.length
  | [], acc => Nat.le_refl _
  | x :: xs, acc => by
    have := distN_len xs (if x ∈ acc then acc else x :: acc)
    rw [distN]
    refine Nat.le_trans this ?_
    split <;> simp <;> omega
section
variable {ct : String → Addr} {k : Nat} {X : Cx} {W : WS} {e a b c : Expr} {es : List Expr} {pos : Pos} {ev ea eb ec : Xv}
theorem e_sset {p p2 q : Pos} (hm : X.mg "sorted" = none) (hm2 : X.mg "set" = none) (ha : PBv ct k X W a ea) (hg : Gl X "sorted" := by rfl) (hg2 : Gl X "set" := by rfl) (na : starEach [a] X.env = (false, eval a X.env) :: starEach [] X.env := by rfl) :
    PEv ct k X W (.Call (.Name "sorted" p) [.Call (.Name "set" p2) [a] [] q] [] pos) (xU ssetD ea) := fun C => by
  have h0 : PE X (.Call (.Name "sorted" p) [.Call (.Name "set" p2) [a] [] q] [] pos) (fun σ H Q => rd X.K (RBo X.K) W ea σ H fun x H1 => ∃ (l : Addr) (ls : List (List Nat)), x = .ref l ∧ SqL X.K H1 l ((ls.map tx).map V.str) ∧ ls.length ≤ 4000 ∧
      ∀ p, H1 p = none → Q (.ref p) (upd H1 p (.lst (((distN [] ls).mergeSort fun a b => dle (.str a) (.str b)).map fun l => V.str (tx l))))) := by
    refine ⟨fun pins s σ H Q I h => ?_⟩
    refine PyProof.Rows.Call_ (ld_blt I hg hm (show bootBuiltins "sorted" = some (.builtin "sorted") by decide +kernel) ?_)
    refine PyProof.Rows.callWith_builtin1 (PyProof.Rows.args_cons ?_ rfl) rfl rfl
    refine PyProof.Rows.Call_ (ld_blt I hg2 hm2 (show bootBuiltins "set" = some (.type "set") by decide +kernel) ?_)
    refine PyProof.Rows.callWith_type1 (PyProof.Rows.args_cons (thn ((ha C).run pins s σ H _ I h) fun v s1 ⟨x, H1, I1, r1, q1⟩ => PyProof.Rows.args_nil ?_) na) na rfl
    obtain ⟨l, ls, rfl, hq, hn, q1⟩ := q1
    cases r1
    obtain ⟨its, rv, hl, hz⟩ := I1.list hq
    refine call_set_tx (xs := ls.map tx) (I1.ok.hd C.calm) hl.isList (by simpa using strsAre_of rv) (by rw [List.length_map]; unfold scanBound; omega) fun h' tk hS hk => ?_
    refine PyProof.Rows.args_nil ?_
    have I2 : Inv X pins σ H1 { s1 with heap := h', toks := tk } := I1.kept hk
    have hS' : TxS X.prog X.w h' s1.heap.objs.size ((distN [] ls).map tx) := by
      have := dist_tx ls []
      rw [← this]; exact hS
    have hdl := distN_len ls []
    simp only [List.length_nil, Nat.zero_add] at hdl
    refine sorted_tx (s := { s1 with heap := h', toks := tk }) hS' (I1.ok.hd C.calm) (by unfold scanBound; omega) (by have := C.room.un; omega) fun s2 pp out c k2 g2 o2 hp hget eo => ?_
    have hv := each_vals eo
    have hlen : (((distN [] ls).mergeSort fun a b => dle (.str a) (.str b)).map fun l => V.str (tx l)).length ≤ sizeLine := by
      rw [List.length_map, List.length_mergeSort, lim]
      exact Nat.le_trans (Nat.le_trans hdl hn) (by decide)
    have np : H1 pp = none := I2.hok.fresh hp
    have hp1 : s1.heap.objs.size ≤ pp := by
      obtain ⟨D, hD, _⟩ := hS'
      have hp' : h'.objs.size ≤ pp := hp
      exact Nat.le_trans (Nat.le_of_lt (Heap.lt_size hD)) hp'
    have kk : ∀ (b : Addr) (u : Obj), s1.heap.get? b = some u → s2.heap.get? b = some u := fun b u e => k2 b u (hk b u e)
    have J : Inv X pins σ (upd H1 pp (.lst (((distN [] ls).mergeSort fun a b => dle (.str a) (.str b)).map fun l => V.str (tx l)))) { s1 with heap := s2.heap, gens := s2.gens, drawn := s2.drawn, toks := s2.toks } :=
      I1.call (ch := []) (Un.laid kk hp1 np) (I1.hok.laid kk hp1 ⟨hlen, out, c, hv, hget⟩) (by rw [g2]; exact I1.bare) (fun _ z => nomatch z)
    have e : s2 = { s1 with heap := s2.heap, gens := s2.gens, drawn := s2.drawn, toks := s2.toks } := by
      cases s2
      cases s1
      cases o2
      rfl
    rw [e]
    exact ⟨.ref pp, _, J, rfl, q1 pp np⟩
  refine h0.imp fun σ H Q ⟨H0, F0, F, env, S, g⟩ => seq S g fun x d F1 H1 S1 g1 rx q1 => ?_
  have q3 := got_wf q1
  cases d with
  | lst ds =>
    obtain ⟨p, vs, ex, hq, zl, rv⟩ := bo_lst S1.sub rx
    subst ex
    dsimp only [ssetD] at q3
    cases z : asSs ds with
    | none => rw [z] at q3; exact q3.elim
    | some ls =>
      rw [z] at q3
      dsimp only at q3
      obtain ⟨h1, h2, h3⟩ := asSs_rp rv z
      split at q3
      · rename_i hn
        refine ⟨p, ls, rfl, .inl (by rw [← h1]; exact hq), hn, fun p' np => ?_⟩
        refine got_new S1.sub q3 np fun ff => .lst upd_same ?_ (rpA_strs fun l hl => ?_)
        · rw [List.length_map, List.length_mergeSort]
          have := distN_len ls []
          simp only [List.length_nil, Nat.zero_add] at this
          exact Nat.le_trans (Nat.le_trans this hn) (by decide)
        · rcases distN_mem ls [] l ((List.mergeSort_perm _ _).mem_iff.mp hl) with q | q
          · exact nomatch q
          · exact h3 l q
      · exact q3.elim
  | _ => exact q3.elim
end
end Pv

namespace Pv
/-- text.index(sign), text.find(sign) -/
def sidxD : D → D → Res D
  | .str l, .str [c] => match l.findIdx? (· == c) with
    | some i => .ok (.int (i : Nat))
    | none => .bad
  | _, _ => .bad
def sfndD : D → D → Res D
  | .str l, .str [c] => .ok (.int (match l.findIdx? (· == c) with | some i => ((i : Nat) : Int) | none => -1))
  | _, _ => .bad
/-- d == {} -/
def eqZ : D → D → Res D
  | .dic kvs, .dic [] => .ok (.bl kvs.isEmpty)
  | _, _ => .bad
/-- list of a list or a tuple -/
def lisT : D → Res D
  | .lst ds => .ok (.lst ds)
  | .tup ds => .ok (.lst ds)
  | _ => .bad
/-- list(range(n)) -/
def lrnD (d : D) : Res D := (rng1 d).bind fun l => .ok (.lst l)
def cntD : D → D → Res D
  | .lst ds, .str l => if ds.all isStr = true then .ok (.int ((ds.filter fun d => deq d (.str l)).length : Nat)) else .bad
  | _, _ => .bad
/-- x = a + b, a new list -/
def sAddO (i : Nat) (ea eb : Xv) : Sv := fun env => (ea env).fl env fun x => (eb env).fl env fun y => match addD x y with
  | .ok (.lst l) => .nx (pt env i (some (.ow (.lst l))))
  | _ => .bad
/-- len(set(xs)), texts -/
def lsetD : D → Res D
  | .lst ds => match asSs ds with
    | some ls => if ls.length ≤ 4000 then .ok (.int ((distN [] ls).length : Nat)) else .bad
    | none => .bad
  | _ => .bad
/-- min(xs) of a list: the first of the least -/
def argB (ds : List D) : Nat → Nat
  | 0 => 0
  | k + 1 => if dlt (ds.getD (k + 1) .non) (ds.getD (argB ds k) .non) = true then k + 1 else argB ds k
def minT : D → Res D
  | .lst ds => if srtOk ds = true ∧ ds.isEmpty = false then .ok (ds.getD (argB ds (ds.length - 1)) .non) else .bad
  | _ => .bad
end Pv

namespace Pv
open PySem PySem.Spec L2
/-! ### text.index(sign), text.find(sign) -/
theorem occ_full (s sub : Str) (hi : Nat) : ∀ (l : List Nat) (st : Array Nat × Nat), 1 ≤ st.fst.size → (forIn l st (StrLaws.occBody s sub hi 1)).run.fst = st.fst
  | [], st, _ => rfl
  | a :: l, st, h => by
    rw [List.forIn_cons]
    unfold StrLaws.occBody
    rw [if_neg (fun q => by have := q.1.1.1; omega)]
    exact occ_full s sub hi l st h
theorem occ_run (s sub : Str) (hi : Nat) : ∀ (l : List Nat), (forIn l ((#[] : Array Nat), 0) (StrLaws.occBody s sub hi 1)).run.fst.toList = (l.find? fun i => decide (i + sub.length ≤ hi ∧ Builtin.Str.subAt s sub i = true)).toList
  | [] => rfl
  | a :: l => by
    rw [List.forIn_cons]
    unfold StrLaws.occBody
    by_cases hc : a + sub.length ≤ hi ∧ Builtin.Str.subAt s sub a = true
    · rw [if_pos ⟨⟨⟨by simp, Nat.zero_le _⟩, hc.1⟩, hc.2⟩, List.find?_cons_of_pos (by simpa using hc)]
      have := occ_full s sub hi l (#[].push a, a + sub.length) (by simp)
      exact congrArg Array.toList this
    · rw [if_neg (fun q => hc ⟨q.1.2, q.2⟩), List.find?_cons_of_neg (by simpa using hc)]
      exact occ_run s sub hi l
theorem find_idx (l : List Nat) (c : Nat) : (List.range' 0 (l.length + 1)).find? (fun i => decide (l[i]? = some c)) = l.findIdx? (· == c) := by
  have key : ∀ (l : List Nat) (p : Nat → Bool) (s : Nat) (_ : ∀ i, p (s + i) = decide (l[i]? = some c)), ((List.range' s (l.length + 1)).find? p) = (l.findIdx? (· == c)).map (s + ·) := by
    intro l
    induction l with
    | nil =>
      intro p s h
      have := h 0
      simp at this
      simp [List.range', this]
    | cons a l ih =>
      intro p s h
      rw [List.length_cons, List.range'_succ, List.findIdx?_cons]
      by_cases e : a = c
      · have := h 0
        simp [e] at this
        rw [List.find?_cons_of_pos (by simpa using this)]
        simp [e]
      · have h0 := h 0
        simp [e] at h0
        rw [List.find?_cons_of_neg (by simp [h0]), ih p (s + 1) fun i => by
          have := h (i + 1)
          rw [show s + 1 + i = s + (i + 1) by omega, this]
          simp]
        simp [e]
        cases l.findIdx? (· == c) with
        | none => rfl
        | some j => simp; omega
  have := key l (fun i => decide (l[i]? = some c)) 0 fun i => by simp
  rw [this]
  simp
theorem occ_tx (l : List Nat) (c : Nat) : Builtin.Str.occurrences (tx l) (tx [c]) 0 (tx l).length 1 = (l.findIdx? (· == c)).toList := by
  rw [StrLaws.occ_eq, Nat.sub_zero, occ_run, tx_len]
  congr 1
  rw [← find_idx]
  congr 1
  funext i
  have := StrLaws.subAt_one (tx l) c i
  rw [tx_list, tx_len] at this
  exact decide_eq_decide.mpr this
section
variable {ct : String → Addr} {k : Nat} {X : Cx} {W : WS} {e a b c : Expr} {es xs : List Expr} {pos : Pos} {ev ea eb ec : Xv} {ov : Ov} {aa : Av}
theorem e_sidx {apos : Pos} (ha : PEv ct k X W a ea) (hb : PEv ct k X W b eb) (hs : starEach [b] X.env = [(false, eval b X.env)] := by rfl) (hbase : attributeBase a "index" X.env (eval a X.env) = eval a X.env := by rfl) (hline : (apos.endLine == pos.line) = true := by rfl) :
    PEv ct k X W (.Call (.Attribute a "index" apos) [b] [] pos) (xM isStr sidxD ea eb) := fun C =>
  (pe_m1 PySem.F.slot_str_index PySem.F.type_str_index mt_sindex (ha C) (hb C) hs hbase hline).imp fun σ H Q ⟨H0, F0, F, env, S, g⟩ => seq S g fun x d F1 H1 S1 g1 rx q1 => by
    cases d with
    | str l =>
      obtain ⟨ex, hx⟩ := bo_str (H := H1) (.inl rx)
      refine ⟨⟨_, ex⟩, seq S1 q1 fun y e F2 H2 S2 g2 ry q2 => ?_⟩
      have q3 := got_wf q2
      cases e with
      | str m =>
        obtain ⟨ey, hy⟩ := bo_str (H := H2) (.inl ry)
        match m, ey, q3 with
        | [c], ey, q3 =>
          dsimp only [sidxD] at q3
          cases z : l.findIdx? (· == c) with
          | none => rw [z] at q3; exact q3.elim
          | some i =>
            rw [z] at q3
            exact ⟨tx l, tx [c], i, [], ex, by rw [ey], by rw [occ_tx, z]; rfl, got_ok S2.sub q3 (.int _)⟩
        | [], _, q3 => exact q3.elim
        | _ :: _ :: _, _, q3 => exact q3.elim
      | _ => exact q3.elim
    | _ => exact q1.elim
theorem e_sfnd {apos : Pos} (ha : PEv ct k X W a ea) (hb : PEv ct k X W b eb) (hs : starEach [b] X.env = [(false, eval b X.env)] := by rfl) (hbase : attributeBase a "find" X.env (eval a X.env) = eval a X.env := by rfl) (hline : (apos.endLine == pos.line) = true := by rfl) :
    PEv ct k X W (.Call (.Attribute a "find" apos) [b] [] pos) (xM isStr sfndD ea eb) := fun C =>
  (pe_m1 PySem.F.slot_str_find PySem.F.type_str_find mt_find (ha C) (hb C) hs hbase hline).imp fun σ H Q ⟨H0, F0, F, env, S, g⟩ => seq S g fun x d F1 H1 S1 g1 rx q1 => by
    cases d with
    | str l =>
      obtain ⟨ex, hx⟩ := bo_str (H := H1) (.inl rx)
      refine ⟨⟨_, ex⟩, seq S1 q1 fun y e F2 H2 S2 g2 ry q2 => ?_⟩
      have q3 := got_wf q2
      cases e with
      | str m =>
        obtain ⟨ey, hy⟩ := bo_str (H := H2) (.inl ry)
        match m, ey, q3 with
        | [c], ey, q3 =>
          dsimp only [sfndD] at q3
          refine ⟨tx l, tx [c], ex, by rw [ey], ?_⟩
          have e2 : Txt.find (tx l) (tx [c]) = (match l.findIdx? (· == c) with | some i => ((i : Nat) : Int) | none => -1) := by
            unfold Txt.find
            rw [occ_tx]
            cases l.findIdx? (· == c) <;> rfl
          rw [e2]
          exact got_ok S2.sub q3 (.int _)
        | [], _, q3 => exact q3.elim
        | _ :: _ :: _, _, q3 => exact q3.elim
      | _ => exact q3.elim
    | _ => exact q1.elim
/-! ### list(xs) -/
theorem ud_lis {K : PySem.W.Frag} : UnD K (fun xs H Q => ∃ p ys, xs = [.ref p] ∧ (SqL K H p ys ∨ SqT K H p ys) ∧ ∀ l, H l = none → Q (.ref l) (upd H l (.lst ys))) lisT := by
  intro F H x d Q s rx g
  cases d with
  | lst ds =>
    obtain ⟨p, vs, ex, hq, z, rv⟩ := bo_lst s rx
    subst ex
    exact ⟨p, vs, rfl, .inl (.inl hq), fun l nl => got_new s g nl fun ff => .lst upd_same z (rv.mono ff)⟩
  | tup ds =>
    obtain ⟨p, vs, ex, hq, z, rv, Rx⟩ := bo_tup s rx
    subst ex
    exact ⟨p, vs, rfl, .inr hq, fun l nl => got_new s g nl fun ff => .lst upd_same z (rv.mono ff)⟩
  | _ => exact g.elim
theorem e_tolst {p : Pos} (hm : X.mg "list" = none) (ha : PBv ct k X W a ea) (hg : Gl X "list" := by rfl) (he : starEach [a] X.env = (false, eval a X.env) :: starEach [] X.env := by rfl) : PEv ct k X W (.Call (.Name "list" p) [a] [] pos) (xU lisT ea) := e_bty ud_lis (fun _ => call_list_of) hm (by decide +kernel) ha hg (by decide) (by decide) he
/-! ### d == {} -/
def rEqZ (K : PySem.W.Frag) : R2 := fun x y H Q => ∃ a b ks, x = .ref a ∧ y = .ref b ∧ Rd H a (.dK ks) ∧ Rd H b (.dK []) ∧ Q (.bl ks.isEmpty) H
theorem op_eqZ (hu : X.A.units < cLine) : OpR X (compareOp .Eq) (rEqZ X.K) := by
  intro pins s σ H x y v u Q I rx ry h
  obtain ⟨a, b, ks, rfl, rfl, ha, hb, q⟩ := h
  cases (show v = Value.ref a from rx)
  cases (show u = Value.ref b from ry)
  obtain ⟨_, ya, va, ra, da⟩ := ha.ok I.hok
  obtain ⟨_, yb, vb, rb, db⟩ := hb.ok I.hok
  have el : va.length = ks.length := ra.length.symm
  have eb : vb.length = 0 := rb.length.symm
  refine PySem.W.rcP_dicts (knd := mixKind X.prog X.w) (r := true) ya yb da db hu (fun hl => ?_) _ _ ?_
  · have : va = [] := List.length_eq_zero_iff.mp (hl.trans eb)
    subst this
    exact .nil
  · have e : (va.length == vb.length && true) = ks.isEmpty := by
      rw [el, eb]
      cases ks <;> rfl
    rw [e]
    exact ⟨.bl _, H, I, rfl, q⟩
theorem od_eqZ {K : PySem.W.Frag} : OpD K (rEqZ K) eqZ := by
  intro F H x y d e Q s rx ry g
  cases d with
  | dic ds =>
    cases e with
    | dic es =>
      cases es with
      | nil =>
        obtain ⟨a, ks, ex, h1, z1, r1⟩ := bo_dic s rx
        obtain ⟨b, ls, ey, h2, z2, r2⟩ := bo_dic s ry
        cases r2
        refine ⟨a, b, ks, ex, ey, h1, h2, ?_⟩
        have : ks.isEmpty = ds.isEmpty := by cases r1 <;> rfl
        rw [this]
        exact got_ok s g (.bl _)
      | cons _ _ => exact g.elim
    | _ => exact g.elim
  | _ => exact g.elim
theorem e_eqZ (ha : PBv ct k X W a ea) (hb : PBv ct k X W b eb) : PEv ct k X W (.Compare a [.Eq] [b] pos) (xOp eqZ ea eb) := fun C => e_cmp od_eqZ (op_eqZ (Nat.lt_of_succ_lt (hu_of C.room))) ha hb (nomark _) C
theorem t_eqZ (ha : PBv ct k X W a ea) (hb : PBv ct k X W b eb) : PTv ct k X W (.Compare a [.Eq] [b] pos) (tVal (xOp eqZ ea eb)) := fun C => t_cmp od_eqZ (op_eqZ (Nat.lt_of_succ_lt (hu_of C.room))) ha hb (nomark _) C
end
end Pv

namespace Pv
open PySem PySem.Spec L2
/-! ### a module's tuple of texts -/
theorem rpa_strs {K : PySem.W.Frag} {F : Hp} : ∀ (ls : List (List Nat)), (∀ l ∈ ls, okS l) → RpA K F (ls.map fun l => V.str (tx l)) (ls.map D.str)
  | [], _ => .nil
  | l :: ls, h => .cons (.str l (h l List.mem_cons_self)) (rpa_strs ls fun m hm => h m (List.mem_cons_of_mem _ hm))
theorem gtup {K : PySem.W.Frag} {x : Str} (ls : List (List Nat)) (h : He.tupB K x (ls.map fun l => He.Dv.str (tx l)) = true) (hz : ∀ l ∈ ls, okS l) (hn : ls.length ≤ LIM) (F : Hp) : Rp K F (.ref (He.ga K x)) (.tup (ls.map D.str)) := by
  have q := He.tupB_ok h E0h
  rw [List.map_map] at q
  exact .tup (.inr q) (by simpa using hn) (rpa_strs ls hz)
theorem addL_inv {d e : D} {l : List D} (h : addD d e = .ok (.lst l)) : ∃ a b, d = .lst a ∧ e = .lst b ∧ a.length + b.length ≤ LIM ∧ l = a ++ b := by
  cases d <;> cases e <;> first
    | (cases h; done)
    | (dsimp only [addD] at h; split at h <;> first | (cases h; exact ⟨_, _, rfl, rfl, by assumption, rfl⟩) | cases h)
section
variable {ct : String → Addr} {k : Nat} {X : Cx} {W : WS} {e a b c : Expr} {es xs : List Expr} {pos : Pos} {ev ea eb ec : Xv} {ov : Ov} {aa : Av}
theorem e_gtup {x : Str} {d : D} (hm : X.mg x = some (.ref (He.ga X.K x))) (hd : ∀ F, Rp X.K F (.ref (He.ga X.K x)) d) (hg : Gl X x := by rfl) (hdb : (x == ("__debug__" : Str)) = false := by decide) : PEv ct k X W (.Name x pos) (xC d) :=
  e_glob hm (v := .ref (He.ga X.K x)) rfl hd hg hdb
/-! ### list(range(n)) -/
theorem rgV_rp {K : PySem.W.Frag} {F : Hp} (j : Int) : RpA K F (rgV 0 j) (rngD 0 j.toNat) := by
  unfold rgV rngD
  rw [Int.sub_zero]
  generalize List.range j.toNat = l
  induction l with
  | nil => exact .nil
  | cons i l ih => exact .cons (.int _) ih
theorem e_lrng {p p2 q : Pos} (hm : X.mg "list" = none) (hm2 : X.mg "range" = none) (ha : PEv ct k X W a ea) (hg : Gl X "list" := by rfl) (hg2 : Gl X "range" := by rfl) (na : starEach [a] X.env = (false, eval a X.env) :: starEach [] X.env := by rfl)
    (nb : starEach [.Call (.Name "range" p2) [a] [] q] X.env = (false, eval (.Call (.Name "range" p2) [a] [] q) X.env) :: starEach [] X.env := by rfl) : PEv ct k X W (.Call (.Name "list" p) [.Call (.Name "range" p2) [a] [] q] [] pos) (xU lrnD ea) := fun C =>
  (pe_listRg C.calm hg hm (prg_1 hg2 hm2 (ha C) na) nb).imp fun σ H Q ⟨H0, F0, F, env, S, g⟩ => seq S g fun x d F1 H1 S1 g1 rx q1 => by
    have q3 := got_wf q1
    cases d with
    | int j =>
      have ex := bo_int (H := H1) (.inl rx)
      subst ex
      dsimp only [lrnD, rng1] at q3
      split at q3
      · rename_i z
        have hl : (rgV 0 j).length ≤ LIM := by rw [rgV_length, Int.sub_zero]; exact z.2.2
        refine ⟨j, rfl, ⟨by decide, by decide, z.1, z.2.1, ?_⟩, fun l nl => got_new S1.sub q3 nl fun ff => .lst upd_same hl (rgV_rp j)⟩
        rw [Int.sub_zero]
        exact z.2.2
      · exact q3.elim
    | _ => exact q3.elim
/-! ### x = a + b, a new list of one's own -/
theorem s_addO (i : Nat) {x : Str} {p q : Pos} (ha : PBv ct k X W a ea) (hb : PBv ct k X W b eb) (hi : X.N[i]? = some x := by rfl) (hx : Loc X.env.scope x := by first | exact Or.inl rfl | exact Or.inr rfl) (hf : X.fn x = true ∨ X.env.scope.names.lookup x = some .local := by first | exact .inl rfl | exact .inr rfl)
    (hs : swapsWith (.BinOp a .Add b q) (some (.Name x p)) pos.line X.env = pure false := by rfl) : PSv ct k X W (.Assign [.Name x p] (.BinOp a .Add b q) pos) (sAddO i ea eb) := fun C =>
  (ps_set C.nd hi hx (pe_op op_catR (ha C) (hb C)) hs hf).imp fun Dn σ H ⟨H0, F0, F, env, S, g⟩ => sseq S g fun u d F1 H1 S1 g1 ru q1 => sseq S1 q1 fun v e F2 H2 S2 g2 rv q2 => by
    cases h : addD d e with
    | ok r =>
      rw [h] at q2
      cases r with
      | lst l =>
        obtain ⟨ds, es, rfl, rfl, z, rfl⟩ := addL_inv h
        obtain ⟨l, vs, eu, hl, zl, rl⟩ := bo_lst S2.sub (ru.grow g2)
        obtain ⟨m, ws, ev, hm, zm, rm⟩ := bo_lst S2.sub rv
        have zz : vs.length + ws.length ≤ LIM := by rw [rl.length, rm.length]; exact z
        refine ⟨l, m, vs, ws, eu, ev, hl, hm, by rw [lim]; exact zz, fun p' np => ?_⟩
        have g3 := Gd.drop (o := .lst (vs ++ ws)) S2.sub np
        refine q2 _ F2 _ (own_done (is := [i]) (vs := [.ref p']) (ss := [.ow (.lst (ds ++ es))]) S2 g3 (.ow np ?_ (.lst upd_same (by simpa using zz) (rl.append rm)) (fun j d' e => by simp at e) .nil) rfl)
        cases y : F2 p' with
        | none => rfl
        | some u =>
          rcases S2.sub p' u y with q | ⟨o', q⟩
          · rw [np] at q; cases q
          · rw [np] at q; cases q
      | _ => exact q2.elim
    | exc c => rw [h] at q2; exact q2.elim
    | bad => rw [h] at q2; exact q2.elim
/-! ### xs.count(text), a list of texts -/
def eqs (k : Str) (v : Value) : Bool := match v with
  | .str x _ => x == k
  | _ => false
def rCntS (K : PySem.W.Frag) : V → List V → Hp → VK → Prop := fun x xs H Q => ∃ (p : Addr) (ns : List Str) (k : Str), x = .ref p ∧ xs = [.str k] ∧ Rd H p (.lst (ns.map V.str)) ∧ Q (.int ((ns.filter (· == k)).length : Nat)) H
theorem eqs_count {k : Str} : ∀ {us : List Value} {ns : List Str}, Vals (ns.map V.str) us → us.countP (eqs k) = (ns.filter (· == k)).length
  | [], [], _ => rfl
  | [], _ :: _, h => by cases h
  | _ :: _, [], h => by cases h
  | u :: us, n :: ns, h => by
    rw [List.map_cons] at h
    cases h with
    | cons r t =>
      obtain ⟨tk, rfl⟩ := r
      rw [List.countP_cons, List.filter_cons, eqs_count t]
      show _ + (if (n == k) = true then 1 else 0) = _
      by_cases q : (n == k) = true
      · rw [if_pos q, if_pos q]; rfl
      · rw [if_neg q, if_neg q]; rfl
theorem vals_strs : ∀ {us : List Value} {ns : List Str}, Vals (ns.map V.str) us → ∀ y ∈ us, ∃ z t, y = .str z t
  | [], [], _, y, hy => by simp at hy
  | [], _ :: _, h, _, _ => by cases h
  | _ :: _, [], h, _, _ => by cases h
  | u :: us, n :: ns, h, y, hy => by
    rw [List.map_cons] at h
    cases h with
    | cons r t =>
      rcases List.mem_cons.mp hy with e | e
      · obtain ⟨tk, e2⟩ := r
        exact ⟨n, tk, e.trans e2⟩
      · exact vals_strs t y e
theorem mt_scount : MtR X "list.count" (rCntS X.K) := by
  intro pins s σ H x xs v us Q I rx rxs h
  obtain ⟨p, ns, k, rfl, rfl, hs, q⟩ := h
  cases rx
  obtain ⟨u, rfl, ru⟩ := rxs.one
  obtain ⟨t, rfl⟩ := ru
  obtain ⟨its, rv, ⟨⟨cls, dd, data, sl⟩, n, ho, hc, hdn, hd⟩, hlen⟩ := I.list (.inl hs)
  simp only at hc hd
  subst hc hd
  refine call_meets PySem.F.slot_list_count ⟨_, ho, rfl⟩ PySem.F.entry_list_count (PySem.F.args_list_count_2 _ _)
    (SeqAt.list_countAt p its.toArray n dd sl (.str k t) (eqs k)) ⟨ho, fun y hy => ?_, ?_⟩
  · obtain ⟨z, t', rfl⟩ := vals_strs rv y (by simpa using hy)
    exact SeqAt.EqAt.str_str z t' k t
  · have ec : its.toArray.toList.countP (eqs k) = (ns.filter (· == k)).length := eqs_count rv
    refine ⟨.int ((ns.filter (· == k)).length : Nat), H, I.tok _, ⟨s.toks, ?_⟩, q⟩
    show Value.int ((its.toArray.toList.countP (eqs k) : Nat) : Int) s.toks = Value.int (((ns.filter (· == k)).length : Nat) : Int) s.toks
    rw [ec]
theorem asSs_all {ds : List D} (h : ds.all isStr = true) : ∃ ls, asSs ds = some ls ∧ ds = ls.map D.str := by
  induction ds with
  | nil => exact ⟨[], rfl, rfl⟩
  | cons d ds ih =>
    rw [List.all_cons, Bool.and_eq_true] at h
    obtain ⟨ls, e1, e2⟩ := ih h.2
    cases d with
    | str l => exact ⟨l :: ls, by simp [asSs, e1], by rw [e2]; rfl⟩
    | _ => exact absurd h.1 (by simp [isStr])
theorem cnt_strs (ls : List (List Nat)) (m : List Nat) : ((ls.map tx).filter (· == tx m)).length = ((ls.map D.str).filter fun d => deq d (.str m)).length := by
  induction ls with
  | nil => rfl
  | cons l ls ih =>
    rw [List.map_cons, List.map_cons, List.filter_cons, List.filter_cons]
    by_cases e : l = m
    · subst e
      rw [if_pos (by simp), if_pos (by simp [deq]), List.length_cons, List.length_cons, ih]
    · rw [if_neg (by simp only [beq_iff_eq]; exact fun q => e (tx_inj q)), if_neg (by simp [deq, e]), ih]
theorem e_lcnt {apos : Pos} (ha : PBv ct k X W a ea) (hb : PEv ct k X W b eb) (hst : starEach [b] X.env = (false, eval b X.env) :: starEach [] X.env := by rfl)
    (hbase : attributeBase a "count" X.env (eval a X.env) = eval a X.env := by rfl)
    (hfew : ((backTo pos (starEach [b] X.env)).all (fun x => !x.1) && (backToKw pos (keywordEach [] X.env)).all (fun x => x.1.isSome) && decide (([b] : List Expr).length + ([] : List Keyword).length + (if ([] : List Keyword).isEmpty then 0 else 1) < 30)) = true := by rfl)
    (hline : (apos.endLine == pos.line) = true := by rfl) (hplain : (backTo pos (starEach [] X.env)).any (·.1) = false := by rfl) : PEv ct k X W (.Call (.Attribute a "count" apos) [b] [] pos) (xM isLst cntD ea eb) := fun C =>
  (pe_bm PySem.F.plainAttrs_list PySem.F.slot_list_count PySem.F.type_list_count mt_scount (ha C) (pa_cons (hb C) pa_nil hst) hbase hfew hline hst hplain).imp fun σ H Q ⟨H0, F0, F, env, S, g⟩ => seq S g fun x d F1 H1 S1 g1 rx q1 => by
    cases d with
    | lst ds =>
      obtain ⟨p, vs, ex, hq, z, rv⟩ := bo_lst S1.sub rx
      subst ex
      refine ⟨.inl ⟨rfl, _, .inl hq⟩, seq S1 q1 fun y e F2 H2 S2 g2 ry q2 => ?_⟩
      have q3 := got_wf q2
      cases e with
      | str m =>
        obtain ⟨ey, hy⟩ := bo_str (H := H2) (.inl ry)
        dsimp only [cntD] at q3
        split at q3
        · rename_i hall
          obtain ⟨ls, e1, e2⟩ := asSs_all hall
          obtain ⟨p', vs', ex', hq', z', rv'⟩ := bo_lst S2.sub (rx.grow g2)
          cases ex'
          obtain ⟨h1, h2, h3⟩ := asSs_rp rv' e1
          refine ⟨p, ls.map tx, tx m, rfl, by rw [ey], by rw [← h1]; exact hq', ?_⟩
          rw [cnt_strs, ← e2]
          exact got_ok S2.sub q3 (.int _)
        · exact q3.elim
      | _ => exact q3.elim
    | _ => exact q1.elim
/-! ### a dict display among several values -/
theorem l_dicK {q : Pos} {keys : List (Option Expr)} {values : List Expr} {prs : List (Xv × Xv)} (h : PDv ct k X W q keys values prs) (hr : PLv ct k X W es ov) (hp : prs.length ≤ 15 := by decide) (hall : keys.all (·.isSome) = true := by rfl) (hl : keys.length = values.length := by rfl) (h0 : keys ≠ [] := by simp) (h15 : keys.length ≤ 15 := by decide)
    (hs : starEach (.Dict keys values q :: es) X.env = (false, eval (.Dict keys values q) X.env) :: starEach es X.env := by rfl) : PLv ct k X W (.Dict keys values q :: es) (oDK prs ov) := fun C =>
  (pa_cons (pe_disp (h C) hall hl h0 h15) (hr C) hs).imp fun σ H Q ⟨H0, F0, F, env, S, g⟩ => by
    unfold oDK at g
    cases z : prD prs env with
    | ok ps =>
      rw [z] at g
      refine disp_read z (by rw [prD_len z]; exact hp) S fun p kvs F' H' np gd f1 hp1 hk rr => ?_
      have gd2 : Gd F H F' (upd H' p (.dK kvs)) := by
        refine ⟨gd.ff, fun b o hb => ?_, fun b u hb => ?_, gd.nw⟩
        · have ne : b ≠ p := fun q => by subst q; rw [np] at hb; cases hb
          rw [upd_ne ne]; exact gd.hh b o hb
        · have ne : b ≠ p := fun q => by subst q; rw [f1] at hb; cases hb
          rcases gd.sub b u hb with y | ⟨o, y⟩
          · exact .inl (by rw [upd_ne ne]; exact y)
          · exact .inr ⟨o, by rw [upd_ne ne]; exact y⟩
      refine ⟨H0, F0, F', env, S.grow gd2, ?_⟩
      have g' : GotO X.K W F H σ Q ((ov env).bind fun ss => .ok (.ow (.dic (mergeD [] ps)) :: ss)) := g
      cases w : ov env with
      | ok ss =>
        rw [w] at g'
        intro vs F3 H3 g3 r3
        have nf : F3 p = none := by
          cases y : F3 p with
          | none => rfl
          | some u =>
            rcases g3.nw p (by rw [y]; simp) with q | q
            · exact absurd f1 q
            · rw [upd_same] at q; cases q
        refine g' _ _ _ (gd2.trans g3) (.ow np nf (.dic (g3.hh _ _ upd_same) (Nat.le_trans hk (by decide)) (rr.mono g3.ff)) (fun j d' e1 e2 => ?_) (r3.start gd2.hh))
        have := r3.fresh j d' e1 p e2
        rw [upd_same] at this
        cases this
      | exc c => rw [w] at g'; exact fun F' H' gd => g' F' H' (gd2.trans gd)
      | bad => rw [w] at g'; exact g'
    | exc c => rw [z] at g; exact g.elim
    | bad => rw [z] at g; exact g.elim
end
end Pv

namespace Pv
open PySem PySem.Spec L2
/-! ### min(xs) of a list of data -/
section
variable {prog : Program} {w : World} {A : Around} {E : Value → Shared → Prop} {s : Shared}
open PySem.W in
theorem min_list_at {l : Addr} {vs : Array Value} {xs : List PyData} {as : List Addr} {Q : Value → Shared → Prop} (hh : A.handled = none) (hl : s.heap.IsList l vs) (hr : ReadsAll s.heap vs.toList xs as) (ha : AlikeAll xs) (hu : A.units + 1 + PyData.depthAll xs < cLine) (hne : 0 < vs.size)
    (h : ∀ v h' tk, vs[argBest (fun i j => dataLt (xs.getD i .none) (xs.getD j .none)) (vs.size - 1)]? = some v → (∀ b o, s.heap.get? b = some o → h'.get? b = some o) → Q v { s with heap := h', toks := tk }) :
    wpAny (model prog w) A (call (.builtin "min") [.ref l]) Q E s := by
  refine call_min_walkH (iter_listW (A := A.in1) hh hl fun s₂ e W st hfp hw hk => ?_)
  refine ⟨_, _, _, _, _, _, _, s.heap, _, rfl, W, st, hfp, hne, hw, hk, cmpIn_lt (A := A.in1) hr ha (by show A.units + 1 + _ < _; exact hu), fun v s' hP m => ?_⟩
  obtain ⟨h', tk, rfl, hk'⟩ := moved_old e rfl m
  exact h v h' tk hP hk'
end
def rMinT (K : PySem.W.Frag) : List V → Hp → VK → Prop := fun vs H Q => ∃ (a : Addr) (xs : List V) (ds : List D), vs = [V.ref a] ∧ SqL K H a xs ∧ DpAll K H xs (ds.map toP) ∧ PySem.W.AlikeAll (ds.map toP) ∧
  PyData.depthAll (ds.map toP) ≤ 60 ∧ 0 < xs.length ∧ ∀ x, xs[argBest (fun i j => PySem.W.dataLt ((ds.map toP).getD i .none) ((ds.map toP).getD j .none)) (xs.length - 1)]? = some x → Q x H
section
variable {X : Cx} {k : Nat}
theorem vals_at : ∀ {xs : List V} {us : List Value} (_ : Vals xs us) (j : Nat) (u : Value), us[j]? = some u → ∃ x, xs[j]? = some x ∧ RelV x u
  | _, _, .nil, j, u, h => by simp at h
  | _, _, .cons r t, 0, u, h => by
    simp at h
    subst h
    exact ⟨_, rfl, r⟩
  | _, _, .cons r t, j + 1, u, h => by
    obtain ⟨x, h1, h2⟩ := vals_at t j u (by simpa using h)
    exact ⟨x, by simpa using h1, h2⟩
theorem cr_minT (hc : X.calm = true) (hr : Room k X.A) : CallR X (.builtin "min") (rMinT X.K) := by
  intro pins s σ H xs us Q I r q
  obtain ⟨a, vs, ds, ex, hs, hdp, hal, hdep, hne, q⟩ := q
  subst ex
  obtain ⟨u, rfl, ru⟩ := r.one
  cases ru
  obtain ⟨its, rv, hl, hz⟩ := I.list hs
  obtain ⟨as, hrd⟩ := Dp.readsAll I _ _ its hdp rv
  have hn : vs.length = its.length := rv.length
  have hl' : s.heap.IsList a its.toArray := by
    obtain ⟨o, n, e, h1, h2, h3⟩ := hl
    exact ⟨o, e, h1, n, h3⟩
  refine min_list_at (I.ok.hd hc) hl' (by simpa using hrd) hal (by have := hr.units; omega) (by rw [List.size_toArray]; omega) fun v h' tk hv hk => ?_
  rw [List.size_toArray, List.getElem?_toArray, ← hn] at hv
  obtain ⟨x, hx, rx⟩ := vals_at rv _ v hv
  exact ⟨x, H, I.kept hk, rx, q x hx⟩
end
theorem argB_best {ds : List D} (hl : ∀ i j, i < ds.length → j < ds.length → PySem.W.dataLt ((ds.map toP).getD i .none) ((ds.map toP).getD j .none) = dlt (ds.getD i .non) (ds.getD j .non)) : ∀ k, k < ds.length → argBest (fun i j => PySem.W.dataLt ((ds.map toP).getD i .none) ((ds.map toP).getD j .none)) k = argB ds k ∧ argB ds k < ds.length
  | 0, h => ⟨rfl, h⟩
  | k + 1, h => by
    obtain ⟨h1, h2⟩ := argB_best hl k (by omega)
    unfold argBest argB
    rw [h1, hl (k + 1) (argB ds k) h h2]
    split
    · exact ⟨rfl, h⟩
    · exact ⟨rfl, h2⟩
theorem depthAll_le : ∀ {ds : List D}, (∀ d ∈ ds, (toP d).depth ≤ 60) → PyData.depthAll (ds.map toP) ≤ 60
  | [], _ => by simp [PyData.depthAll]
  | d :: ds, h => by
    have ih := depthAll_le fun x hx => h x (List.mem_cons_of_mem _ hx)
    have h0 := h d List.mem_cons_self
    rw [List.map_cons, PyData.depthAll]
    omega
theorem rpA_at {K : PySem.W.Frag} {F : Hp} : ∀ {vs : List V} {ds : List D}, RpA K F vs ds → ∀ (j : Nat) (x : V), vs[j]? = some x → Rp K F x (ds.getD j .non)
  | _, _, .nil, j, x, h => by simp at h
  | _, _, .cons r t, 0, x, h => by
    simp at h
    subst h
    exact r
  | _, _, .cons r t, j + 1, x, h => by
    have := rpA_at t j x (by simpa using h)
    simpa using this
section
variable {K : PySem.W.Frag}
theorem ud_minT : UnD K (rMinT K) minT := by
  intro F H x d Q s rx g
  cases d with
  | lst ds =>
    dsimp only [minT] at g
    split at g
    · rename_i z
      obtain ⟨z, zne⟩ := z
      unfold srtOk at z
      simp only [Bool.and_eq_true, decide_eq_true_eq] at z
      obtain ⟨⟨⟨z1, z2⟩, z3⟩, z4⟩ := z
      obtain ⟨p, vs, ex, hq, zl, rv⟩ := bo_lst s rx
      subst ex
      obtain ⟨dp, cl⟩ := rpA_dp s rv z1
      rw [toPs_map] at dp
      have hnon : ∀ b ∈ ds, isNon b = false := by
        intro b hb
        rw [Bool.or_eq_true] at z4
        rcases z4 with z4 | z4
        · have := List.all_eq_true.mp z4 b hb
          cases b <;> first | rfl | (simp at this; done)
        · have := List.all_eq_true.mp z4 b hb
          cases b <;> first | rfl | (simp at this; done)
      have hal : PySem.W.AlikeAll (ds.map toP) := by
        constructor
        · intro a ha b hb
          obtain ⟨a', ha', rfl⟩ := List.mem_map.mp ha
          obtain ⟨b', hb', rfl⟩ := List.mem_map.mp hb
          exact toP_alike a' b' (alkAll_mem z2 ha' hb') (plains_mem z1 _ ha') (plains_mem z1 _ hb')
        · intro a ha
          obtain ⟨a', ha', rfl⟩ := List.mem_map.mp ha
          have h1 := hnon a' ha'
          have h2 := plains_mem z1 _ ha'
          cases a' <;> first | (simp [plain] at h2; done) | (simp [isNon] at h1; done) | (intro q; simp [toP] at q; done)
      have hl : ∀ i j, i < ds.length → j < ds.length → PySem.W.dataLt ((ds.map toP).getD i .none) ((ds.map toP).getD j .none) = dlt (ds.getD i .non) (ds.getD j .non) := by
        intro i j hi hj
        have ei : (ds.map toP).getD i .none = toP ds[i] := by simp [List.getD_eq_getElem?_getD, hi]
        have ej : (ds.map toP).getD j .none = toP ds[j] := by simp [List.getD_eq_getElem?_getD, hj]
        have fi : ds.getD i .non = ds[i] := by simp [List.getD_eq_getElem?_getD, hi]
        have fj : ds.getD j .non = ds[j] := by simp [List.getD_eq_getElem?_getD, hj]
        rw [ei, ej, fi, fj]
        have mi := List.getElem_mem hi
        have mj := List.getElem_mem hj
        exact toP_lt _ _ (alkAll_mem z2 mi mj) (plains_mem z1 _ mi) (plains_mem z1 _ mj) (hnon _ mi)
      have hpos : 0 < ds.length := by
        cases ds with
        | nil => simp at zne
        | cons => simp
      have hvl : vs.length = ds.length := rv.length
      refine ⟨p, vs, ds, rfl, .inl hq, dp, hal, depthAll_le fun d hd => by rw [toP_dep]; exact Nat.le_trans (deps_mem hd) z3, by omega, fun x hx => ?_⟩
      rw [hvl, (argB_best hl (ds.length - 1) (by omega)).1] at hx
      exact got_ok s g (rpA_at rv _ x hx)
    · exact g.elim
  | _ => exact g.elim
end
section
variable {ct : String → Addr} {k : Nat} {X : Cx} {W : WS} {a : Expr} {pos : Pos} {ea : Xv}
theorem e_minT {p : Pos} (hm : X.mg "min" = none) (ha : PBv ct k X W a ea) (hg : Gl X "min" := by rfl) (he : starEach [a] X.env = (false, eval a X.env) :: starEach [] X.env := by rfl) : PEv ct k X W (.Call (.Name "min" p) [a] [] pos) (xU minT ea) := fun C =>
  e_blt ud_minT (fun h => cr_minT h C.room) hm (by decide +kernel) ha hg (by decide) (by decide) he C
end
end Pv

namespace Pv
open PySem PySem.Spec L2 PySem.Froz
/-! ### len(set(xs)), xs a list of texts -/
section
variable {ct : String → Addr} {k : Nat} {X : Cx} {W : WS} {e a b c : Expr} {es : List Expr} {pos : Pos} {ev ea eb ec : Xv}
theorem e_lset {p p2 q : Pos} (hm : X.mg "len" = none) (hm2 : X.mg "set" = none) (ha : PBv ct k X W a ea) (hg : Gl X "len" := by rfl) (hg2 : Gl X "set" := by rfl) (na : starEach [a] X.env = (false, eval a X.env) :: starEach [] X.env := by rfl) :
    PEv ct k X W (.Call (.Name "len" p) [.Call (.Name "set" p2) [a] [] q] [] pos) (xU lsetD ea) := fun C => by
  have h0 : PE X (.Call (.Name "len" p) [.Call (.Name "set" p2) [a] [] q] [] pos) (fun σ H Q => rd X.K (RBo X.K) W ea σ H fun x H1 => ∃ (l : Addr) (ls : List (List Nat)), x = .ref l ∧ SqL X.K H1 l ((ls.map tx).map V.str) ∧ ls.length ≤ 4000 ∧ Q (.int ((distN [] ls).length : Nat)) H1) := by
    refine ⟨fun pins s σ H Q I h => ?_⟩
    refine PyProof.Rows.Call_ (ld_blt I hg hm PySem.boot_len ?_)
    refine PyProof.Rows.callWith_builtin1 (PyProof.Rows.args_cons ?_ rfl) rfl rfl
    refine PyProof.Rows.Call_ (ld_blt I hg2 hm2 (show bootBuiltins "set" = some (.type "set") by decide +kernel) ?_)
    refine PyProof.Rows.callWith_type1 (PyProof.Rows.args_cons (thn ((ha C).run pins s σ H _ I h) fun v s1 ⟨x, H1, I1, r1, q1⟩ => PyProof.Rows.args_nil ?_) na) na rfl
    obtain ⟨l, ls, rfl, hq, hn, q1⟩ := q1
    cases r1
    obtain ⟨its, rv, hl, hz⟩ := I1.list hq
    refine call_set_tx (xs := ls.map tx) (I1.ok.hd C.calm) hl.isList (by simpa using strsAre_of rv) (by rw [List.length_map]; unfold scanBound; omega) fun h' tk hS hk => ?_
    refine PyProof.Rows.args_nil ?_
    have I2 : Inv X pins σ H1 { s1 with heap := h', toks := tk } := I1.kept hk
    have hS' : TxS X.prog X.w h' s1.heap.objs.size ((distN [] ls).map tx) := by
      have := dist_tx ls []
      rw [← this]; exact hS
    have hdl := distN_len ls []
    simp only [List.length_nil, Nat.zero_add] at hdl
    obtain ⟨D, hD, ok, _⟩ := hS'
    have hsz : D.1.size = (distN [] ls).length := by rw [ok.sz, List.length_map]
    refine call_len_set (s := { s1 with heap := h', toks := tk }) (o := sObj "set" D) hD ⟨rfl, rfl, rfl⟩ rfl ok.fit (by omega) ?_
    refine ⟨.int ((distN [] ls).length : Nat), H1, I2.tok _, ⟨tk + 1, ?_⟩, q1⟩
    show Value.int ((D.1.size : Nat) : Int) (tk + 1) = Value.int (((distN [] ls).length : Nat) : Int) (tk + 1)
    rw [hsz]
  refine h0.imp fun σ H Q ⟨H0, F0, F, env, S, g⟩ => seq S g fun x d F1 H1 S1 g1 rx q1 => ?_
  have q3 := got_wf q1
  cases d with
  | lst ds =>
    obtain ⟨p, vs, ex, hq, zl, rv⟩ := bo_lst S1.sub rx
    subst ex
    dsimp only [lsetD] at q3
    cases z : asSs ds with
    | none => rw [z] at q3; exact q3.elim
    | some ls =>
      rw [z] at q3
      dsimp only at q3
      obtain ⟨h1, h2, h3⟩ := asSs_rp rv z
      split at q3
      · rename_i hn
        exact ⟨p, ls, rfl, .inl (by rw [← h1]; exact hq), hn, got_ok S1.sub q3 (.int _)⟩
      · exact q3.elim
  | _ => exact q3.elim
end
end Pv

namespace Pv
/-- sorted(set(xs)), xs a list of tuples of ints and texts -/
def isAt : D → Bool
  | .int _ => true
  | .str _ => true
  | _ => false
def tupA : D → Bool
  | .tup (e :: es) => (e :: es).all isAt
  | _ => false
def distD (acc : List D) : List D → List D
  | [] => acc
  | x :: xs => distD (if acc.any (fun y => deq y x) = true then acc else x :: acc) xs
def ssetT : D → Res D
  | .lst ds => if ds.all tupA = true ∧ alkAll ds = true ∧ ds.length ≤ 4000 then .ok (.lst ((distD [] ds).mergeSort dle)) else .bad
  | _ => .bad
/-- max(a, b), min(a, b) -/
def max2D : D → D → Res D
  | .int i, .int j => .ok (.int (if j > i then j else i))
  | .str a, .str b => .ok (.str (if a < b then b else a))
  | _, _ => .bad
def min2D : D → D → Res D
  | .int i, .int j => .ok (.int (if j < i then j else i))
  | .str a, .str b => .ok (.str (if b < a then b else a))
  | _, _ => .bad
/-- dict(pairs), dict(d) -/
def asPr : List D → Option (List (List Nat × D))
  | [] => some []
  | .tup [.str k, v] :: r => (asPr r).map ((k, v) :: ·)
  | _ => none
def dctD : D → Res D
  | .lst ds => match asPr ds with
    | some ps => .ok (.dic (mergeD [] ps))
    | none => .bad
  | _ => .bad
end Pv

namespace Pv
open PySem PySem.Spec L2
/-! ### max(a, b), min(a, b) -/
section
variable {prog : Program} {w : World} {A : Around} {E : Value → Shared → Prop} {s : Shared}
theorem two_walk {a b : Value} {bt : Nat → Nat → Bool} {op : CmpOp} (hc : CmpOf prog w A.in1 op (fun i v => (#[a, b] : Array Value)[i]? = some v) bt) (hh : A.handled = none) {Q : Value → Shared → Prop}
    (h : ∀ h' tk, (∀ c o, s.heap.get? c = some o → h'.get? c = some o) → Q (if bt 1 0 = true then b else a) { s with heap := h', toks := tk }) :
    wpAny (model prog w) A.in1 (pyIter (.ref s.heap.objs.size)) (fun it s₂ => ∃ I fp wr n P St bt, it = .ref I ∧ Walks prog w A.in1 I fp wr n P St ∧ St 0 s₂.heap ∧ (∀ b ∈ fp, b < s₂.heap.objs.size) ∧ 0 < n ∧ CmpOf prog w A.in1 op P bt ∧
      ∀ v h' tk, P (argBest bt (n - 1)) v → (∀ b o, b ∉ wr → s₂.heap.get? b = some o → h'.get? b = some o) → Q v { s₂ with heap := h', toks := tk }) E
      { s with heap := s.heap.push { cls := .type "tuple", data := .seq #[a, b] } } := by
  have hT : (s.heap.push { cls := .type "tuple", data := .seq #[a, b] }).IsTuple s.heap.objs.size #[a, b] := ⟨_, Heap.get?_push_size _ rfl, rfl, 0, rfl⟩
  have hz : (s.heap.push { cls := .type "tuple", data := .seq #[a, b] }).objs.size = s.heap.objs.size + 1 := Heap.size_push ..
  refine wpAny_pyIter_tuple hT ?_
  refine ⟨_, [_, s.heap.objs.size], [_], _, _, _, bt, rfl, Walks.tuple (A := A.in1) hh _ s.heap.objs.size (by rw [hz]; exact Nat.ne_of_lt (Nat.lt_succ_self _)) #[a, b], ⟨⟨_, Heap.get?_push_size _ rfl, rfl, rfl⟩, hT.push _⟩, fun c hcm => ?_, by simp, hc, fun v h' tk hP hk => ?_⟩
  · show c < ((s.heap.push _).push _).objs.size
    rw [Heap.size_push, hz]
    simp only [List.mem_cons, List.not_mem_nil, or_false] at hcm
    rcases hcm with q | q
    · rw [q, hz]; exact Nat.lt_succ_self _
    · rw [q]; exact Nat.lt_succ_of_lt (Nat.lt_succ_self _)
  · have kp : ∀ c o, s.heap.get? c = some o → h'.get? c = some o := fun c o e => by
      refine hk c o (fun hm => ?_) (Heap.get?_push_of_some _ (Heap.get?_push_of_some _ e))
      have := Heap.lt_size e
      rw [List.mem_singleton.mp hm, hz] at this
      exact Nat.lt_irrefl _ (Nat.lt_of_succ_lt this)
    have hv : v = if bt 1 0 = true then b else a := by
      have hP' : (#[a, b] : Array Value)[argBest bt 1]? = some v := hP
      have e1 : argBest bt 1 = if bt 1 0 = true then 1 else 0 := rfl
      rw [e1] at hP'
      split at hP' <;> rename_i z
      · rw [if_pos z]; simpa using hP'.symm
      · rw [if_neg z]; simpa using hP'.symm
    rw [hv]
    exact h h' tk kp
def at2 (x y : Str) (i : Nat) : Str := if i = 0 then x else y
theorem two_at {x y : Str} {t u : Tok} {i : Nat} {v : Value} (h : (#[Value.str x t, Value.str y u] : Array Value)[i]? = some v) : ∃ t', v = .str (at2 x y i) t' := by
  match i, h with
  | 0, h => exact ⟨t, by simpa [at2] using h.symm⟩
  | 1, h => exact ⟨u, by simpa [at2] using h.symm⟩
  | n + 2, h => simp at h
theorem max_two_txt {x y : Str} {t u : Tok} (hh : A.handled = none) {Q : Value → Shared → Prop} (h : ∀ h' tk, (∀ c o, s.heap.get? c = some o → h'.get? c = some o) → Q (if x.cps.toList < y.cps.toList then .str y u else .str x t) { s with heap := h', toks := tk }) :
    wpAny (model prog w) A (call (.builtin "max") [.str x t, .str y u]) Q E s := by
  refine call_max_two (two_walk (bt := fun i j => decide ((at2 x y j).cps.toList < (at2 x y i).cps.toList)) (fun i j vi vj s' Q' E' hi hj q => ?_) hh fun h' tk k => ?_)
  · obtain ⟨t1, rfl⟩ := two_at hi
    obtain ⟨t2, rfl⟩ := two_at hj
    exact (PySem.P.gt_str q : wpAny (model prog w) A.in1 (compareOp .Gt _ _) Q' E' s')
  · have := h h' tk k
    simpa [at2] using this
theorem min_two_txt {x y : Str} {t u : Tok} (hh : A.handled = none) {Q : Value → Shared → Prop} (h : ∀ h' tk, (∀ c o, s.heap.get? c = some o → h'.get? c = some o) → Q (if y.cps.toList < x.cps.toList then .str y u else .str x t) { s with heap := h', toks := tk }) :
    wpAny (model prog w) A (call (.builtin "min") [.str x t, .str y u]) Q E s := by
  refine call_min_two (two_walk (bt := fun i j => decide ((at2 x y i).cps.toList < (at2 x y j).cps.toList)) (fun i j vi vj s' Q' E' hi hj q => ?_) hh fun h' tk k => ?_)
  · obtain ⟨t1, rfl⟩ := two_at hi
    obtain ⟨t2, rfl⟩ := two_at hj
    exact (PyProof.Rows.lt_str q : wpAny (model prog w) A.in1 (compareOp .Lt _ _) Q' E' s')
  · have := h h' tk k
    simpa [at2] using this
end
def rMax2 : List V → Hp → VK → Prop := fun xs H Q => (∃ i j, xs = [.int i, .int j] ∧ Q (.int (if j > i then j else i)) H) ∨ ∃ a b, xs = [.str (tx a), .str (tx b)] ∧ Q (.str (tx (if a < b then b else a))) H
def rMin2 : List V → Hp → VK → Prop := fun xs H Q => (∃ i j, xs = [.int i, .int j] ∧ Q (.int (if j < i then j else i)) H) ∨ ∃ a b, xs = [.str (tx a), .str (tx b)] ∧ Q (.str (tx (if b < a then b else a))) H
section
variable {X : Cx}
theorem cr_max2 (hc : X.calm = true) : CallR X (.builtin "max") rMax2 := CallR.or (call_max2 hc) (by
  intro pins s σ H xs us Q I r h
  obtain ⟨a, b, rfl, q⟩ := h
  obtain ⟨u, w', rfl, ⟨t, rfl⟩, ⟨t', rfl⟩⟩ := vals2 r
  refine max_two_txt (I.ok.hd hc) fun h' tk k => ⟨_, H, I.kept k, ?_, q⟩
  rw [tx_list, tx_list]
  by_cases z : a < b
  · rw [if_pos z, if_pos z]; exact ⟨_, rfl⟩
  · rw [if_neg z, if_neg z]; exact ⟨_, rfl⟩)
theorem cr_min2 (hc : X.calm = true) : CallR X (.builtin "min") rMin2 := CallR.or (call_min2 hc) (by
  intro pins s σ H xs us Q I r h
  obtain ⟨a, b, rfl, q⟩ := h
  obtain ⟨u, w', rfl, ⟨t, rfl⟩, ⟨t', rfl⟩⟩ := vals2 r
  refine min_two_txt (I.ok.hd hc) fun h' tk k => ⟨_, H, I.kept k, ?_, q⟩
  rw [tx_list, tx_list]
  by_cases z : b < a
  · rw [if_pos z, if_pos z]; exact ⟨_, rfl⟩
  · rw [if_neg z, if_neg z]; exact ⟨_, rfl⟩)
end
/-- built-ins of two arguments -/
def UnD2 (K : PySem.W.Frag) (r : List V → Hp → VK → Prop) (f : D → D → Res D) : Prop := ∀ F H x y d e (Q : VK), Sub F H → RBo K F H x d → RBo K F H y e → Got (RE K) WF F H [] Q (f d e) → r [x, y] H Q
theorem ud_max2 {K : PySem.W.Frag} : UnD2 K rMax2 max2D := by
  intro F H x y d e Q s rx ry g
  cases d with
  | int i =>
    cases e with
    | int j =>
      rw [bo_int rx, bo_int ry]
      exact .inl ⟨i, j, rfl, got_ok s g (.int _)⟩
    | _ => exact g.elim
  | str a =>
    cases e with
    | str b =>
      obtain ⟨e1, z1⟩ := bo_str rx
      obtain ⟨e2, z2⟩ := bo_str ry
      rw [e1, e2]
      exact .inr ⟨a, b, rfl, got_ok s g (.str _ (by split <;> assumption))⟩
    | _ => exact g.elim
  | _ => exact g.elim
theorem ud_min2 {K : PySem.W.Frag} : UnD2 K rMin2 min2D := by
  intro F H x y d e Q s rx ry g
  cases d with
  | int i =>
    cases e with
    | int j =>
      rw [bo_int rx, bo_int ry]
      exact .inl ⟨i, j, rfl, got_ok s g (.int _)⟩
    | _ => exact g.elim
  | str a =>
    cases e with
    | str b =>
      obtain ⟨e1, z1⟩ := bo_str rx
      obtain ⟨e2, z2⟩ := bo_str ry
      rw [e1, e2]
      exact .inr ⟨a, b, rfl, got_ok s g (.str _ (by split <;> assumption))⟩
    | _ => exact g.elim
  | _ => exact g.elim
section
variable {ct : String → Addr} {k : Nat} {X : Cx} {W : WS} {a b : Expr} {pos : Pos} {ea eb : Xv}
theorem e_blt2 {id : String} {r : List V → Hp → VK → Prop} {f : D → D → Res D} {x : Str} {p : Pos} (hd : UnD2 X.K r f) (hc : X.calm = true → CallR X (.builtin id) r) (hm : X.mg x = none) (hv : bootBuiltins x = some (.builtin id)) (ha : PBv ct k X W a ea) (hb : PBv ct k X W b eb)
    (hg : Gl X x := by rfl) (hn : x ≠ "__name__" := by decide) (hdb : (x == ("__debug__" : Str)) = false := by decide) (he : starEach [a, b] X.env = (false, eval a X.env) :: starEach [b] X.env := by rfl) (he2 : starEach [b] X.env = (false, eval b X.env) :: starEach [] X.env := by rfl)
    (hpl : (backTo pos (starEach [b] X.env)).any (·.1) = false := by rfl) : PEv ct k X W (.Call (.Name x p) [a, b] [] pos) (xOp f ea eb) := fun C =>
  (pe_callB (hc C.calm) hg hm hv (pa_cons (ha C) (pa_cons (hb C) pa_nil he2) he) hn hdb he hpl).imp fun σ H Q ⟨H0, F0, F, env, S, g⟩ => seq S g fun v d F1 H1 S1 g1 rv q => seq S1 q fun u e F2 H2 S2 g2 ru q2 => hd F2 H2 v u d e Q S2.sub (rv.grow g2) ru (got_wf q2)
theorem e_max2 {p : Pos} (hm : X.mg "max" = none) (ha : PBv ct k X W a ea) (hb : PBv ct k X W b eb) (hg : Gl X "max" := by rfl) (he : starEach [a, b] X.env = (false, eval a X.env) :: starEach [b] X.env := by rfl) (he2 : starEach [b] X.env = (false, eval b X.env) :: starEach [] X.env := by rfl)
    (hpl : (backTo pos (starEach [b] X.env)).any (·.1) = false := by rfl) : PEv ct k X W (.Call (.Name "max" p) [a, b] [] pos) (xOp max2D ea eb) :=
  e_blt2 ud_max2 cr_max2 hm (by decide +kernel) ha hb hg (by decide) (by decide) he he2 hpl
theorem e_min2 {p : Pos} (hm : X.mg "min" = none) (ha : PBv ct k X W a ea) (hb : PBv ct k X W b eb) (hg : Gl X "min" := by rfl) (he : starEach [a, b] X.env = (false, eval a X.env) :: starEach [b] X.env := by rfl) (he2 : starEach [b] X.env = (false, eval b X.env) :: starEach [] X.env := by rfl)
    (hpl : (backTo pos (starEach [b] X.env)).any (·.1) = false := by rfl) : PEv ct k X W (.Call (.Name "min" p) [a, b] [] pos) (xOp min2D ea eb) :=
  e_blt2 ud_min2 cr_min2 hm (by decide +kernel) ha hb hg (by decide) (by decide) he he2 hpl
end
/-! ### dict(pairs) -/
theorem rp_pair {K : PySem.W.Frag} {F H : Hp} (s : Sub F H) {v : V} {k : List Nat} {d : D} (r : Rp K F v (.tup [.str k, d])) : ∃ p x, v = .ref p ∧ SqT K H p [kV (.inr (tx k)), x] ∧ okS k ∧ Rp K F x d := by
  cases r with
  | tup q z r =>
    cases r with
    | cons r1 r2 =>
      cases r2 with
      | cons r3 r4 =>
        cases r4
        cases r1 with
        | str l hz => exact ⟨_, _, rfl, s.tup q, hz, r3⟩
theorem pairs_rp {K : PySem.W.Frag} {F H : Hp} (s : Sub F H) : ∀ {vs : List V} {ds : List D} {ps : List (List Nat × D)}, RpA K F vs ds → asPr ds = some ps → ∃ (as : List Addr) (kvs : List (Key × V)), vs = as.map V.ref ∧ Paired (fun p kv => SqT K H p [kV kv.1, kv.2]) as kvs ∧ RpK K F kvs ps
  | _, _, _, .nil, e => by
    simp [asPr] at e
    subst e
    exact ⟨[], [], rfl, .nil, .nil⟩
  | _, _, ps, .cons (d := d) r t, e => by
    unfold asPr at e
    split at e
    · rename_i he; cases he
    · rename_i k x rest he
      cases he
      obtain ⟨qs, hq, rfl⟩ := Option.map_eq_some_iff.mp e
      obtain ⟨as, kvs, h1, h2, h3⟩ := pairs_rp s t hq
      obtain ⟨p, y, rfl, h4, h5, h6⟩ := rp_pair (H := H) s r
      exact ⟨p :: as, (.inr (tx k), y) :: kvs, by rw [h1]; rfl, .cons h4 h2, .cons h5 h6 h3⟩
    · cases e
theorem asPr_len : ∀ {ds : List D} {ps : List (List Nat × D)}, asPr ds = some ps → ps.length = ds.length
  | [], ps, e => by simp [asPr] at e; subst e; rfl
  | d :: ds, ps, e => by
    unfold asPr at e
    split at e
    · rename_i he; cases he
    · rename_i k x rest he
      cases he
      obtain ⟨qs, hq, rfl⟩ := Option.map_eq_some_iff.mp e
      simp [asPr_len hq]
    · cases e
theorem ud_dct {K : PySem.W.Frag} : UnD K (fun xs H Q => ∃ (a : Addr) (ps : List Addr) (kvs : List (Key × V)), xs = [.ref a] ∧ SqL K H a (ps.map V.ref) ∧ Paired (fun p kv => SqT K H p [kV kv.1, kv.2]) ps kvs ∧
    ∀ p, H p = none → Q (.ref p) (upd H p (.dK (mergeK [] kvs)))) dctD := by
  intro F H x d Q s rx g
  cases d with
  | lst ds =>
    obtain ⟨p, vs, ex, hq, zl, rv⟩ := bo_lst s rx
    subst ex
    dsimp only [dctD] at g
    cases z : asPr ds with
    | none => rw [z] at g; exact g.elim
    | some ps =>
      rw [z] at g
      dsimp only at g
      obtain ⟨as, kvs, h1, h2, h3⟩ := pairs_rp (H := H) s rv z
      refine ⟨p, as, kvs, rfl, .inl (by rw [← h1]; exact hq), h2, fun p' np => ?_⟩
      refine got_new s g np fun ff => .dic upd_same ?_ ((rpK_merge h3 .nil).mono ff)
      have l1 := length_mergeK kvs []
      have l2 := h3.length
      have l3 := asPr_len z
      have l4 := rv.length
      simp only [List.length_nil, Nat.zero_add] at l1
      omega
  | _ => exact g.elim
section
variable {ct : String → Addr} {k : Nat} {X : Cx} {W : WS} {a b : Expr} {pos : Pos} {ea eb : Xv}
theorem e_dct {p : Pos} (hm : X.mg "dict" = none) (ha : PBv ct k X W a ea) (hg : Gl X "dict" := by rfl) (he : starEach [a] X.env = (false, eval a X.env) :: starEach [] X.env := by rfl) : PEv ct k X W (.Call (.Name "dict" p) [a] [] pos) (xU dctD ea) := fun C =>
  e_bty ud_dct (fun h => call_dictP h) hm (by decide +kernel) ha hg (by decide) (by decide) he C
end
end Pv

namespace Pv
open PySem PySem.Spec L2
abbrev FnP (K : PySem.W.Frag) (x : Str) (st : Stmt) (f : Addr) (fd : FuncData) : Prop := FunD K x x (defArgs st) (defBody st) (defScope st) [] [] f fd
/-- a def that may be called by its name -/
def Ca (P : Program) (w : World) (K : PySem.W.Frag) (mg : Str → Option Value) (base : Heap) (ct : String → Addr) (j : Nat) (x : Str) (Fn : List D → Res D) : Prop :=
  ∃ f fd ps, FnOk P w K mg base (L2.CX P w) j f fd ps (spF K ct Fn) ∧ mg x = some (.ref f) ∧ PySem.W.keepIn K (.ref f) = true ∧ Binds K fd ps []
section
variable {ct : String → Addr} {k : Nat} {X : Cx} {W : WS} {e : Expr} {es : List Expr} {pos : Pos}
theorem chain_read {K : PySem.W.Frag} {r r' : R2} {f g' : D → D → Res D} {ea eb ec : Xv} (hd : OpD K r f) (hd' : OpD K r' g') {σ : St} {H : Hp} {Q : VK} (h : rd K (RE K) W (xChain f g' ea eb ec) σ H Q) : tChain r r' (rd K (RBo K) W ea) (rd K (RBo K) W eb) (rd K (RBo K) W ec) σ H Q := by
  obtain ⟨H0, F0, F, env, S, g⟩ := h
  exact seq S g fun x d F1 H1 S1 g1 rx q1 => seq S1 q1 fun y e F2 H2 S2 g2 ry q2 => by
    refine hd F2 H2 x y d e _ S2.sub (rx.grow g2) ry ?_
    cases z : f d e with
    | ok w' =>
      rw [z] at q2
      intro v F' H' g3 r3
      cases w' with
      | bl kk =>
        refine ⟨kk, rp_bl r3, ?_⟩
        have q3 : Got (RE K) W F2 H2 σ Q (if kk = true then (ec env).bind fun w => (g' e w).calm else .ok (.bl false)) := q2
        cases kk with
        | true =>
          simp only [if_true] at q3 ⊢
          exact seq (S2.grow g3) (Got.grow g3 q3) fun w d3 F4 H4 S4 g4 rw4 q4 => hd' F4 H4 y w e d3 Q S4.sub ((ry.grow g3).grow g4) rw4 (got_wf q4)
        | false =>
          simp only [Bool.false_eq_true, if_false] at q3 ⊢
          exact q3 _ F' H' g3 (.bl false)
      | _ => exact (show False from q2).elim
    | exc c => rw [z] at q2; exact (show False from q2).elim
    | bad => rw [z] at q2; exact (show False from q2).elim
theorem val_read {K : PySem.W.Frag} {ev : Xv} {σ : St} {H : Hp} {Q : Bool → Hp → Prop} (h : rd K RB W (tVal ev) σ H Q) : rd K (RE K) W ev σ H (fun v H' => ∃ kk, v = .bl kk ∧ Q kk H') := by
  obtain ⟨H0, F0, F, env, S, g⟩ := h
  refine ⟨H0, F0, F, env, S, ?_⟩
  unfold tVal at g
  cases z : ev env with
  | ok d =>
    rw [z] at g
    cases d with
    | bl b => exact fun v F' H' gd r => ⟨b, rp_bl r, g b F' H' gd rfl⟩
    | _ => exact (show False from g).elim
  | exc c => rw [z] at g; exact g
  | bad => rw [z] at g; exact g
theorem t_lele {a b c : Expr} {ea eb ec : Xv} (ha : PBv ct k X W a ea) (hb : PBv ct k X W b eb) (hc : PBv ct k X W c ec) (hm : lastMarks [.LtE, .LtE] [b, c] = false := by with_unfolding_all rfl) : PTv ct k X W (.Compare a [.LtE, .LtE] [b, c] pos) (tVal (xChain leD leD ea eb ec)) := fun C =>
  (pt_chain op_le op_le (ha C) (hb C) (hc C) hm).imp fun σ H Q h => chain_read od_le od_le (val_read h)
theorem e_callC {j : Nat} {x : Str} {p : Pos} {Fn : List D → Res D} {aa : Av} (G : Ca X.prog X.w X.K X.mg X.base ct j x Fn) (ha : PAv ct k X W (e :: es) aa) (hj : j ≤ k := by decide) (hg : Gl X x := by rfl) (hdb : (x == ("__debug__" : Str)) = false := by decide)
    (he : starEach (e :: es) X.env = (false, eval e X.env) :: starEach es X.env := by rfl) (hpl : (backTo pos (starEach es X.env)).any (·.1) = false := by rfl) : PEv ct k X W (.Call (.Name x p) (e :: es) [] pos) (xCall Fn aa) := by
  obtain ⟨f, fd, ps, G, hm, hk, hb⟩ := G
  exact e_call G hm hk hb ha hj hg hdb he hpl
theorem e_callC0 {j : Nat} {x : Str} {p : Pos} {Fn : List D → Res D} (G : Ca X.prog X.w X.K X.mg X.base ct j x Fn) (hj : j ≤ k := by decide) (hg : Gl X x := by rfl) (hdb : (x == ("__debug__" : Str)) = false := by decide) : PEv ct k X W (.Call (.Name x p) [] [] pos) (xCall Fn aNil) := by
  obtain ⟨f, fd, ps, G, hm, hk, hb⟩ := G
  exact e_call0 G hm hk hb hj hg hdb
end
theorem def_okF {P : Program} {w : World} {K : PySem.W.Frag} {mg : Str → Option Value} {base : Heap} {ct : String → Addr} {x : Str} {st : Stmt} {f : Addr} {fd : FuncData} {N ps : List Str} {k : Nat} {sv : Sv}
    (F : FnP K x st f fd) (S : FnScope N ps (defScope st))
    (hb : ∀ (cdv : Value) (A : Around) (outer : List Env) (s : Shared) (H : Hp) (E : XK) (W : WS), PSsv ct k (cxOf (L2.CX P w) P w K mg base N x (defScope st) f cdv A outer s H E) W (defBody st) sv) :
    FnOk P w K mg base (L2.CX P w) (k + 1) f fd ps (spF K ct (mkFn ps.length N.length sv)) := by
  refine F.ok S (fun vs H Q E h => ?_) (fun cdv A outer s H vs Q E hr h => ?_)
  · obtain ⟨F0, ds, hs, r, h⟩ := h
    rw [r.length]
    unfold mkFn at h
    by_cases z : ds.length = ps.length
    · exact z
    · rw [if_neg z] at h; exact h.elim
  · obtain ⟨F0, ds, hs, r, h⟩ := h
    unfold mkFn at h
    by_cases z : ds.length = ps.length
    case neg => rw [if_neg z] at h; exact h.elim
    rw [if_pos z] at h
    have C : Cz ct k (cxOf (L2.CX P w) P w K mg base N x (defScope st) f cdv A outer s H E) (fun c _ H' => E (.ref (ct c)) none H') :=
      ⟨(takes_of rfl rfl rfl rfl).imp fun c d σ H' ⟨c', e1, e2, z⟩ => by rw [e1, e2]; exact z, passes_of rfl, rfl, S.nd, hr⟩
    refine ⟨_, hb cdv A outer s H E _ C, H, F0, F0, iniE N.length ds, sr_ini hs r, ?_⟩
    cases z : sv (iniE N.length ds) with
    | ret d => rw [z] at h; exact h
    | nx env' => rw [z] at h; exact fun σ F' H' S' => h .non F' H' S'.gd .non
    | exc c env' => rw [z] at h; exact fun σ F' H' S' => h F' H' S'.gd
    | brk env' => rw [z] at h; exact h.elim
    | cont env' => rw [z] at h; exact h.elim
    | bad => rw [z] at h; exact h.elim
theorem def_okD {P : Program} {w : World} {K : PySem.W.Frag} {mg : Str → Option Value} {base : Heap} {ct : String → Addr} {x : Str} {st : Stmt} {f : Addr} {fd : FuncData} {N ps : List Str} {k : Nat} {sv : Sv}
    (F : FnP K x st f fd) (hm : mg x = some (.ref f)) (S : FnScope N ps (defScope st))
    (hbi : ∀ (kV doc pm : Value) (an : Option Addr) (cdv ct : Value) (us : List Value), us.length = ps.length → bindArgs (PySem.W.fnOf x x (defArgs st) (defBody st) (defScope st) .none kV doc pm an cdv ct) ⟨us, []⟩ = pure (ps.zip us))
    (hb : ∀ (cdv : Value) (A : Around) (outer : List Env) (s : Shared) (H : Hp) (E : XK) (W : WS), PSsv ct k (cxOf (L2.CX P w) P w K mg base N x (defScope st) f cdv A outer s H E) W (defBody st) sv) :
    Ca P w K mg base ct (k + 1) x (mkFn ps.length N.length sv) := ⟨f, fd, ps, def_okF F S hb, hm, F.kp, F.bindsN hbi⟩
end Pv

namespace Pv
open PySem PySem.Spec L2
/-- nothing is said of a body (the end of a recursion's room) -/
theorem ss_bad {ct : String → Addr} {k : Nat} {X : Cx} {W : WS} {b : List Stmt} : PSsv ct k X W b (fun _ => .bad) := fun C => ⟨fun pins s σ H Q I q => by
  obtain ⟨H0, F0, F, env, S, g⟩ := q
  exact (show False from g).elim⟩
end Pv

namespace Pv
/-- tuple(range(n)) -/
def trnD (d : D) : Res D := (rng1 d).bind fun l => .ok (.tup l)
/-- xs.extend(t), t a tuple -/
def exT : D → Res (List D)
  | .tup es => .ok es
  | _ => .bad
def sExtT (i : Nat) (a : Xv) : Sv := fun env => match gt env i with
  | some (.ow (.lst ds)) => (a env).fl env fun d => match exT d with
    | .ok es => if ds.length + es.length ≤ LIM then .nx (pt env i (some (.ow (.lst (ds ++ es))))) else .bad
    | _ => .bad
  | _ => .bad
end Pv

namespace Pv
open PySem PySem.Spec L2
/-! ### tuple(range(n)) -/
section
variable {ct : String → Addr} {k : Nat} {X : Cx} {W : WS} {e a b c : Expr} {es xs : List Expr} {pos : Pos} {ev ea eb ec : Xv}
theorem e_trng {p p2 q : Pos} (hm : X.mg "tuple" = none) (hm2 : X.mg "range" = none) (ha : PEv ct k X W a ea) (hg : Gl X "tuple" := by rfl) (hg2 : Gl X "range" := by rfl) (na : starEach [a] X.env = (false, eval a X.env) :: starEach [] X.env := by rfl)
    (nb : starEach [.Call (.Name "range" p2) [a] [] q] X.env = (false, eval (.Call (.Name "range" p2) [a] [] q) X.env) :: starEach [] X.env := by rfl) : PEv ct k X W (.Call (.Name "tuple" p) [.Call (.Name "range" p2) [a] [] q] [] pos) (xU trnD ea) := fun C =>
  (pe_tupRg C.calm hg hm (prg_1 hg2 hm2 (ha C) na) nb).imp fun σ H Q ⟨H0, F0, F, env, S, g⟩ => seq S g fun x d F1 H1 S1 g1 rx q1 => by
    have q3 := got_wf q1
    cases d with
    | int j =>
      have ex := bo_int (H := H1) (.inl rx)
      subst ex
      dsimp only [trnD, rng1] at q3
      split at q3
      · rename_i z
        have hl : (rgV 0 j).length ≤ LIM := by rw [rgV_length, Int.sub_zero]; exact z.2.2
        refine ⟨j, rfl, ⟨by decide, by decide, z.1, z.2.1, ?_⟩, fun l nl => got_new S1.sub q3 nl fun ff => .tup (.inl upd_same) hl (rgV_rp j)⟩
        rw [Int.sub_zero]
        exact z.2.2
      · exact q3.elim
    | _ => exact q3.elim
end
/-! ### xs.extend(t), t a tuple -/
open PySem.SeqAt PySem.MeetsSeq PySem.MeetsSeq2 PySem.MeetsSeq3 PySem.AutoSeq1 in
theorem ext_tup (l : Addr) (items : Array Value) (n : Nat) (b : Addr) (items2 : Array Value) (n2 : Nat) (dd : Option Addr) (sl : Array (Option Value)) (h0 : ¬ (!items.isEmpty && Builtin.List.listTooLong (items.size + items2.size)) = true) (h1 : items.size ≤ sizeLine) (h2 : items.size + items2.size ≤ sizeLine + 1) :
    Meets (Builtin.«list.extend» ⟨[.ref l, .ref b], []⟩) (fun _ R s => s.heap.get? l = some { cls := .type "list", dict := none, data := .seq items n, slots := #[] } ∧ s.heap.get? b = some { cls := .type "tuple", dict := dd, data := .seq items2 n2, slots := sl } ∧
      R (.ok (.ret Value.none)) { s with heap := s.heap.update l (Obj.mapSeq fun x => x ++ items2) }) :=
  .of_wp fun prog w A R s h => by
    obtain ⟨hp, g, d, tk, os⟩ := s
    obtain ⟨hl, hb, h⟩ := h
    have f1 := idx_int
    have f2 := AutoSeq1.sub_tuple_tuple
    have f3 := AutoSeq1.sub_list_list
    have f4 := AutoSeq1.sub_tuple_list
    have f5 := AutoSeq1.sub_list_tuple
    have hz : (items ++ items2).size ≤ sizeLine + 1 := by rw [Array.size_append]; exact h2
    wp_walk using (wpAny_updateSeq hl rfl (hz := h1) (_hz' := hz)), wpAny_loadPart' hl, wpAny_loadPart' hb
    exact ⟨_, rfl, h⟩
def rExtT (K : PySem.W.Frag) : V → List V → Hp → VK → Prop := fun x vs H Q => ∃ l b xs zs, x = .ref l ∧ vs = [.ref b] ∧ H l = some (.lst xs) ∧ SqT K H b zs ∧ xs.length + zs.length ≤ sizeLine ∧ Q .non (upd H l (.lst (xs ++ zs)))
section
variable {ct : String → Addr} {k : Nat} {X : Cx} {W : WS} {e a b c : Expr} {es xs : List Expr} {pos : Pos} {ev ea eb ec : Xv}
theorem mt_extT : MtM X "list.extend" (rExtT X.K) := by
  intro pins s σ H x vs v us Q I rx rv h
  obtain ⟨l, b, xs, zs, rfl, rfl, hH, hB, hz, q⟩ := h
  cases rx
  obtain ⟨u, rfl, ru⟩ := rv.one
  cases ru
  obtain ⟨z, its, n, r, hl, eo⟩ := I.lstM hH
  obtain ⟨its2, r2, hT, _⟩ := I.tuple hB
  obtain ⟨o, ho, hc, n2, hd⟩ := hT
  obtain ⟨ocls, odict, odata, oslots⟩ := o
  simp only at hc hd
  subst hc; subst hd
  have hl2 := r2.length
  have hsz : its.toArray.size + its2.toArray.size ≤ sizeLine := by rw [List.size_toArray, List.size_toArray]; omega
  have hlong : ¬ (!its.toArray.isEmpty && Builtin.List.listTooLong (its.toArray.size + its2.toArray.size)) = true := by
    rw [notLongL hsz, Bool.and_false]
    exact Bool.false_ne_true
  refine call_meets F.slot_list_extend ⟨_, eo, rfl⟩ F.entry_list_extend (F.args_list_extend_2 _ _)
    (ext_tup l its.toArray n b its2.toArray n2 odict oslots hlong (by rw [List.size_toArray]; omega) (by omega)) ⟨eo, ho, ?_⟩
  refine ⟨.non, _, I.lset (its' := its ++ its2) hH eo (by simp) (r.append r2) ?_, rfl, q⟩
  rw [List.length_append]
  exact hz
theorem s_extT (i : Nat) {x : Str} {p apos cpos : Pos} (he : PEv ct k X W e ev) (hN : X.N[i]? = some x := by rfl) (hv : Vis X.env.scope x := by first | exact Or.inl rfl | exact Or.inr (Or.inl rfl) | exact Or.inr (Or.inr rfl)) (hd : (x == ("__debug__" : Str)) = false := by decide)
    (hcd : (x == ("__classdict__" : Str)) = false := by decide) (hst : starEach [e] X.env = (false, eval e X.env) :: starEach [] X.env := by rfl)
    (hbase : attributeBase (.Name x p) "extend" X.env (eval (.Name x p) X.env) = eval (.Name x p) X.env := by rfl)
    (hfew : ((backTo cpos (starEach [e] X.env)).all (fun x => !x.1) && (backToKw cpos (keywordEach [] X.env)).all (fun x => x.1.isSome) && decide (([e] : List Expr).length + ([] : List Keyword).length + (if ([] : List Keyword).isEmpty then 0 else 1) < 30)) = true := by rfl)
    (hline : (apos.endLine == cpos.line) = true := by rfl) (hplain : (backTo cpos (starEach [] X.env)).any (·.1) = false := by rfl)
    (hs : swapsWith (.Call (.Attribute (.Name x p) "extend" apos) [e] [] cpos) none pos.line X.env = pure false := by rfl) : PSv ct k X W (.Expr (.Call (.Attribute (.Name x p) "extend" apos) [e] [] cpos) pos) (sExtT i ev) := fun C =>
  (ps_expr (pe_bm PySem.F.plainAttrs_list PySem.F.slot_list_extend PySem.F.type_list_extend mt_extT (pe_var hN hv hd hcd) (pa_cons (he C) pa_nil hst) hbase hfew hline hst hplain) hs).imp fun Dn σ H ⟨H0, F0, F, env, S, g⟩ => by
    unfold sExtT at g
    cases q : gt env i with
    | none => rw [q] at g; exact g.elim
    | some s =>
      rw [q] at g
      cases s with
      | fz d => exact g.elim
      | ow d =>
        cases d with
        | lst ds =>
          dsimp only at g
          obtain ⟨p, vs, h1, h2, h3, h4, h5⟩ := own_at S q
          refine ⟨_, h1, .inl ⟨rfl, _, .inl (.inl h3)⟩, ?_⟩
          refine sseq S g fun v d F1 H1 S1 g1 rv g' => ?_
          obtain ⟨p', vs', h1', h2', h3', h4', h5'⟩ := own_at S1 q
          rw [h1] at h1'
          cases h1'
          cases d with
          | tup es =>
            obtain ⟨b, zs, rfl, hb, hz, rb, _⟩ := bo_tup S1.sub (.inl rv)
            dsimp only [exT] at g'
            by_cases z : ds.length + es.length ≤ LIM
            · rw [if_pos z] at g'
              have z' : vs'.length + zs.length ≤ LIM := by rw [h5'.length, rb.length]; exact z
              refine ⟨p, b, vs', zs, rfl, rfl, h3', hb, by rw [lim]; exact z', g' σ F1 _ (S1.write q h1 (.lst upd_same (by simpa using z') (h5'.append rb)))⟩
            · rw [if_neg z] at g'; exact g'.elim
          | _ => exact g'.elim
        | _ => exact g.elim
end
end Pv

namespace Pv
/-- list(d), d a dict -/
def lisK : D → Res D
  | .dic kvs => .ok (.lst (kvs.map fun kv => .str kv.1))
  | _ => .bad
/-- d.get(k), k a text or None -/
def get1N : D → D → Res D
  | .dic kvs, .str k => .ok ((lookD kvs k).getD .non)
  | .dic _, .non => .ok .non
  | _, _ => .bad
/-- d.update(pairs) -/
def sUpd (i : Nat) (a : Xv) : Sv := fun env => match gt env i with
  | some (.ow (.dic kvs)) => (a env).fl env fun d => match d with
    | .lst ds => match asPr ds with
      | some ps => if kvs.length + ps.length ≤ LIM then .nx (pt env i (some (.ow (.dic (mergeD kvs ps))))) else .bad
      | none => .bad
    | _ => .bad
  | _ => .bad
end Pv

namespace Pv
open PySem PySem.Spec L2
/-! ### list(d) -/
theorem rpK_kA {K : PySem.W.Frag} {F : Hp} : ∀ {kvs : List (Key × V)} {ds : List (List Nat × D)}, RpK K F kvs ds → RpA K F (kvs.map fun kv => kV kv.1) (ds.map fun kv => D.str kv.1)
  | _, _, .nil => .nil
  | _, _, .cons z r t => .cons (.str _ z) (rpK_kA t)
theorem ud_lisK {K : PySem.W.Frag} : UnD K (fun xs H Q => ∃ (a : Addr) (kvs : List (Key × V)), xs = [.ref a] ∧ Rd H a (.dK kvs) ∧ ∀ p, H p = none → Q (.ref p) (upd H p (.lst (kvs.map fun kv => kV kv.1)))) lisK := by
  intro F H x d Q s rx g
  cases d with
  | dic ds =>
    obtain ⟨p, kvs, ex, hq, z, rv⟩ := bo_dic s rx
    subst ex
    exact ⟨p, kvs, rfl, hq, fun l nl => got_new s g nl fun ff => .lst upd_same (by rw [List.length_map]; exact z) ((rpK_kA rv).mono ff)⟩
  | _ => exact g.elim
section
variable {ct : String → Addr} {k : Nat} {X : Cx} {W : WS} {e a b c : Expr} {es xs : List Expr} {pos : Pos} {ev ea eb ec : Xv}
theorem e_lisK {p : Pos} (hm : X.mg "list" = none) (ha : PBv ct k X W a ea) (hg : Gl X "list" := by rfl) (he : starEach [a] X.env = (false, eval a X.env) :: starEach [] X.env := by rfl) : PEv ct k X W (.Call (.Name "list" p) [a] [] pos) (xU lisK ea) := e_bty ud_lisK (fun h => call_listD h) hm (by decide +kernel) ha hg (by decide) (by decide) he
end
/-! ### d.get(None) -/
theorem keys_leaf {prog : Program} {w : World} {es : Array DictEntry} (h : KeysOf (mixKind prog w) es) : KeysOf (leafKind prog w) es ∧ findBy (leafKind prog w).is es .none = none := by
  constructor
  · intro e he
    obtain ⟨k, h1, h2⟩ := h e he
    rcases keyIs_shape h1 with ⟨i, t, rfl, e1⟩ | ⟨x, t, rfl, e1⟩
    · refine ⟨.num i, ?_, h2⟩
      rw [e1]
      show decide (i = i) = true
      simp
    · refine ⟨.text x, ?_, h2⟩
      rw [e1]
      show Value.isStrOf x (.str x t) = true
      exact keyIs_str x t
  · rw [findBy_of_findIdx?]
    have : es.findIdx? (fun e => (leafKind prog w).is .none e.key) = none := by
      rw [Array.findIdx?_eq_none_iff]
      intro e he
      obtain ⟨k, h1, h2⟩ := h e he
      rcases keyIs_shape h1 with ⟨i, t, rfl, e1⟩ | ⟨x, t, rfl, e1⟩
      · rw [e1]; rfl
      · rw [e1]; rfl
    rw [this]
section
variable {ct : String → Addr} {k : Nat} {X : Cx} {W : WS} {e a b c : Expr} {es xs : List Expr} {pos : Pos} {ev ea eb ec : Xv}
/-- what d.get(y) finds, y a key or None -/
def DGetN (H : Hp) (a : Addr) (y : V) (r : Option V) : Prop := DGet H a y r ∨ ((∃ kvs, Rd H a (.dK kvs)) ∧ y = .non ∧ r = none)
def tDGetN (td ty : TE) : TE := fun σ H Q => td σ H fun x H1 => ∃ a, x = .ref a ∧ IsD H1 a ∧ ty σ H1 fun y H2 => ∃ o, DGetN H2 a y o ∧ Q (o.getD .non) H2
theorem d_getN {A : Around} {E : Value → Shared → Prop} {pins : List (Addr × Obj)} {σ : St} {H : Hp} {s : Shared} {a : Addr} {y : V} {u : Value} {o : Option V} {Q : Value → Shared → Prop} (hu : A.units + 1 < cLine) (I : Inv X pins σ H s) (g : DGetN H a y o) (ry : RelV y u) (h : ∀ w' s', Inv X pins σ H s' → RelV (o.getD .non) w' → Q w' s') :
    wpAny (model X.prog X.w) A (call (.builtin "dict.get") [.ref a, u]) Q E s := by
  rcases g with g | ⟨⟨kvs, e⟩, rfl, rfl⟩
  · exact d_get1 hu I g ry h
  · obtain rfl : u = Value.none := ry
    obtain ⟨z, hd, vs, rel, dd⟩ := dk_rd I.hok e
    obtain ⟨o, es, ep, h1, h2, h3, h4, _⟩ := id dd
    obtain ⟨k1, k2⟩ := keys_leaf h4
    refine call_meetsIn PySem.F.slot_dict_get dd.typeIs PySem.F.entry_dict_get (PySem.F.args_dict_get_2 _ _) (meets_dict_get (knd := leafKind X.prog X.w) (k := .none) a rfl hd) ⟨_, ⟨o, es, ep, h1, h2, h3, k1, fun _ => rfl⟩, h _ _ (I.tok _) ?_⟩
    rw [k2]
    exact rfl
theorem pe_dgetN {o e : Expr} {apos cpos : Pos} {td ty : TE} (hu : X.A.units + 1 < cLine) (ho : PE X o td) (he : PE X e ty) (m : M1 X o "get" apos e cpos) : PE X (.Call (.Attribute o "get" apos) [e] [] cpos) (tDGetN td ty) := by
  refine ⟨fun pins s σ H Q I h => ?_⟩
  refine wpAny_Call_method m.base m.few m.line PySem.F.plainAttrs_dict PySem.F.slot_dict_get PySem.F.type_dict_get (thn (ho.run pins s σ H _ I h) fun u s1 ⟨x, H1, I1, rx, a, ex, d, q1⟩ => ?_)
  subst ex
  obtain rfl : u = Value.ref a := rx
  obtain ⟨t1, t2, _⟩ := isD_at I1 d
  refine ⟨t1, t2, ?_⟩
  rw [m.trees]
  refine Calls.callWith_builtin rfl (Calls.evalArgs_plain (Calls.spliced_cons (thn (he.run pins s1 σ H1 _ I1 q1) fun iv s2 ⟨y, H2, I2, ry, ov, g, q2⟩ => Calls.spliced_nil ?_)))
  exact d_getN hu I2 g ry fun w' s3 I3 rw' => ⟨_, H2, I3, rw', q2⟩
theorem e_get1N {apos : Pos} (ha : PBv ct k X W a ea) (hb : PEv ct k X W b eb) (hbase : attributeBase a "get" X.env (eval a X.env) = eval a X.env := by rfl)
    (few : ((backTo pos (starEach [b] X.env)).all (fun x => !x.1) && (backToKw pos (keywordEach [] X.env)).all (fun x => x.1.isSome) && decide (([b] : List Expr).length + ([] : List Keyword).length + (if ([] : List Keyword).isEmpty then 0 else 1) < 30)) = true := by rfl)
    (line : (apos.endLine == pos.line) = true := by rfl) (trees : backTo pos (starEach [b] X.env) = [(false, eval b X.env)] := by rfl) : PEv ct k X W (.Call (.Attribute a "get" apos) [b] [] pos) (xM isDic get1N ea eb) := fun C =>
  (pe_dgetN (hu_of C.room) (ha C) (hb C) ⟨hbase, few, line, trees⟩).imp fun σ H Q ⟨H0, F0, F, env, S, g⟩ => seq S g fun x d F1 H1 S1 g1 rx q1 => by
    cases d with
    | dic ds =>
      obtain ⟨p, kvs, ex, hq, z, rv⟩ := bo_dic S1.sub rx
      refine ⟨p, ex, .inl ⟨kvs, hq⟩, seq S1 q1 fun y e F2 H2 S2 g2 ry q2 => ?_⟩
      have q3 := got_wf q2
      obtain ⟨p', kvs', ex', hq', z', rv'⟩ := bo_dic S2.sub (rx.grow g2)
      rw [ex] at ex'
      cases ex'
      cases e with
      | str m =>
        obtain ⟨ey, hy⟩ := bo_str (H := H2) (.inl ry)
        refine ⟨_, .inl (.inl ⟨kvs', Sum.inr (tx m), hq', ey, rfl⟩), ?_⟩
        dsimp only [get1N] at q3
        rcases rpk_look (key := m) rv' with ⟨v, d3, h1, h2, r3⟩ | ⟨h1, h2⟩
        · rw [h1]; rw [h2] at q3; exact got_ok S2.sub q3 r3
        · rw [h1]; rw [h2] at q3; exact got_ok S2.sub q3 .non
      | non =>
        have ey := bo_non (H := H2) (.inl ry)
        exact ⟨none, .inr ⟨⟨kvs', hq'⟩, ey, rfl⟩, got_ok S2.sub q3 .non⟩
      | _ => exact q3.elim
    | _ => exact q1.elim
end
/-! ### d.update(pairs) -/
def rUpd (K : PySem.W.Frag) : V → List V → Hp → VK → Prop := fun x vs H Q => ∃ (a b : Addr) (kvs : List (Key × V)) (ps : List Addr) (more : List (Key × V)), x = .ref a ∧ vs = [.ref b] ∧ H a = some (.dK kvs) ∧ SqL K H b (ps.map V.ref) ∧ Paired (fun p kv => SqT K H p [kV kv.1, kv.2]) ps more ∧
  kvs.length + more.length ≤ sizeLine ∧ Q .non (upd H a (.dK (mergeK kvs more)))
section
variable {ct : String → Addr} {k : Nat} {X : Cx} {W : WS} {e a b c : Expr} {es xs : List Expr} {pos : Pos} {ev ea eb ec : Xv}
theorem mt_upd (hcalm : X.calm = true) : MtM X "dict.update" (rUpd X.K) := by
  intro pins s σ H x vs v us Q I rx rv h
  obtain ⟨a, l, kvs, ps, more, rfl, rfl, hH, hB, hP, hz, q⟩ := h
  cases rx
  obtain ⟨u, rfl, ru⟩ := rv.one
  cases ru
  obtain ⟨z, hsm, acc, rel, dd⟩ := dk_of I.hok hH
  obtain ⟨its, rvv, pl, hzl⟩ := I.list hB
  have ei := refs_at rvv
  subst ei
  rw [List.length_map] at hzl
  obtain ⟨prs, rel2, hl, hpr⟩ := pairs_of I hP
  obtain ⟨ol, n, ho, hc, hdi, hdat⟩ := pl
  have hh : X.A.handled = none := I.ok.hd hcalm
  have hml : more.length = prs.length := rel2.length
  have hal : kvs.length = acc.length := rel.length
  obtain ⟨od, esd, epd, hod, hcd, hdd, _⟩ := id dd
  have hda : od.cls = .type "dict" := hcd.1
  have hne : l ≠ a := fun q => by
    subst q
    rw [hod] at ho
    cases ho
    rw [hda] at hc
    exact absurd hc (by decide)
  refine call_meetsIn (S := fun A' R s' => A' = X.A ∧ s' = s ∧ ∀ h' tk, h'.DictOf (mixKind X.prog X.w) a (merged acc prs) → (∀ b o, b ≠ a → s.heap.get? b = some o → h'.get? b = some o) → R (.ok (.ret .none)) { s with heap := h', toks := tk }) F.slot_dict_update dd.typeIs F.entry_dict_update (F.args_dict_update_2 _ _) (fun A' R s' hS => ?_) ⟨rfl, rfl, fun h' tk hd' keep => ?_⟩
  · obtain ⟨rfl, rfl, hR⟩ := hS
    unfold Builtin.«dict.update»
    refine wpAny_bind ?_
    unfold Builtin.Dict.selfAndRest
    refine wpAny_bind (wpAny_notOrdered_dict dd.typeIs ?_)
    show wpAny _ _ (pure (a, [Value.ref l])) _ _ _
    refine wpAny_pure ?_
    show wpAny _ _ (Builtin.Dict.updateFrom "dict.update" a (.ref l) [] .none) _ _ _
    unfold Builtin.Dict.updateFrom
    refine wpAny_bind (wpAny_typeOf (T := "list") ⟨ol, ho, hc⟩ ?_)
    rw [if_pos (by first | decide | rfl | simp)]
    refine wpAny_bind (miss_list ho hc hdat hdi hh fun h1 tk1 hk1 => ?_)
    rw [if_pos (show (none : Option Value).isNone = true from rfl)]
    refine wpAny_bind (wpAny_rule ?_)
    have hl1 : h1.IsList l (ps.map Value.ref).toArray := ⟨ol, hk1 _ _ ho, hc, n, hdat⟩
    refine wpAny_bind (wpAny_pyIter_list hl1 ?_)
    have k2 : ∀ b o, h1.get? b = some o → (h1.push { cls := .type "list_iterator", data := .fields #[.ref l, .int 0 0] }).get? b = some o := fun b o e => Heap.get?_push_of_some _ e
    have hlt : l < h1.objs.size := Heap.lt_size (hk1 _ _ ho)
    have hat : a < h1.objs.size := Heap.lt_size (hk1 _ _ hod)
    have key := upd_loop (prog := X.prog) (w := X.w) (A := X.A) (R := R) (S := a) (I := h1.objs.size) (l := l) (items := (ps.map Value.ref).toArray) (res := Value.none) hh
      (Nat.ne_of_lt hlt) (Nat.ne_of_lt hat) (Ne.symm hne) prs 0 acc 0 0
      { s' with heap := h1.push { cls := .type "list_iterator", data := .fields #[.ref l, .int 0 0] }, toks := tk1 } (by simp [hl]) (by omega)
      (fun j q e => by
        obtain ⟨b, u, e1, e2, e3⟩ := hpr j q e
        obtain ⟨ob, hob, hcb, _⟩ := id e2
        have hb : b < h1.objs.size := Heap.lt_size (hk1 _ _ hob)
        have hba : b ≠ a := fun q => by
          subst q
          rw [hod] at hob
          cases hob
          rw [hda] at hcb
          exact absurd hcb (by decide)
        exact ⟨b, u, by simp [e1], hba, Nat.ne_of_lt hb, e2.keeps fun c o z => k2 _ _ (hk1 _ _ z), e3⟩)
      ⟨_, Heap.get?_push_size _ rfl, rfl, rfl⟩ (hl1.at fun o e => k2 _ _ e) (dd.at fun o e => k2 _ _ (hk1 _ _ e))
      (fun h' tk hd' k => hR h' tk hd' fun b o hb e => k b o hb (Nat.ne_of_lt (Heap.lt_size (hk1 _ _ e))) (k2 _ _ (hk1 _ _ e)))
    first
      | exact wpAny_pure ⟨plainId_quiet ud_plain _, key⟩
      | exact wpAny_bind (wpAny_pure (wpAny_pure ⟨plainId_quiet ud_plain _, key⟩))
  · have hlen : (mergeK kvs more).length ≤ sizeLine := Nat.le_trans (length_mergeK more kvs) hz
    refine ⟨.non, upd H a (.dK (mergeK kvs more)), I.write (x := a) (e := a) (by rw [hH]; exact True.intro) (.inl rfl) (fun b q hb z => keep b q hb z) (let ⟨q, _, _, hq, _⟩ := hd'; ⟨q, hq⟩) (dk_new hlen hsm (KV.merge rel2 rel) hd'), rfl, q⟩
theorem s_upd (i : Nat) {x : Str} {p apos cpos : Pos} (he : PEv ct k X W e ev) (hN : X.N[i]? = some x := by rfl) (hv : Vis X.env.scope x := by first | exact Or.inl rfl | exact Or.inr (Or.inl rfl) | exact Or.inr (Or.inr rfl)) (hd : (x == ("__debug__" : Str)) = false := by decide)
    (hcd : (x == ("__classdict__" : Str)) = false := by decide) (hst : starEach [e] X.env = (false, eval e X.env) :: starEach [] X.env := by rfl)
    (hbase : attributeBase (.Name x p) "update" X.env (eval (.Name x p) X.env) = eval (.Name x p) X.env := by rfl)
    (hfew : ((backTo cpos (starEach [e] X.env)).all (fun x => !x.1) && (backToKw cpos (keywordEach [] X.env)).all (fun x => x.1.isSome) && decide (([e] : List Expr).length + ([] : List Keyword).length + (if ([] : List Keyword).isEmpty then 0 else 1) < 30)) = true := by rfl)
    (hline : (apos.endLine == cpos.line) = true := by rfl) (hplain : (backTo cpos (starEach [] X.env)).any (·.1) = false := by rfl)
    (hs : swapsWith (.Call (.Attribute (.Name x p) "update" apos) [e] [] cpos) none pos.line X.env = pure false := by rfl) : PSv ct k X W (.Expr (.Call (.Attribute (.Name x p) "update" apos) [e] [] cpos) pos) (sUpd i ev) := fun C =>
  (ps_expr (pe_bm PySem.F.plainAttrs_dict PySem.F.slot_dict_update PySem.F.type_dict_update (mt_upd C.calm) (pe_var hN hv hd hcd) (pa_cons (he C) pa_nil hst) hbase hfew hline hst hplain) hs).imp fun Dn σ H ⟨H0, F0, F, env, S, g⟩ => by
    unfold sUpd at g
    cases q : gt env i with
    | none => rw [q] at g; exact g.elim
    | some s =>
      rw [q] at g
      cases s with
      | fz d => exact g.elim
      | ow d =>
        cases d with
        | dic ds =>
          dsimp only at g
          obtain ⟨p, vs, h1, h2, h3, h4, h5⟩ := own_atD S q
          refine ⟨_, h1, ?_, ?_⟩
          · exact .inr (.inr (.inl ⟨rfl, .inl ⟨_, h3⟩⟩))
          refine sseq S g fun v d F1 H1 S1 g1 rv g' => ?_
          obtain ⟨p', vs', h1', h2', h3', h4', h5'⟩ := own_atD S1 q
          rw [h1] at h1'
          cases h1'
          cases d with
          | lst es =>
            obtain ⟨b, zs, rfl, hb, hz, rb⟩ := bo_lst S1.sub (.inl rv)
            dsimp only at g'
            cases zz : asPr es with
            | none => rw [zz] at g'; exact g'.elim
            | some ps =>
              rw [zz] at g'
              dsimp only at g'
              obtain ⟨as, kvs, e1, e2, e3⟩ := pairs_rp (H := H1) S1.sub rb zz
              by_cases z : ds.length + ps.length ≤ LIM
              · rw [if_pos z] at g'
                have l1 := h5'.length
                have l2 := e3.length
                have z' : vs'.length + kvs.length ≤ LIM := by omega
                refine ⟨p, b, vs', as, kvs, rfl, rfl, h3', .inl (by rw [← e1]; exact hb), e2, by rw [lim]; exact z', g' σ F1 _ (S1.write q h1 (.dic upd_same (Nat.le_trans (length_mergeK kvs vs') z') (rpK_merge e3 h5')))⟩
              · rw [if_neg z] at g'; exact g'.elim
          | _ => exact g'.elim
        | _ => exact g.elim
end
end Pv

namespace Pv
open PySem PySem.Spec L2
/-! ### functions as values -/
section
variable {ct : String → Addr} {k : Nat} {X : Cx} {W : WS} {e fe : Expr} {es : List Expr} {pos : Pos} {fv : Xv} {aa : Av}
/-- a def's name, as a value -/
theorem e_gfn (n : String) {x : Str} {p : Pos} (hm : X.mg x = some (.ref (He.ga X.K (Str.ofString n)))) (hg : Gl X x := by rfl) (hdb : (x == ("__debug__" : Str)) = false := by decide) : PEv ct k X W (.Name x p) (xC (.fn n)) := fun C =>
  (pe_glob (v := .ref (He.ga X.K (Str.ofString n))) hg hm rfl hdb).imp fun σ H Q ⟨H0, F0, F, env, S, g⟩ => g _ F H (.refl S.sub) (.fn n)
/-- what is known of the functions that may be called -/
def CaT (P : Program) (w : World) (K : PySem.W.Frag) (mg : Str → Option Value) (base : Heap) (ct : String → Addr) (j : Nat) (tb : String → Option (List D → Res D)) : Prop :=
  ∀ n Fn, tb n = some Fn → ∃ j' fd ps, j' ≤ j ∧ FnOk P w K mg base (L2.CX P w) j' (He.ga K (Str.ofString n)) fd ps (spF K ct Fn) ∧ PySem.W.keepIn K (.ref (He.ga K (Str.ofString n))) = true ∧ Binds K fd ps []
theorem caT_nil {P : Program} {w : World} {K : PySem.W.Frag} {mg : Str → Option Value} {base : Heap} {j : Nat} : CaT P w K mg base ct j (fun _ => none) := fun n Fn h => by cases h
theorem caT_cons {P : Program} {w : World} {K : PySem.W.Frag} {mg : Str → Option Value} {base : Heap} {j j' : Nat} {tb : String → Option (List D → Res D)} {Fn : List D → Res D} (n : String) (G : Ca P w K mg base ct j' (Str.ofString n) Fn) (hm : mg (Str.ofString n) = some (.ref (He.ga K (Str.ofString n)))) (r : CaT P w K mg base ct j tb) (hj : j' ≤ j := by decide) : CaT P w K mg base ct j (fun m => if m = n then some Fn else tb m) := fun m Gn h => by
  dsimp only at h
  by_cases e : m = n
  · subst e
    rw [if_pos rfl] at h
    cases h
    obtain ⟨f, fd, ps, G, hf, hk, hb⟩ := G
    rw [hm] at hf
    cases hf
    exact ⟨j', fd, ps, hj, G, hk, hb⟩
  · rw [if_neg e] at h
    exact r m Gn h
theorem e_callX {j : Nat} {tb : String → Option (List D → Res D)} (G : CaT X.prog X.w X.K X.mg X.base ct j tb) (hf : PEv ct k X W fe fv) (ha : PAv ct k X W (e :: es) aa) (hj : j ≤ k := by decide) (hev : eval (.Call fe (e :: es) [] pos) X.env = (do callWith pos (← eval fe X.env) [] (backTo pos (starEach (e :: es) X.env)) (backToKw pos (keywordEach [] X.env))) := by rfl)
    (he : starEach (e :: es) X.env = (false, eval e X.env) :: starEach es X.env := by rfl) (hpl : (backTo pos (starEach es X.env)).any (·.1) = false := by rfl) : PEv ct k X W (.Call fe (e :: es) [] pos) (xCallV tb fv aa) := fun C => by
  have h0 : PE X (.Call fe (e :: es) [] pos) (fun σ H Q => rd X.K (RE X.K) W fv σ H fun x H1 => ∃ n Fn, x = .ref (He.ga X.K (Str.ofString n)) ∧ tb n = some Fn ∧ rd X.K (RA X.K) W aa σ H1 fun vs H2 => spF X.K ct Fn vs H2 Q (WE (wx ct W) σ)) := by
    refine ⟨fun pins s σ H Q I h => ?_⟩
    refine PyProof.Rows.Call_ ?_ hev
    refine thn ((hf C).run pins s σ H _ I h) fun u s1 ⟨x, H1, I1, r1, n, Fn, ex, et, q1⟩ => ?_
    subst ex
    obtain rfl : u = Value.ref (He.ga X.K (Str.ofString n)) := r1
    obtain ⟨j', fd, ps, hj', G', hk, hb⟩ := G n Fn et
    refine PySem.W.callWith_K (h₀ := X.base) I1.ok.mod.kin hk (thn ((ha C).run pos pins s1 σ H1 _ I1 q1) fun us s2 ⟨vs, H2, I2, r, q⟩ => ⟨I2.kIn, ?_⟩) he hpl
    exact run_fnS (E := fun _ => WE (wx ct W) σ) G' (C.room.mono (Nat.le_trans hj' hj)) hb (passAt C.tk σ) I2 r q
  refine h0.imp fun σ H Q ⟨H0, F0, F, env, S, g⟩ => seq S g fun x d F1 H1 S1 g1 rx q1 => ?_
  cases d with
  | fn n =>
    cases rx
    dsimp only at q1
    cases z : tb n with
    | none => rw [z] at q1; exact q1.elim
    | some Fn =>
      rw [z] at q1
      refine ⟨n, Fn, rfl, z, seq S1 q1 fun vs ds F2 H2 S2 g2 rv q => ⟨F2, ds, S2.sub, rv, ?_⟩⟩
      cases y : Fn ds with
      | ok d => rw [y] at q; exact q
      | exc c => rw [y] at q; exact fun F' H' gd => ⟨c, rfl, rfl, q F' H' gd⟩
      | bad => rw [y] at q; exact q
  | _ => exact q1.elim
end
end Pv

namespace Pv
open PySem PySem.Spec L2
abbrev ctK (K : PySem.W.Frag) (c : String) : Addr := He.ga K (Str.ofString c)
def noL (K : PySem.W.Frag) : Bool := K.all fun p => match p.2.cls with
  | .type t => !(t == "list")
  | _ => true
theorem noL_ok {K : PySem.W.Frag} (h : noL K = true) {a : Addr} {o : Obj} (e : K.lookup a = some o) : o.cls ≠ .type "list" := by
  have m : (a, o) ∈ K := by
    have key : ∀ (K : List (Addr × Obj)), K.lookup a = some o → (a, o) ∈ K := by
      intro K
      induction K with
      | nil => intro h; cases h
      | cons p K ih =>
        obtain ⟨b, u⟩ := p
        intro h
        rw [List.lookup_cons] at h
        by_cases q : (a == b) = true
        · rw [q] at h
          have e : u = o := Option.some.inj h
          have e2 : a = b := eq_of_beq q
          subst e e2
          exact List.mem_cons_self
        · rw [Bool.not_eq_true] at q
          rw [q] at h
          exact List.mem_cons_of_mem _ (ih h)
    exact key K e
  have z := List.all_eq_true.mp h (a, o) m
  intro q
  simp only [q] at z
  simp at z
def excCB (K : PySem.W.Frag) (D : Addr) : Bool :=
  He.eqO (PySem.W.findIn K (.ref D) "__getattribute__") (some (some (.builtin "BaseException.__getattribute__"))) && (He.eqO (PySem.W.findIn K (.ref D) "__getattr__") (some none) && (decide (PySem.W.subIn K (.ref D) (.type "BaseException") = some true) && (PySem.W.hasDictIn K D &&
    (He.eqO (PySem.W.findIn K (.ref D) "__class__") (some (some (.builtin "object.__class__"))) && (He.eqO (PySem.W.specialIn K (.builtin "object.__class__") "__get__") (some (some (.builtin "getset_descriptor.__get__"))) && (decide (PySem.W.takesIn K (.builtin "object.__class__") = some true) && decide (PySem.W.mroIn K D (.type "object") = some true)))))))
theorem excCB_ok {K : PySem.W.Frag} {D : Addr} (h : excCB K D = true) : ExcC K D := by
  obtain ⟨h1, h⟩ := He.ba h
  obtain ⟨h2, h⟩ := He.ba h
  obtain ⟨h3, h⟩ := He.ba h
  obtain ⟨h4, h⟩ := He.ba h
  obtain ⟨h5, h⟩ := He.ba h
  obtain ⟨h6, h⟩ := He.ba h
  obtain ⟨h7, h8⟩ := He.ba h
  exact ⟨He.eqO_ok h1, He.eqO_ok h2, of_decide_eq_true h3, h4, He.eqO_ok h5, He.eqO_ok h6, of_decide_eq_true h7, of_decide_eq_true h8⟩
def exB (excs : List String) (isa : String → String → Bool) (K : PySem.W.Frag) : Bool :=
  noL K && excs.all fun c => excCB K (ctK K c) && (excs.all fun d => decide (PySem.W.kitOne K (.ref (ctK K c)) (.ref (ctK K d)) = some (isa c d)) && decide (PySem.W.exmOne K (.ref (ctK K c)) (.ref (ctK K d)) = some (isa c d)))
theorem exB_ok {excs : List String} {isa : String → String → Bool} {K : PySem.W.Frag} (h : exB excs isa K = true) : (∀ c, c ∈ excs → ExcC K (ctK K c)) ∧ (∀ c, c ∈ excs → ∀ d, d ∈ excs → PySem.W.kitOne K (.ref (ctK K c)) (.ref (ctK K d)) = some (isa c d)) ∧ (∀ c, c ∈ excs → ∀ d, d ∈ excs → PySem.W.exmOne K (.ref (ctK K c)) (.ref (ctK K d)) = some (isa c d)) := by
  obtain ⟨_, h⟩ := He.ba h
  have h := List.all_eq_true.mp h
  refine ⟨fun c hc => excCB_ok (He.ba (h c hc)).1, fun c hc d hd => ?_, fun c hc d hd => ?_⟩
  · exact of_decide_eq_true (He.ba (List.all_eq_true.mp (He.ba (h c hc)).2 d hd)).1
  · exact of_decide_eq_true (He.ba (List.all_eq_true.mp (He.ba (h c hc)).2 d hd)).2
abbrev AlE : Type := He.AlD × Bool
def obsE (n : Nat) (fa : List He.Fa) (fn : List He.DefD) (ex : PySem.W.Frag → Bool) (g : Addr → Option Obj) : AlE := (He.obsD fa fn (He.frG g (He.asD g n)), ex (He.frG g (He.asD g n)))
def hookE (n : Nat) (fa : List He.Fa) (fn : List He.DefD) (ex : PySem.W.Frag → Bool) : PySem.W.Hook where
  α := AlE
  obs := fun s => obsE n fa fn ex s.heap.get?
  val := fun _ => (He.valD fn, true)
  says := fun _ h => ∃ K : PySem.W.Frag, K.In h ∧ He.SaysD fa fn K ∧ ex K = true
  of := fun _ _ e => ⟨_, He.frG_in, congrArg (fun z : AlE => z.1) e, congrArg (fun z : AlE => z.2) e⟩
  keeps := fun _ _ _ ⟨K, hK, c⟩ k => ⟨K, PySem.W.Frag.In.keeps hK k, c⟩
theorem obsE_eq {n : Nat} {fa : List He.Fa} {fn : List He.DefD} {ex : PySem.W.Frag → Bool} {g : Addr → Option Obj} {s : Shared} (h : ∀ a, g a = s.heap.get? a) : obsE n fa fn ex g = (hookE n fa fn ex).obs s := by
  have e : g = s.heap.get? := funext h
  rw [e] <;> rfl
theorem exB_noL {excs : List String} {isa : String → String → Bool} {K : PySem.W.Frag} (h : exB excs isa K = true) : noL K = true := (He.ba h).1
/-- the law's promise at a script -/
theorem law_sp {K : PySem.W.Frag} {ct : String → Addr} {Fn : List D → Res D} {H : Hp} {a : Addr} {ns : List Int} (hno : noL K = true) (hO : Only H) (hS : SqL K H a (ns.map V.int)) (hl : ns.length ≤ LIM) (h : Fn [.lst (ns.map D.int)] = .ok (.bl true)) :
    spF K ct Fn [.ref a] H (fun v _ => v = .bl true) fun _ _ _ => False := by
  have hR : Rd H a (.lst (ns.map V.int)) := by
    rcases hS with hS | ⟨o, its, n, e, hc, _⟩
    · exact hS
    · exact absurd hc (noL_ok hno e)
  refine ⟨fun b => if b = a then some (.lst (ns.map V.int)) else none, [.lst (ns.map D.int)], fun b u hb => ?_, .cons (.lst (if_pos rfl) (by simpa using hl) ?_) .nil, ?_⟩
  · dsimp only at hb
    by_cases e : b = a
    · subst e
      rw [if_pos rfl] at hb
      cases hb
      exact hR
    · rw [if_neg e] at hb; cases hb
  · have key : ∀ (F : Hp) (ns : List Int), RpA K F (ns.map V.int) (ns.map D.int) := by
      intro F ns
      induction ns with
      | nil => exact .nil
      | cons n ns ih => exact .cons (.int n) ih
    exact key _ ns
  · rw [h]
    intro v F' H' gd r
    exact rp_bl r
/-- as the kit's walk_ofE; what leaves a def hangs on the world -/
theorem walk_ofX {l : PySem.W.OpenLaw} {n k : Nat} {q : Program} {loose : List Str} {XP : (Str → Option Value) → Heap → Prop} {YP : World → Heap → Prop} {d : DefRec} {x : Str}
    (hn : l.most = some n) (hn2 : n ≤ sizeLine) (hdf : d.params.defaults = []) (hr : Room k callerA)
    (F : ∀ (w : World) (mg : Str → Option Value) (fa : Addr) (h : Heap), YP w h → h.Ns mainGlobals mg → mg d.name = some (.ref fa) →
      ∃ (K : PySem.W.Frag) (fd : FuncData) (sp : Sp), K.In h ∧ (∀ (s : Shared) (u : Value), BindsTo s fd ⟨[u], []⟩ [(x, u)]) ∧
        (∀ (H : Hp) (a : Addr) (ns : List Int), ns.length ≤ n → Only H → SqL K H a (ns.map V.int) → sp [.ref a] H (fun v _ => v = .bl true) fun _ _ _ => False) ∧
        ∀ base : Heap, K.In base → base.Ns mainGlobals mg → FnOk l.prog w K mg base (L2.CX l.prog w) k fa fd [x] sp) :
    PySem.W.WalkO q loose XP YP l.row.toRowW d [] (fun f vs => PySem.call f vs) := by
  refine Att.attach_call hn hdf fun w s₀ s₁ mg mb fa o pm cd doc a vs ns G Y ho hd hcd hmg hobj hints hlen hg => ?_
  obtain ⟨K, fd, sp, KX, hb, hsp, hF⟩ := F w mg fa _ Y G.T.g hmg
  exact law_call KX G.T.g G.T.b G.T.builtins G.T.nolimit hg hobj hints (Nat.le_trans hlen hn2) hr hF hb (fun H hO hS => hsp H a ns hlen hO hS) fun H e s' z => by
    obtain ⟨_, _, _, _, _, _, _, _, _, _, _, _, z⟩ := z
    exact z
end Pv

namespace Pv
open PySem PySem.Spec L2 PyProof.Rows
/-! ### 5 i + 1 modulo powers of two meets all -/
def rn : Nat → Nat
  | 0 => 0
  | k + 1 => rn k * 5 + 1
theorem rn_add (a : Nat) : ∀ k, rn (a + k) = 5 ^ k * rn a + rn k
  | 0 => by simp [rn]
  | k + 1 => by
    show rn (a + k) * 5 + 1 = _
    rw [rn_add a k, Nat.pow_succ, rn]
    have : 5 ^ k * 5 * rn a = 5 * (5 ^ k * rn a) := by rw [Nat.mul_comm (5 ^ k) 5, Nat.mul_assoc]
    omega
theorem five_rn : ∀ k, 5 ^ k = 4 * rn k + 1
  | 0 => rfl
  | k + 1 => by rw [Nat.pow_succ, five_rn k, rn]; omega
theorem rn_two : ∀ p, ∃ c, rn (2 ^ p) = 2 ^ p * (2 * c + 1)
  | 0 => ⟨0, rfl⟩
  | p + 1 => by
    obtain ⟨c, e⟩ := rn_two p
    have e1 : rn (2 ^ (p + 1)) = 5 ^ (2 ^ p) * rn (2 ^ p) + rn (2 ^ p) := by
      rw [← rn_add, Nat.pow_succ]; congr 1; omega
    refine ⟨2 * rn (2 ^ p) * c + rn (2 ^ p) + c, ?_⟩
    rw [e1, five_rn, Nat.pow_succ]
    generalize rn (2 ^ p) = r at e ⊢
    generalize 2 ^ p = q at e ⊢
    have h2 : (4 * r + 1) * r + r = 2 * ((2 * r + 1) * r) := by grind
    rw [h2]
    have h3 : (2 * r + 1) * r = (2 * r + 1) * (q * (2 * c + 1)) := by rw [← e]
    rw [h3]
    grind
theorem rn_all : ∀ p j, j < 2 ^ p → ∃ b, b < 2 ^ p ∧ rn b % 2 ^ p = j
  | 0, j, h => ⟨0, by decide, by simp at h; subst h; rfl⟩
  | p + 1, j, h => by
    obtain ⟨c, ec⟩ := rn_two p
    generalize hq : 2 ^ p = q at ec
    have hp : 2 ^ (p + 1) = q * 2 := by rw [Nat.pow_succ, hq]
    have q0 : 0 < q := by rw [← hq]; exact Nat.pow_pos (by decide)
    rw [hp] at h ⊢
    obtain ⟨b, hb, e⟩ := rn_all p (j % 2 ^ p) (Nat.mod_lt _ (by rw [hq]; exact q0))
    rw [hq] at hb e
    have hj1 : j / q < 2 := (Nat.div_lt_iff_lt_mul q0).mpr (by omega)
    have hj := Nat.div_add_mod j q
    by_cases hx : rn b / q % 2 = j / q
    · refine ⟨b, by omega, ?_⟩
      rw [Nat.mod_mul, e, hx]; omega
    · refine ⟨q + b, by omega, ?_⟩
      have e5 : ∃ d, 5 ^ b * rn q = q * (2 * d + 1) := by
        rw [five_rn, ec]
        generalize rn b = r
        refine ⟨4 * r * c + 2 * r + c, ?_⟩
        rw [Nat.mul_left_comm]
        congr 1
        rw [Nat.add_mul, Nat.mul_add]
        have : 4 * r * (2 * c) = 2 * (4 * r * c) := by rw [Nat.mul_left_comm]
        omega
      obtain ⟨d, ed⟩ := e5
      rw [rn_add, ed, Nat.mod_mul, Nat.mul_add_mod, e, Nat.mul_add_div q0]
      have : (2 * d + 1 + rn b / q) % 2 = j / q := by
        generalize j / q = u at *; generalize rn b / q = v at *; clear hj; omega
      rw [this]; omega
theorem lcgN_rn (m : Nat) : ∀ k, lcgN m k = rn k % (m + 1)
  | 0 => rfl
  | k + 1 => by
    show (lcgN m k * 5 + 1) % (m + 1) = (rn k * 5 + 1) % (m + 1)
    rw [lcgN_rn m k, Nat.add_mod, Nat.mod_mul_mod, ← Nat.add_mod]
theorem lcgI_rn (m i : Nat) (hi : i ≤ m) : ∀ k, lcgI m i k = (5 ^ k * i + rn k) % (m + 1)
  | 0 => by
    show i = _
    rw [Nat.pow_zero, Nat.one_mul]
    exact (Nat.mod_eq_of_lt (Nat.lt_succ_of_le hi)).symm
  | k + 1 => by
    show (lcgI m i k * 5 + 1) % (m + 1) = _
    rw [lcgI_rn m i hi k, Nat.add_mod, Nat.mod_mul_mod, ← Nat.add_mod, rn, Nat.pow_succ]
    congr 1
    have : 5 ^ k * 5 * i = 5 * (5 ^ k * i) := by rw [Nat.mul_comm (5 ^ k) 5, Nat.mul_assoc]
    omega
/-- the masks that come, up to 4914 elements -/
def MskG (m : Nat) : Prop := m = 7 ∨ m = 31 ∨ m = 127 ∨ m = 511 ∨ m = 2047 ∨ m = 8191
theorem MskG.pow {m : Nat} (h : MskG m) : ∃ p, m + 1 = 2 ^ p := by
  rcases h with e | e | e | e | e | e <;> subst e
  · exact ⟨3, rfl⟩
  · exact ⟨5, rfl⟩
  · exact ⟨7, rfl⟩
  · exact ⟨9, rfl⟩
  · exact ⟨11, rfl⟩
  · exact ⟨13, rfl⟩
theorem MskG.odd {m : Nat} (h : MskG m) : m % 2 = 1 := by rcases h with e | e | e | e | e | e <;> subst e <;> rfl
theorem MskG.le {m : Nat} (h : MskG m) : m ≤ 8191 := by rcases h with e | e | e | e | e | e <;> subst e <;> decide
theorem all_from {m : Nat} (hm : MskG m) {i j : Nat} (hi : i ≤ m) (hj : j ≤ m) : ∃ k, k ≤ m ∧ lcgI m i k = j := by
  obtain ⟨p, hp⟩ := hm.pow
  have meets : ∀ {j}, j ≤ m → ∃ b, b ≤ m ∧ lcgN m b = j := fun {j} h => by
    obtain ⟨b, hb, e⟩ := rn_all p j (by omega)
    exact ⟨b, by omega, by rw [lcgN_rn, hp]; exact e⟩
  obtain ⟨a, ha, ea⟩ := meets hi
  obtain ⟨b, hb, eb⟩ := meets hj
  have back : lcgN m (m + 1 + b) = lcgN m b := by
    obtain ⟨c, ec⟩ := rn_two p
    rw [lcgN_rn, lcgN_rn, rn_add, hp, ec, Nat.mul_left_comm, Nat.mul_add_mod]
  by_cases c : a ≤ b
  · refine ⟨b - a, by omega, ?_⟩
    rw [← ea, lcgN_add, show a + (b - a) = b by omega, eb]
  · refine ⟨b + (m + 1) - a, by omega, ?_⟩
    rw [← ea, lcgN_add, show a + (b + (m + 1) - a) = m + 1 + b by omega, back, eb]
/-- a slot begins a run -/
theorem run_at {m : Nat} (hm : MskG m) (h : Int) {j : Nat} (hj : j ≤ m) : ∃ n, n ≤ m + 12 ∧ runI m (SetTable.bits h) n = j := by
  obtain ⟨k, hk, e⟩ := all_from hm (runI_le m (SetTable.bits h) 12) hj
  exact ⟨12 + k, by omega, (runI_tail (bits_lt h) k).trans e⟩
theorem way_in (m : Nat) (h : Int) (k : Nat) : way m h k ≤ m := by
  have hi : SetTable.bits h % (m + 1) ≤ m := Nat.le_of_lt_succ (Nat.mod_lt _ (Nat.succ_pos _))
  have r := runEnd_bd hi
  have q := nth_in (m := m) k (runAt m (SetTable.bits h % (m + 1)) (SetTable.bits h)) (by
    show SetTable.bits h % (m + 1) + (SetTable.runEnd m (SetTable.bits h % (m + 1)) - SetTable.bits h % (m + 1)) ≤ m
    omega)
  exact Nat.le_trans (Nat.le_add_right _ _) q
/-! ### reached through occupied slots -/
def Rch (m : Nat) (occ : Nat → Prop) (h : Int) (j : Nat) : Prop := ∃ k, way m h k = j ∧ ∀ k', k' < k → occ (way m h k')
theorem Rch.mono {m : Nat} {occ occ' : Nat → Prop} {h : Int} {j : Nat} (r : Rch m occ h j) (i : ∀ x, occ x → occ' x) : Rch m occ' h j := by
  obtain ⟨k, e, z⟩ := r
  exact ⟨k, e, fun k' hk => i _ (z k' hk)⟩
theorem Rch.before {m : Nat} {occ : Nat → Prop} {h : Int} {j K : Nat} (r : Rch m occ h j) (hj : occ j) (hK : ¬ occ (way m h K)) : ∃ k, k < K ∧ way m h k = j := by
  obtain ⟨k, e, z⟩ := r
  refine ⟨k, ?_, e⟩
  rcases Nat.lt_trichotomy k K with c | c | c
  · exact c
  · subst c; rw [e] at hK; exact absurd hj hK
  · exact absurd (z K c) hK
/-- the first free slot, by runs -/
theorem first_free {m : Nat} (hm : MskG m) {occ : Nat → Prop} (h : Int) {j : Nat} (hj : j ≤ m) (hf : ¬ occ j) :
    ∃ K n, n ≤ m + 12 ∧ K ≤ off m (SetTable.bits h % (m + 1)) (SetTable.bits h) n ∧ K ≤ 10 * n ∧ ¬ occ (way m h K) ∧ ∀ k, k < K → occ (way m h k) := by
  obtain ⟨n, hn, e⟩ := run_at hm h hj
  have hw : way m h (off m (SetTable.bits h % (m + 1)) (SetTable.bits h) n) = j := by
    show (nth m _ _).j = j
    rw [nth_off, itL_run]; exact e
  obtain ⟨k, hk, e2⟩ := run_nth m (SetTable.bits h) n
  have hw2 : way m h k = j := by show (nth m _ _).j = j; rw [e2]; exact e
  obtain ⟨K, h1, h2, h3⟩ := st_least (p := fun k => ¬ occ (way m h k)) _ (by show ¬ occ (way m h _); rw [hw]; exact hf)
  refine ⟨K, n, hn, h1, ?_, h2, fun k' hk' => Classical.byContradiction (h3 k' hk')⟩
  rcases Nat.lt_or_ge k K with c | c
  · exact absurd (by show ¬ occ (way m h k); rw [hw2]; exact hf) (h3 k c)
  · exact Nat.le_trans c hk
end Pv

namespace Pv
open PySem PySem.Spec L2 PyProof.Rows
/-! ### a table of arbitrary hashes, up to 4914 of them -/
abbrev Occ (t : SetTable) : Nat → Prop := fun j => j ∈ t.place.toList
structure Tb (t : SetTable) (hs : List Int) : Prop where
  ris : Ris t.place.toList
  dm : t.dummies = #[]
  sz : t.place.size = hs.length
  mok : MskG t.mask
  bd : ∀ x, Occ t x → x ≤ t.mask
  rch : ∀ (i : Nat) (h : Int) (j : Nat), hs[i]? = some h → t.place.toList[i]? = some j → Rch t.mask (Occ t) h j
theorem Tb.free {t : SetTable} {hs : List Int} (T : Tb t hs) (hl : hs.length ≤ t.mask) (h : Int) : ∃ K n, n ≤ t.mask + 12 ∧ K ≤ 10 * n ∧ ¬ Occ t (way t.mask h K) ∧ ∀ k, k < K → Occ t (way t.mask h k) := by
  have hp : t.place.toList.length < t.mask + 1 := by have := T.sz; rw [Array.length_toList]; omega
  obtain ⟨j, hj, nj⟩ := st_missing t.place.toList (t.mask + 1) hp
  obtain ⟨K, n, a, _, c, d, e⟩ := first_free T.mok (occ := Occ t) h (Nat.le_of_lt_succ hj) nj
  exact ⟨K, n, a, c, d, e⟩
theorem Tb.back {t : SetTable} {hs : List Int} (T : Tb t hs) {h : Int} {K i j : Nat} (hK : ¬ Occ t (way t.mask h K)) (hi : hs[i]? = some h) (hj : t.place.toList[i]? = some j) : ∃ k, k < K ∧ way t.mask h k = j :=
  (T.rch i h j hi hj).before (List.mem_of_getElem? hj) hK
/-- one more, at the first free slot of its way -/
theorem Tb.more {t : SetTable} {hs : List Int} (T : Tb t hs) {h : Int} {K : Nat} (hK : ¬ Occ t (way t.mask h K)) (hb : ∀ k, k < K → Occ t (way t.mask h k)) :
    ∃ p, p ≤ hs.length ∧ p = SetTable.below t.place (way t.mask h K) ∧ (t.put (way t.mask h K)).2 = p ∧ Tb (t.put (way t.mask h K)).1 (hs.take p ++ h :: hs.drop p) ∧ (t.put (way t.mask h K)).1.mask = t.mask ∧
      (t.put (way t.mask h K)).1.led = t.led ∧ (t.put (way t.mask h K)).1.plain = t.plain ∧ (t.put (way t.mask h K)).1.fill = hs.length + 1 := by
  have hjm : way t.mask h K ≤ t.mask := way_in _ _ _
  generalize hj : way t.mask h K = j at *
  have cut := (below_cut T.ris j).1
  have lp : t.place.toList.length = hs.length := by rw [Array.length_toList]; exact T.sz
  have pl : SetTable.below t.place j ≤ t.place.toList.length := by rw [Array.length_toList]; exact cut
  have ph : SetTable.below t.place j ≤ hs.length := lp ▸ pl
  have hpp := put_place t j
  have nsz : (t.put j).1.place.size = hs.length + 1 := by rw [← Array.length_toList, hpp, len_ins _ pl, lp]
  have up : ∀ x, Occ t x → Occ (t.put j).1 x := fun x hx => by show x ∈ _; rw [hpp]; exact mem_ins.2 (.inr hx)
  refine ⟨SetTable.below t.place j, ph, rfl, rfl, ⟨ris_insert T.ris fun e => hK (List.mem_of_getElem? (by rw [Array.getElem?_toList]; exact e)), put_dm T.dm j, ?_, T.mok, fun x hx => ?_, fun i h' j' e1 e2 => ?_⟩, rfl, rfl, rfl, ?_⟩
  · rw [len_ins _ ph]; exact nsz
  · have hx' : x ∈ (t.put j).1.place.toList := hx
    rw [hpp] at hx'
    rcases mem_ins.1 hx' with z | z
    · rw [z]; exact hjm
    · exact T.bd x z
  · rw [tins_get hs ph] at e1
    rw [hpp, tins_get _ pl] at e2
    show Rch t.mask (Occ (t.put j).1) h' j'
    by_cases c : i < SetTable.below t.place j
    · rw [if_pos c] at e1 e2; exact (T.rch i h' j' e1 e2).mono up
    · rw [if_neg c] at e1 e2
      by_cases d : i = SetTable.below t.place j
      · rw [if_pos d] at e1 e2
        cases e1; cases e2
        exact ⟨K, hj, fun k' hk' => up _ (hb k' hk')⟩
      · rw [if_neg d] at e1 e2; exact (T.rch (i - 1) h' j' e1 e2).mono up
  · show (t.put j).1.place.size + (t.put j).1.dummies.size = hs.length + 1
    rw [nsz, put_dm T.dm j]; rfl
/-! ### laid anew -/
theorem own_more {m : Nat} (hm : MskG m) {done : List Int} {owner : Array (Option Nat)} (W : Own m done owner) (hl : done.length ≤ m) (h : Int) :
    ∃ j, SetTable.layClean.free m owner (SetTable.turns m) (SetTable.bits h % (m + 1)) (SetTable.bits h) = some j ∧ Own m (done ++ [h]) (owner.setIfInBounds j (some done.length)) := by
  obtain ⟨ps, hps, hin⟩ := W.ps
  obtain ⟨j0, h0, hn0⟩ := st_missing ps (m + 1) (by omega)
  have hf0 : ¬ (oAt owner j0 ≠ none) := fun c => hn0 (hin j0 (Nat.le_of_lt_succ h0) c)
  obtain ⟨K, n, hn, hKo, _, hfree, hocc⟩ := first_free hm (occ := fun j => oAt owner j ≠ none) h (Nat.le_of_lt_succ h0) hf0
  have hfr : oAt owner (way m h K) = none := Classical.byContradiction hfree
  have hjm : way m h K ≤ m := way_in _ _ _
  have self := oAt_set_self (owner := owner) (j := way m h K) (some done.length) (by rw [W.sz]; exact Nat.lt_succ_of_le hjm)
  have up : ∀ i, oAt owner i ≠ none → oAt (owner.setIfInBounds (way m h K) (some done.length)) i ≠ none := fun i hi => by
    by_cases c : i = way m h K
    · rw [c, self]; exact nofun
    · rw [oAt_set_ne _ c]; exact hi
  refine ⟨way m h K, free_spec m owner _ n _ _ K (by unfold SetTable.turns; omega) hKo (fun k hk => ?_) ?_, ⟨by rw [Array.size_setIfInBounds]; exact W.sz, fun j k hj e => ?_, fun k hk => ?_, way m h K :: ps, by simp [hps], fun j hj e => ?_⟩⟩
  · have q := hocc k hk
    cases z : oAt owner (nth m (runAt m (SetTable.bits h % (m + 1)) (SetTable.bits h)) k).j with
    | none => exact absurd z q
    | some _ => rfl
  · have q : oAt owner (nth m (runAt m (SetTable.bits h % (m + 1)) (SetTable.bits h)) K).j = none := hfr
    rw [q]; rfl
  · by_cases c : j = way m h K
    · rw [c, self] at e
      cases e
      exact ⟨h, K, by simp, c.symm, fun k' hk' => up _ (hocc k' hk')⟩
    · rw [oAt_set_ne _ c] at e
      obtain ⟨h', K', a1, a2, a3⟩ := W.at_ j k hj e
      refine ⟨h', K', ?_, a2, fun k' hk' => up _ (a3 k' hk')⟩
      rw [List.getElem?_append_left (List.getElem?_eq_some_iff.mp a1).1]; exact a1
  · by_cases c : k < done.length
    · obtain ⟨j, hj, e⟩ := W.all k c
      exact ⟨j, hj, by rw [oAt_set_ne _ (fun z => by rw [z, hfr] at e; cases e)]; exact e⟩
    · have ek : k = done.length := by simp at hk; omega
      subst ek
      exact ⟨_, hjm, self⟩
  · by_cases c : j = way m h K
    · rw [c]; exact List.mem_cons_self
    · rw [oAt_set_ne _ c] at e; exact List.mem_cons_of_mem _ (hin j hj e)
theorem own_all {m : Nat} (hm : MskG m) : ∀ (rest done : List Int) (owner : Array (Option Nat)), Own m done owner → done.length + rest.length ≤ m →
    ∃ owner', rest.foldl (stepF m) (some (owner, done.length)) = some (owner', (done ++ rest).length) ∧ Own m (done ++ rest) owner'
  | [], done, owner, W, _ => ⟨owner, by simp, by simpa using W⟩
  | h :: rest, done, owner, W, hl => by
    simp only [List.length_cons] at hl
    obtain ⟨j, e, W1⟩ := own_more hm W (by omega) h
    obtain ⟨o2, f, W2⟩ := own_all hm rest (done ++ [h]) _ W1 (by simp; omega)
    rw [List.append_assoc] at f W2
    refine ⟨o2, ?_, W2⟩
    rw [List.foldl_cons, stepF_some e]
    simpa using f
theorem laid_anew (t : SetTable) {hs : Array Int} {wanted M : Nat} (hw : SetTable.sizeAbove wanted - 1 = M) (hM : MskG M) (hn : hs.size ≤ M) :
    ∃ t' order, t.relaid hs wanted = some (t', order) ∧ order.toList.Perm (List.range hs.size) ∧ Tb t' (order.toList.map fun i => hs.getD i 0) ∧ t'.mask = M ∧ t'.led = t.led ∧ t'.plain = t.plain := by
  obtain ⟨owner, f, W⟩ := own_all hM hs.toList [] _ (Own.init M) (by simpa using hn)
  have e : SetTable.layClean M hs = some owner := by rw [layClean_eq]; erw [f]; rfl
  rw [List.nil_append] at W
  have rl := ris_live (fun j => owner.getD j none) (List.range (M + 1)) List.pairwise_lt_range
  have r1 : Ris ((liveOf M owner).map (·.1)) := rl.1
  have nd : ((liveOf M owner).map (·.1)).Nodup := r1.imp fun h => Nat.ne_of_lt h
  have there : ∀ k, k < hs.size → k ∈ (liveOf M owner).map (·.2) := fun k hk => by
    obtain ⟨j, b1, b2⟩ := W.all k (by simpa using hk)
    exact List.mem_map.mpr ⟨(j, k), (mem_live W.sz).2 ⟨b1, b2⟩, rfl⟩
  have hlen : (liveOf M owner).length = hs.size := by
    obtain ⟨ps, p1, p2⟩ := W.ps
    have a := nat_nodup_len _ ps nd fun x hx => by
      obtain ⟨⟨y, k⟩, hq, rfl⟩ := List.mem_map.mp hx
      obtain ⟨b1, b2⟩ := (mem_live W.sz).1 hq
      exact p2 y b1 (by rw [b2]; exact nofun)
    have b := nat_nodup_len (List.range hs.size) ((liveOf M owner).map (·.2)) List.nodup_range fun k hk => there k (List.mem_range.mp hk)
    simp at a b p1
    omega
  refine ⟨tabOf t M owner, ((liveOf M owner).map (·.2)).toArray, by rw [relaid_eq, hw, e]; rfl, ?_, ⟨r1, rfl, ?_, hM, fun x hx => ?_, fun i h j e1 e2 => ?_⟩, rfl, rfl, rfl⟩
  · exact perm_range hs.size _ (by simpa using hlen) (by simpa using there)
  · show ((liveOf M owner).map (·.1)).toArray.size = _
    simp
  · exact Nat.le_of_lt_succ (List.mem_range.mp (rl.2 x hx))
  · have e1' : (((liveOf M owner).map (·.2)).map fun i => hs.getD i 0)[i]? = some h := e1
    have e2' : ((liveOf M owner).map (·.1))[i]? = some j := e2
    rw [List.getElem?_map, List.getElem?_map] at e1'
    rw [List.getElem?_map] at e2'
    cases hq : (liveOf M owner)[i]? with
    | none => rw [hq] at e2'; cases e2'
    | some q =>
      obtain ⟨y, k⟩ := q
      rw [hq] at e1' e2'
      cases e2'
      obtain ⟨b1, b2⟩ := (mem_live W.sz).1 (List.mem_of_getElem? hq)
      obtain ⟨h0, K, a1, a2, a3⟩ := W.at_ _ k b1 b2
      have eh : h0 = h := by
        have q1 : hs.getD k 0 = h0 := by rw [Array.getD_eq_getD_getElem?, ← Array.getElem?_toList, a1]; rfl
        exact q1.symm.trans (Option.some.inj e1')
      subst eh
      refine ⟨K, a2, fun k' hk' => ?_⟩
      show way M h0 k' ∈ (liveOf M owner).map (·.1)
      cases z : oAt owner (way M h0 k') with
      | none => exact absurd z (a3 k' hk')
      | some k2 => exact List.mem_map.mpr ⟨(way M h0 k', k2), (mem_live W.sz).2 ⟨way_in _ _ _, z⟩, rfl⟩
/-- where the table grows, and how much -/
theorem grows {m n : Nat} (hm : MskG m) (h1 : n * 5 < m * 3) (h2 : m * 3 ≤ (n + 1) * 5) (h3 : n + 1 ≤ 4900) : ∃ M, SetTable.sizeAbove (SetTable.grown (n + 1)) - 1 = M ∧ MskG M ∧ SetTable.sizeAbove (SetTable.grown (n + 1)) ≤ 8192 ∧ (n + 1) * 5 < M * 3 ∧ n + 1 ≤ m := by
  rcases hm with e | e | e | e | e | e <;> subst e
  · obtain rfl : n = 4 := by omega
    exact ⟨31, by decide +kernel, .inr (.inl rfl), by decide +kernel, by decide, by decide⟩
  · obtain rfl : n = 18 := by omega
    exact ⟨127, by decide +kernel, .inr (.inr (.inl rfl)), by decide +kernel, by decide, by decide⟩
  · obtain rfl : n = 76 := by omega
    exact ⟨511, by decide +kernel, .inr (.inr (.inr (.inl rfl))), by decide +kernel, by decide, by decide⟩
  · obtain rfl : n = 306 := by omega
    exact ⟨2047, by decide +kernel, .inr (.inr (.inr (.inr (.inl rfl)))), by decide +kernel, by decide, by decide⟩
  · obtain rfl : n = 1228 := by omega
    exact ⟨8191, by decide +kernel, .inr (.inr (.inr (.inr (.inr rfl)))), by decide +kernel, by decide, by decide⟩
  · omega
end Pv

namespace Pv
open PySem PySem.Spec L2 PyProof.Rows
/-! ### sets of tuples of ints and texts -/
abbrev thK (P : Program) (w : World) (k : List Key) : Int := tupleKeyHash (mixKind P w) k
abbrev IsK (P : Program) (w : World) (h : Heap) (k : List Key) (a : Addr) : Prop := IsTupleKey (mixKind P w) h k a
def rowK (P : Program) (w : World) (p : Addr × List Key) : Int × Value := (thK P w p.2, .ref p.1)
structure StR (P : Program) (w : World) (h : Heap) (a : Addr) (L : List (Addr × List Key)) (es : Array (Int × Value)) (ep : Nat) (t : SetTable) : Prop where
  ob : ∃ o, h.get? a = some o ∧ o.ExactSet ∧ o.data = .set es ep t
  rows : es.toList = L.map (rowK P w)
  tab : Tb t (L.map fun p => thK P w p.2)
  nd : (L.map (·.2)).Nodup
  key : ∀ p ∈ L, IsK P w h p.2 p.1
  led : w.params.followText "set-order" = true ∨ t.led = true
  room : L.length * 5 < t.mask * 3
section
variable {P : Program} {w : World} {A : Around} {E : Value → Shared → Prop} {s : Shared}
theorem items_av {k : List Key} {vs : List Value} (h : ItemsAre (mixKind P w) k vs) : ∀ v ∈ vs, (∃ i t, v = Value.int i t) ∨ ∃ x t, v = Value.str x t := by
  induction h with
  | nil => exact fun v hv => nomatch hv
  | cons h1 _ ih =>
    intro v hv
    rcases List.mem_cons.mp hv with rfl | hv
    · rcases keyIs_shape h1 with ⟨i, t, _, e⟩ | ⟨x, t, _, e⟩
      · exact .inl ⟨i, t, e⟩
      · exact .inr ⟨x, t, e⟩
    · exact ih v hv
theorem noClass {v : Value} (h : (∃ i t, v = Value.int i t) ∨ ∃ x t, v = Value.str x t) (n : Nat) : ofAClassStatement n v = pure false := by
  rcases h with ⟨i, t, rfl⟩ | ⟨x, t, rfl⟩ <;> cases n <;> rfl
theorem hashAny {v : Value} (h : (∃ i t, v = Value.int i t) ∨ ∃ x t, v = Value.str x t) (n : Nat) : ∃ b, hashByValue n v = pure b := by
  rcases h with ⟨i, t, rfl⟩ | ⟨x, t, rfl⟩
  · exact ⟨true, by cases n <;> rfl⟩
  · exact ⟨false, by cases n <;> rfl⟩
theorem noClassT {k : List Key} {b : Addr} {Q : Bool → Shared → Prop} (hk : IsK P w s.heap k b) (h : Q false s) : wpAny (model P w) A (ofAClassStatement 8 (.ref b)) Q E s := by
  have hT := hk.typeIs
  obtain ⟨o, items, n, ho, _, hd, hi⟩ := hk
  have av := items_av hi
  unfold ofAClassStatement
  refine wpAny_bind (wpAny_typeOf hT ?_)
  dsimp only
  simp only [show (("tuple" : String) == "tuple") = true from rfl, if_true, Bool.not_true, Bool.false_eq_true, if_false]
  try refine wpAny_bind (wpAny_pure ?_)
  try simp only [Bool.not_true, Bool.false_eq_true, if_false]
  show wpAny _ _ (seqItems? (.ref b) >>= _) _ _ s
  refine wpAny_bind (wpAny_seqItems ho hd ?_)
  dsimp only
  refine wpAny_bind ?_
  show wpAny _ _ (forIn items _ _) _ _ s
  rw [← Array.forIn_toList]
  refine wpAny_forIn_list _ (fun rest r s' => r.1 = none ∧ s' = s ∧ ∀ v ∈ rest, v ∈ items.toList) _ ?_ ?_ _ _ ⟨rfl, rfl, fun _ h => h⟩
  · rintro v rest r s' ⟨hr, rfl, all⟩
    rw [noClass (av v (all v List.mem_cons_self))]
    refine wpAny_bind (wpAny_pure ?_)
    simp only [Bool.false_eq_true, if_false]
    exact wpAny_pure ⟨rfl, rfl, fun u hu => all u (List.mem_cons_of_mem _ hu)⟩
  · rintro ⟨r1, r2⟩ s' ⟨hr, rfl, _⟩
    obtain rfl : r1 = none := hr
    exact wpAny_pure h
theorem hashAnyT {k : List Key} {b : Addr} {Q : Bool → Shared → Prop} (hk : IsK P w s.heap k b) (h : ∀ r, Q r s) : wpAny (model P w) A (hashByValue 8 (.ref b)) Q E s := by
  have hT := hk.typeIs
  obtain ⟨o, items, n, ho, _, hd, hi⟩ := hk
  have av := items_av hi
  unfold hashByValue
  refine wpAny_bind (wpAny_specialOf hT F.slot_tuple_hash.lookup ?_)
  show wpAny _ _ (seqItems? (.ref b) >>= _) _ _ s
  refine wpAny_bind (wpAny_seqItems ho hd ?_)
  refine wpAny_bind ?_
  show wpAny _ _ (forIn items _ _) _ _ s
  rw [← Array.forIn_toList]
  refine wpAny_forIn_list _ (fun rest r s' => (r.1 = none) ∧ s' = s ∧ ∀ v ∈ rest, v ∈ items.toList) _ ?_ ?_ _ _ ⟨rfl, rfl, fun _ h => h⟩
  · rintro v rest r s' ⟨hr, rfl, all⟩
    obtain ⟨bb, e⟩ := hashAny (av v (all v List.mem_cons_self)) 7
    rw [e]
    refine wpAny_bind (wpAny_pure ?_)
    cases bb with
    | true =>
      simp only [Bool.not_true, Bool.false_eq_true, if_false]
      exact wpAny_pure ⟨rfl, rfl, fun u hu => all u (List.mem_cons_of_mem _ hu)⟩
    | false =>
      simp only [Bool.not_false, if_true]
      exact wpAny_pure (wpAny_pure (h false))
  · rintro ⟨r1, r2⟩ s' ⟨hr, rfl, _⟩
    obtain rfl : r1 = none := hr
    exact wpAny_pure (h true)
theorem unseen {k : List Key} {b : Addr} {Q : Bool → Shared → Prop} (hk : IsK P w s.heap k b) {ys : List Value} (hy : ∀ y ∈ ys, ∃ k' c, y = Value.ref c ∧ IsK P w s.heap k' c) (h : Q false s) :
    wpAny (model P w) A (searchCouldBeSeen (.ref b) ys) Q E s := by
  unfold searchCouldBeSeen
  refine wpAny_bind ?_
  refine wpAny_forIn_list _ (fun rest r s' => r.1 = none ∧ s' = s ∧ ∀ v ∈ rest, v ∈ ys) _ ?_ ?_ _ _ ⟨rfl, rfl, fun _ h => h⟩
  · rintro v rest r s' ⟨hr, rfl, all⟩
    obtain ⟨k', c, rfl, hc⟩ := hy v (all _ List.mem_cons_self)
    have on : ∀ y ∈ rest, y ∈ ys := fun u hu => all u (List.mem_cons_of_mem _ hu)
    dsimp only
    by_cases hv : (b == c || (carriedByValue (.ref b) && carriedByValue (.ref c))) = true
    · exact wp_if_pos hv (wpAny_pure ⟨rfl, rfl, on⟩)
    · refine wp_if_neg hv ?_
      refine wpAny_bind (wpAny_eqIsQuiet_tuple hk ?_)
      simp only [Bool.not_true, Bool.false_eq_true, if_false]
      refine wpAny_bind (wpAny_eqIsQuiet_tuple hc ?_)
      simp only [Bool.not_true, Bool.false_eq_true, if_false]
      refine wpAny_bind (noClassT hk ?_)
      simp only [Bool.false_eq_true, if_false]
      refine wpAny_bind (noClassT hc ?_)
      simp only [Bool.false_eq_true, if_false]
      exact wpAny_pure ⟨rfl, rfl, on⟩
  · rintro ⟨r1, r2⟩ s' ⟨hr, rfl, _⟩
    obtain rfl : r1 = none := hr
    exact wpAny_pure h
variable {a : Addr} {L : List (Addr × List Key)} {es : Array (Int × Value)} {ep : Nat} {t : SetTable}
theorem StR.size {h : Heap} (R : StR P w h a L es ep t) : es.size = L.length := by
  have := congrArg List.length R.rows
  simpa using this
theorem StR.fits {h : Heap} (R : StR P w h a L es ep t) : t.fits es.size = true := by
  have h1 := R.tab.sz
  simp only [List.length_map] at h1
  have h2 := R.size
  have h3 := R.room
  unfold SetTable.fits SetTable.fill
  rw [R.tab.dm, Bool.and_eq_true, beq_iff_eq, decide_eq_true_eq]
  show t.place.size = es.size ∧ t.place.size + 0 ≤ t.mask
  omega
theorem StR.at_ {h : Heap} (R : StR P w h a L es ep t) {i : Nat} {p : Addr × List Key} (e : L[i]? = some p) : es[i]? = some (thK P w p.2, Value.ref p.1) := by
  rw [← Array.getElem?_toList, R.rows, List.getElem?_map, e]; rfl
/-- where a search stands after c steps -/
abbrev prb (m : Nat) (h : Int) (c : Nat) : SetTable.Probe := nth m (runAt m (SetTable.bits h % (m + 1)) (SetTable.bits h)) c
theorem prb_dummy (m : Nat) (h : Int) (c : Nat) : (prb m h c).dummy = none := by
  have key : ∀ (n : Nat) (p : SetTable.Probe), p.dummy = none → (nth m p n).dummy = none := by
    intro n
    induction n with
    | zero => exact fun p h => h
    | succ n ih => exact fun p h => ih (adv m p) (by unfold adv; split <;> exact h)
  exact key c _ rfl
theorem prb_add (m : Nat) (h : Int) (c q : Nat) : nth m (prb m h c) q = prb m h (c + q) := (nth_add m c _ q).symm
theorem look_on (R : StR P w s.heap a L es ep t) {x : Addr} {k : List Key} (hx : IsK P w s.heap k x) (hu : A.units < cLine) {K : Nat} (hKf : K < 10 * SetTable.turns t.mask)
    (hK : ¬ Occ t (way t.mask (thK P w k) K)) (hKb : ∀ c, c < K → Occ t (way t.mask (thK P w k) c)) {Q : SetFound → Shared → Prop}
    (hin : k ∈ L.map (·.2) → Q (.there none) s) (hout : k ∉ L.map (·.2) → Q (.free (way t.mask (thK P w k) K) false) s) :
    ∀ (f c : Nat) (st : Option SetTable.Probe), st.getD (t.probeStart (thK P w k)) = prb t.mask (thK P w k) c → c ≤ K → K - c < f →
      (∀ (i : Nat) p, L[i]? = some p → p.2 = k → ∃ c', c ≤ c' ∧ c' < K ∧ t.place.toList[i]? = some (way t.mask (thK P w k) c')) →
      wpAny (model P w) A (setSearchFrom a (.ref x) (thK P w k) true f st) Q E s := by
  obtain ⟨o, ho, hex, hd⟩ := R.ob
  generalize hh : thK P w k = hk at *
  intro f
  induction f with
  | zero => exact fun c st _ _ h _ => absurd h (Nat.not_lt_zero _)
  | succ f ih =>
    intro c st hst hc hf hre
    rw [setSearchFrom_succ]
    refine wpAny_bind (wpAny_setState_of ho hd R.fits ?_)
    dsimp only
    refine wp_if_neg (by unfold SetTable.gaveWay; rw [R.tab.mok.odd]; decide) ?_
    try refine wpAny_bind (wpAny_pure ?_)
    have jw : ∀ q, (nth t.mask (prb t.mask hk c) q).j = way t.mask hk (c + q) := fun q => congrArg SetTable.Probe.j (prb_add t.mask hk c q)
    have hashAt : ∀ (i : Nat) p, L[i]? = some p → (es[i]?.map (·.1)).getD 0 = thK P w p.2 := fun i p hp => by rw [R.at_ hp]; rfl
    have spec := go_spec t R.tab.ris R.tab.dm (fun i => (es[i]?.map (·.1)).getD 0) hk (10 * SetTable.turns t.mask) (K - c) _ (prb_dummy t.mask hk c) (by omega)
      (fun q hq => by rw [jw]; exact hKb (c + q) (by omega)) (by rw [jw, show c + (K - c) = K by omega]; exact hK)
    rcases spec with ⟨q, i, hq, hi, e1, hno, hpr⟩ | ⟨hno, hpr⟩
    · rw [jw] at hi hpr
      rw [prb_add] at hpr
      have hpr' : t.probe (fun i => (es[i]?.map (·.1)).getD 0) hk (st.getD (t.probeStart hk)) = some (.candidate (way t.mask hk (c + q)) i (prb t.mask hk (c + (q + 1)))) := by rw [hst]; exact hpr
      rw [hpr']
      dsimp only
      have hil : i < L.length := by
        have h1 : i < t.place.toList.length := (List.getElem?_eq_some_iff.mp hi).1
        have h2 := R.tab.sz
        simp only [List.length_map, Array.length_toList] at h1 h2
        omega
      obtain ⟨p, hp⟩ : ∃ p, L[i]? = some p := ⟨_, List.getElem?_eq_getElem hil⟩
      have hmem : p ∈ L := List.mem_of_getElem? hp
      have rest : wpAny (model P w) A (searchRest a (.ref x) hk true f es t (way t.mask hk (c + q)) i (prb t.mask hk (c + (q + 1)))) Q E s := by
        unfold searchRest
        rw [R.at_ hp]
        dsimp only
        refine wpAny_bind (wpAny_holding (wpAny_eqBool_tuple hu (R.key p hmem) hx ?_))
        refine wpAny_bind (wpAny_setState_of ho hd R.fits ?_)
        dsimp only
        by_cases hkk : p.2 = k
        · exact wp_if_pos (by simp [hkk]) (wpAny_pure (hin (List.mem_map.mpr ⟨p, hmem, hkk⟩)))
        · refine wp_if_neg (by simp [hkk]) ?_
          try refine wpAny_bind (wpAny_pure ?_)
          rw [sameMem]
          dsimp only
          have hsl : t.slot (way t.mask hk (c + q)) = .live i := slot_live R.tab.ris hi
          simp only [if_true, hsl, R.at_ hp]
          refine wpAny_bind (wpAny_isSame_ref_self (wpAny_bind (wpAny_pure ?_)))
          simp only [if_true]
          refine wp_if_neg (by simp [hkk]) ?_
          refine ih (c + (q + 1)) _ rfl (by omega) (by omega) fun i0 p0 h0 hk0 => ?_
          obtain ⟨c', a1, a2, a3⟩ := hre i0 p0 h0 hk0
          refine ⟨c', ?_, a2, a3⟩
          have e0 : (es[i0]?.map (·.1)).getD 0 = hk := (hashAt i0 p0 h0).trans (by rw [hk0]; exact hh)
          rcases Nat.lt_trichotomy c' (c + q) with z | z | z
          · exact absurd e0 (hno (c' - c) i0 (by omega) (by rw [jw, show c + (c' - c) = c' by omega]; exact a3))
          · rw [z] at a3
            have s0 := slot_live R.tab.ris a3
            rw [hsl] at s0
            injection s0 with s0
            rw [← s0, hp] at h0
            cases h0
            exact absurd hk0 hkk
          · omega
      by_cases hl : t.led = true
      · refine wp_if_neg (by simp [hl]) ?_
        try refine wpAny_bind (wpAny_pure ?_)
        exact rest
      · refine wp_if_pos (by simp [hl]) ?_
        refine wpAny_bind (unseen hx (fun y hy => ?_) ?_)
        · obtain ⟨e, he, rfl⟩ := List.mem_map.mp hy
          have he2 : e ∈ es.toList := by
            have : e ∈ es ∧ e.1 = hk := by simpa using he
            simpa using this.1
          rw [R.rows] at he2
          obtain ⟨p2, hp2, rfl⟩ := List.mem_map.mp he2
          exact ⟨p2.2, p2.1, rfl, R.key p2 hp2⟩
        · refine wp_if_neg (by decide) ?_
          try refine wpAny_bind (wpAny_pure ?_)
          exact rest
    · rw [jw, show c + (K - c) = K by omega] at hpr
      have hpr' : t.probe (fun i => (es[i]?.map (·.1)).getD 0) hk (st.getD (t.probeStart hk)) = some (.empty (way t.mask hk K) none) := by rw [hst]; exact hpr
      rw [hpr']
      dsimp only
      refine wpAny_pure (hout fun hm => ?_)
      obtain ⟨p0, h0, hk0⟩ := List.mem_map.mp hm
      obtain ⟨i0, hi0, e0⟩ := List.getElem_of_mem h0
      have h00 : L[i0]? = some p0 := by rw [List.getElem?_eq_getElem hi0, e0]
      obtain ⟨c', a1, a2, a3⟩ := hre i0 p0 h00 hk0
      exact hno (c' - c) i0 (by omega) (by rw [jw, show c + (c' - c) = c' by omega]; exact a3) ((hashAt i0 p0 h00).trans (by rw [hk0]; exact hh))
theorem look_up (R : StR P w s.heap a L es ep t) {x : Addr} {k : List Key} (hx : IsK P w s.heap k x) (hu : A.units < cLine) {Q : SetFound → Shared → Prop}
    (hin : k ∈ L.map (·.2) → Q (.there none) s)
    (hout : ∀ K, k ∉ L.map (·.2) → ¬ Occ t (way t.mask (thK P w k) K) → (∀ c, c < K → Occ t (way t.mask (thK P w k) c)) → Q (.free (way t.mask (thK P w k) K) false) s) :
    wpAny (model P w) A (setSearch a (.ref x) (thK P w k) true) Q E s := by
  have hroom := R.room
  have hmle := R.tab.mok.le
  obtain ⟨K, n, hn, hKn, hK, hKb⟩ := R.tab.free (by rw [List.length_map]; omega) (thK P w k)
  unfold setSearch
  refine look_on R hx hu (by unfold SetTable.turns; omega) hK hKb hin (fun hn => hout K hn hK hKb) 100000 0 none rfl (Nat.zero_le _) (by omega) fun i p hp hk => ?_
  have hi : (L.map fun p => thK P w p.2)[i]? = some (thK P w k) := by rw [List.getElem?_map, hp, ← hk]; rfl
  have hil : i < t.place.toList.length := by
    have h1 : i < L.length := (List.getElem?_eq_some_iff.mp hp).1
    have h2 := R.tab.sz
    rw [List.length_map] at h2
    rw [Array.length_toList]
    omega
  have hj := List.getElem?_eq_getElem hil
  obtain ⟨c, hc, e⟩ := R.tab.back hK hi hj
  exact ⟨c, Nat.zero_le _, hc, by rw [hj, e]⟩
end
end Pv

namespace Pv
open PySem PySem.Spec L2 PyProof.Rows
section
variable {P : Program} {w : World} {A : Around} {E : Value → Shared → Prop} {s : Shared}
theorem isK_but {h h' : Heap} {k : List Key} {a b : Addr} {o : Obj} {es : Array (Int × Value)} {ep : Nat} {t : SetTable} (hb : IsK P w h k b) (ho : h.get? a = some o) (hd : o.data = .set es ep t) (hs : Heap.SameBut a h h') : IsK P w h' k b := by
  obtain ⟨o', items, n, ho', hc, hd', hi⟩ := hb
  refine ⟨o', items, n, (hs.2 b ?_).trans ho', hc, hd', hi⟩
  rintro rfl
  rw [ho] at ho'
  cases ho'
  rw [hd] at hd'
  cases hd'
theorem isK_keep {h h' : Heap} {k : List Key} {b : Addr} (x : IsK P w h k b) (hk : ∀ c o, h.get? c = some o → h'.get? c = some o) : IsK P w h' k b := by
  obtain ⟨o, items, n, ho, r⟩ := x
  exact ⟨o, items, n, hk b o ho, r⟩
theorem filt_perm {α : Type} (L : List α) (order : List Nat) (hp : order.Perm (List.range L.length)) : (order.filterMap fun i => L[i]?).Perm L := by
  have h1 := hp.filterMap fun i => L[i]?
  have h2 : (List.range L.length).filterMap (fun i => L[i]?) = L := by
    have : ∀ n, n ≤ L.length → (List.range n).filterMap (fun i => L[i]?) = L.take n := by
      intro n
      induction n with
      | zero => intro _; simp
      | succ n ih =>
        intro hn
        rw [List.range_succ, List.filterMap_append, ih (by omega), List.take_add_one]
        cases hq : L[n]? <;> simp_all
    rw [this _ (Nat.le_refl _), List.take_length]
  rw [h2] at h1
  exact h1
theorem filt_map {α β : Type} (L : List α) (f : α → β) (order : List Nat) : (order.filterMap fun i => (L.map f)[i]?) = (order.filterMap fun i => L[i]?).map f := by
  rw [List.map_filterMap]
  congr 1
  funext i
  rw [List.getElem?_map]
theorem filt_all {α : Type} (L : List α) (d : α) : ∀ order : List Nat, (∀ i ∈ order, i < L.length) → (order.filterMap fun i => L[i]?) = order.map fun i => L.getD i d
  | [], _ => rfl
  | i :: o, h => by
    have hi := h i List.mem_cons_self
    rw [List.filterMap_cons_some (List.getElem?_eq_getElem hi), List.map_cons, filt_all L d o fun j hj => h j (List.mem_cons_of_mem _ hj)]
    simp [List.getD_eq_getElem?_getD, hi]
variable {a : Addr} {L : List (Addr × List Key)} {es : Array (Int × Value)} {ep : Nat} {t : SetTable}
theorem relay_K {o : Obj} (ho : s.heap.get? a = some o) (hex : o.ExactSet) (hd : o.data = .set es ep t) (hrows : es.toList = L.map (rowK P w)) (hsz : t.place.size = es.size) (hdm : t.dummies = #[]) (hfl : es.size ≤ t.mask)
    (nd : (L.map (·.2)).Nodup) (key : ∀ p ∈ L, IsK P w s.heap p.2 p.1) (ld : w.params.followText "set-order" = true ∨ t.led = true) {wanted M : Nat}
    (hw : SetTable.sizeAbove wanted - 1 = M) (hM : MskG M) (hw2 : SetTable.sizeAbove wanted ≤ 8192) (hn : L.length * 5 < M * 3) {Q : Unit → Shared → Prop}
    (hQ : ∀ h' L' es' ep' t', Heap.SameBut a s.heap h' → StR P w h' a L' es' ep' t' → L'.Perm L → Q () { s with heap := h' }) : wpAny (model P w) A (setRelay a wanted) Q E s := by
  have hsl : es.size = L.length := by simpa using congrArg List.length hrows
  have hMle := hM.le
  have hfits : t.fits es.size = true := by
    unfold SetTable.fits SetTable.fill
    rw [hdm, Bool.and_eq_true, beq_iff_eq, decide_eq_true_eq]
    show t.place.size = es.size ∧ t.place.size + 0 ≤ t.mask
    omega
  obtain ⟨t', order, e, hp, T, em, el, _⟩ := laid_anew t (hs := es.map (·.1)) (wanted := wanted) hw hM (by rw [Array.size_map, hsl]; omega)
  rw [Array.size_map, hsl] at hp
  have e1 : (order.filterMap (es[·]?)).toList = (order.toList.filterMap fun i => L[i]?).map (rowK P w) := by
    rw [Array.toList_filterMap, ← filt_map, ← hrows]
    simp
  have pm := filt_perm L order.toList hp
  have hs2 : (order.filterMap (es[·]?)).size = es.size := by
    have := congrArg List.length e1
    rw [Array.length_toList, List.length_map, pm.length_eq] at this
    omega
  have hT : (order.toList.map fun i => (es.map (·.1)).getD i 0) = (order.toList.filterMap fun i => L[i]?).map fun p => thK P w p.2 := by
    rw [← filt_map, filt_all _ 0 _ fun i hi => by rw [List.length_map]; exact List.mem_range.mp (hp.mem_iff.mp hi)]
    apply List.map_congr_left
    intro i hi
    rw [Array.getD_eq_getD_getElem?, List.getD_eq_getElem?_getD, ← Array.getElem?_toList, Array.toList_map, hrows, List.map_map]
    rfl
  rw [hT] at T
  generalize hL2 : (order.toList.filterMap fun i => L[i]?) = L2 at *
  rw [setRelay_eq]
  refine wpAny_bind (wpAny_setState_of ho hd hfits ?_)
  dsimp only
  refine wp_if_neg (by rw [sizeLine_eq]; omega) ?_
  try refine wpAny_bind (wpAny_pure ?_)
  rw [e]
  dsimp only
  refine wpAny_bind ?_
  refine wp_if_neg (by rw [hs2]; simp) ?_
  try refine wpAny_bind (wpAny_pure ?_)
  refine wpAny_pure ?_
  dsimp only
  refine wpAny_storeSet_of ho hd ?_ (by rw [hs2, hsl, sizeLine_eq]; omega)
  have sb : Heap.SameBut a s.heap (s.heap.update a (Obj.putSet (order.filterMap (es[·]?)) t')) := Heap.SameBut.update ..
  exact hQ _ L2 _ (ep + 1) t' sb ⟨⟨_, store_at ho hd, ⟨hex.1, hex.2.1, hex.2.2⟩, rfl⟩, e1, T, (pm.map (·.2)).nodup_iff.mpr nd, fun p hpm => isK_but (key p (pm.mem_iff.mp hpm)) ho hd sb, by rw [el]; exact ld, by rw [pm.length_eq, em]; exact hn⟩ pm
theorem Tb.plain {t : SetTable} {hs : List Int} (T : Tb t hs) (b : Bool) : Tb { t with plain := b } hs := ⟨T.ris, T.dm, T.sz, T.mok, T.bd, T.rch⟩
theorem add_K (R : StR P w s.heap a L es ep t) {x : Addr} {k : List Key} (hx : IsK P w s.heap k x) (hu : A.units < cLine) (hfew : L.length + 1 ≤ 4900) {Q : Bool → Shared → Prop}
    (hQ : ∀ b h' L' es' ep' t', Heap.SameBut a s.heap h' → StR P w h' a L' es' ep' t' → (k ∈ L.map (·.2) → L' = L) → (k ∉ L.map (·.2) → L'.Perm ((x, k) :: L)) → Q b { s with heap := h' }) :
    wpAny (model P w) A (setAddHashed a (.ref x) (thK P w k)) Q E s := by
  obtain ⟨o, ho, hex, hd⟩ := R.ob
  have hsl := R.size
  have hroom := R.room
  unfold setAddHashed
  refine wpAny_holding ?_
  rw [show (100000 : Nat) = 99999 + 1 from rfl, setAddHashedIn_succ]
  refine wpAny_bind (wpAny_setState_of ho hd R.fits ?_)
  dsimp only
  refine wp_if_neg (by simp [byScan, Value.scannable]) ?_
  try refine wpAny_bind (wpAny_pure ?_)
  refine wpAny_bind (look_up R hx hu (fun hm => ?_) fun K hm hK hb => ?_)
  · exact wpAny_pure (hQ false s.heap L es ep t (Heap.SameBut.refl a s.heap) R (fun _ => rfl) fun z => absurd hm z)
  · dsimp only
    refine wpAny_bind (wpAny_setState_of ho hd R.fits ?_)
    dsimp only
    obtain ⟨p, q2, q0, q1, q3, q4, q5, _, q9⟩ := R.tab.more hK hb
    generalize hpt : t.put (way t.mask (thK P w k) K) = pt at q1 q3 q4 q5 q9 ⊢
    obtain ⟨t0, p'⟩ := pt
    dsimp only at q1 q3 q4 q5 q9 ⊢
    subst q1
    have go : ∀ b : Bool, wpAny (model P w) A (do
        storeSet a (SetTable.insertAt es p' (thK P w k, Value.ref x)) (if b = true then t0 else { t0 with plain := false })
        if (!false && (if b = true then t0 else { t0 with plain := false }).tooFull) = true then setRelay a (SetTable.grown (es.size + 1))
        pure true) Q E s := by
      intro b
      have q3' : Tb (if b = true then t0 else { t0 with plain := false }) ((L.map fun p => thK P w p.2).take p' ++ thK P w k :: (L.map fun p => thK P w p.2).drop p') := by
        cases b
        · exact q3.plain false
        · exact q3
      have q4' : (if b = true then t0 else { t0 with plain := false }).mask = t.mask := by cases b <;> exact q4
      have q5' : (if b = true then t0 else { t0 with plain := false }).led = t.led := by cases b <;> exact q5
      have q9' : (if b = true then t0 else { t0 with plain := false }).fill = L.length + 1 := by
        rw [List.length_map] at q9
        cases b <;> exact q9
      generalize (if b = true then t0 else { t0 with plain := false }) = t1 at q3' q4' q5' q9' ⊢
      have hin : (SetTable.insertAt es p' (thK P w k, Value.ref x)).toList = (L.take p' ++ (x, k) :: L.drop p').map (rowK P w) := by
        rw [SetTable.toList_insertAt, R.rows, List.map_append, List.map_cons, List.map_take, List.map_drop]
        rfl
      have pm := put_perm L p' (x, k)
      have hlen : (L.take p' ++ (x, k) :: L.drop p').length = L.length + 1 := pm.length_eq
      have hhs : (L.take p' ++ (x, k) :: L.drop p').map (fun p => thK P w p.2) = (L.map fun p => thK P w p.2).take p' ++ thK P w k :: (L.map fun p => thK P w p.2).drop p' := by
        rw [List.map_append, List.map_cons, List.map_take, List.map_drop]
      rw [← hhs] at q3'
      have nd1 : ((L.take p' ++ (x, k) :: L.drop p').map (·.2)).Nodup := (pm.map (·.2)).nodup_iff.mpr (by rw [List.map_cons]; exact List.nodup_cons.mpr ⟨hm, R.nd⟩)
      have hes : (SetTable.insertAt es p' (thK P w k, Value.ref x)).size = L.length + 1 := by
        have h := congrArg List.length hin
        rw [Array.length_toList, List.length_map, hlen] at h
        exact h
      generalize SetTable.insertAt es p' (thK P w k, Value.ref x) = es1 at hin hes ⊢
      generalize L.take p' ++ (x, k) :: L.drop p' = L1 at pm hlen q3' nd1 hin
      refine wpAny_bind (wpAny_storeSet_of ho hd ?_ (by rw [hes, sizeLine_eq]; omega))
      have sb : Heap.SameBut a s.heap (s.heap.update a (Obj.putSet es1 t1)) := Heap.SameBut.update ..
      have ho1 := store_at (es' := es1) (t' := t1) ho hd
      generalize s.heap.update a (Obj.putSet es1 t1) = h1 at sb ho1 ⊢
      have key1 : ∀ p ∈ L1, IsK P w h1 p.2 p.1 := fun p hp => by
        rcases List.mem_cons.mp (pm.mem_iff.mp hp) with e | hp
        · rw [e]; exact isK_but hx ho hd sb
        · exact isK_but (R.key p hp) ho hd sb
      have ld1 : w.params.followText "set-order" = true ∨ t1.led = true := by rw [q5']; exact R.led
      by_cases hf : t1.tooFull = true
      · first
          | (refine wpAny_bind ?_; refine wp_if_pos (by simp [hf]) ?_)
          | (refine wp_if_pos (by simp [hf]) ?_; refine wpAny_bind ?_)
        have hfull : t.mask * 3 ≤ (L.length + 1) * 5 := by
          have h := hf
          unfold SetTable.tooFull at h
          rw [decide_eq_true_eq, q9', q4'] at h
          exact h
        rw [hsl]
        have hsz1 : t1.place.size = es1.size := by
          have h := q3'.sz
          rw [List.length_map, hlen] at h
          rw [h, hes]
        obtain ⟨M, g1, g2, g3, g4, g5⟩ := grows R.tab.mok hroom hfull hfew
        refine relay_K (s := { s with heap := h1 }) ho1 ⟨hex.1, hex.2.1, hex.2.2⟩ rfl hin hsz1 q3'.dm (by rw [hes, q4']; exact g5) nd1 key1 ld1 g1 g2 g3 (by rw [hlen]; exact g4) ?_
        intro h2 L2 es2 ep2 t2 sb2 R2 pm2
        exact wpAny_pure (hQ true h2 L2 es2 ep2 t2 (sb.trans sb2) R2 (fun z => absurd z hm) fun _ => pm2.trans pm)
      · first
          | refine wp_if_neg (by simp [hf]) ?_
          | (refine wpAny_bind ?_; refine wp_if_neg (by simp [hf]) ?_; refine wpAny_pure ?_)
        refine wpAny_pure (hQ true h1 L1 es1 (ep + 1) t1 sb ⟨⟨_, ho1, ⟨hex.1, hex.2.1, hex.2.2⟩, rfl⟩, hin, q3', nd1, key1, ld1, ?_⟩ (fun z => absurd z hm) fun _ => pm)
        have h := hf
        unfold SetTable.tooFull at h
        rw [decide_eq_true_eq, q9'] at h
        rw [hlen]
        omega
    by_cases hpl : t0.plain = true
    · first
        | (refine wpAny_bind ?_; refine wp_if_pos hpl ?_; exact hashAnyT hx fun b => go b)
        | exact wp_if_pos hpl (wpAny_bind (hashAnyT hx fun b => go b))
    · first
        | (refine wpAny_bind ?_; refine wp_if_neg hpl ?_; exact wpAny_pure (go true))
        | exact wp_if_neg hpl (wpAny_bind (wpAny_pure (go true)))
        | exact wp_if_neg hpl (go true)
end
end Pv

namespace Pv
open PySem PySem.Spec L2 PySem.Froz PyProof.Rows
/-- what a set has of the first i -/
structure GotK (ks : List (Addr × List Key)) (i : Nat) (L : List (Addr × List Key)) : Prop where
  sub : ∀ p ∈ L, p ∈ ks.take i
  all : ∀ p ∈ ks.take i, p.2 ∈ L.map (·.2)
  len : L.length ≤ i
theorem GotK.step {ks L L' : List (Addr × List Key)} {i : Nat} {x : Addr × List Key} (g : GotK ks i L) (h : ks[i]? = some x) (c1 : x.2 ∈ L.map (·.2) → L' = L) (c2 : x.2 ∉ L.map (·.2) → L'.Perm (x :: L)) : GotK ks (i + 1) L' := by
  have tk : ks.take (i + 1) = ks.take i ++ [x] := by rw [List.take_add_one, h]; rfl
  by_cases c : x.2 ∈ L.map (·.2)
  · rw [c1 c]
    refine ⟨fun p hp => ?_, fun p hp => ?_, Nat.le_succ_of_le g.len⟩
    · rw [tk]; exact List.mem_append_left _ (g.sub p hp)
    · rw [tk] at hp
      rcases List.mem_append.mp hp with z | z
      · exact g.all p z
      · rw [List.mem_singleton.mp z]; exact c
  · have pm := c2 c
    refine ⟨fun p hp => ?_, fun p hp => ?_, by rw [pm.length_eq]; exact Nat.succ_le_succ g.len⟩
    · rw [tk]
      rcases List.mem_cons.mp (pm.mem_iff.mp hp) with e | z
      · rw [e]; exact List.mem_append_right _ List.mem_cons_self
      · exact List.mem_append_left _ (g.sub p z)
    · rw [(pm.map (·.2)).mem_iff, List.map_cons]
      rw [tk] at hp
      rcases List.mem_append.mp hp with z | z
      · exact List.mem_cons_of_mem _ (g.all p z)
      · rw [List.mem_singleton.mp z]; exact List.mem_cons_self
section
variable {P : Program} {w : World} {A : Around} {E : Value → Shared → Prop} {s : Shared}
/-- the set, its table left aside -/
def StS (P : Program) (w : World) (h : Heap) (a : Addr) (L : List (Addr × List Key)) : Prop := ∃ es ep t, StR P w h a L es ep t
theorem StS.keep {h h' : Heap} {a : Addr} {L : List (Addr × List Key)} (R : StS P w h a L) (ha : ∀ o, h.get? a = some o → h'.get? a = some o) (ht : ∀ p ∈ L, IsK P w h' p.2 p.1) : StS P w h' a L := by
  obtain ⟨es, ep, t, R⟩ := R
  obtain ⟨o, ho, r⟩ := R.ob
  exact ⟨es, ep, t, ⟨o, ha o ho, r⟩, R.rows, R.tab, R.nd, ht, R.led, R.room⟩
abbrev nStK (w : World) : Obj := { cls := .type "set", dict := none, data := .set #[] 0 (.fresh 0 0 (!w.params.followText "set-order")) }
theorem sts_new {h : Heap} {a : Addr} (ho : h.get? a = some (nStK w)) : StS P w h a [] := by
  refine ⟨#[], 0, .fresh 0 0 (!w.params.followText "set-order"), ⟨_, ho, ⟨rfl, rfl, rfl⟩, rfl⟩, rfl, ⟨List.Pairwise.nil, rfl, rfl, .inl rfl, fun x hx => (nomatch hx), fun i h j hi => by simp at hi⟩, List.nodup_nil, fun p hp => (nomatch hp), ?_, by show 0 * 5 < 7 * 3; decide⟩
  show _ ∨ (!w.params.followText "set-order") = true
  cases w.params.followText "set-order"
  · exact .inr rfl
  · exact .inl rfl
theorem loopK {I : Addr} {fp wr : List Addr} {G : Array GenState → Array GenState → Prop} {n : Nat} {Pv : Nat → Value → Prop} {St : Nat → Shared → Prop} {R : Result → Shared → Prop}
    (W : WalksS P w A.in1 I fp wr G n Pv St) (S : Addr) (hSf : S ∉ fp) (ks : List (Addr × List Key)) (hn : ks.length = n) (hfew : n ≤ 4000) (hval : ∀ i v, Pv i v → ∃ p, ks[i]? = some p ∧ v = .ref p.1)
    (h0 : Heap) (hk : ∀ p ∈ ks, IsK P w h0 p.2 p.1) (hS0 : h0.get? S = none) (hw0 : ∀ b ∈ wr, h0.get? b = none) (hu : A.in1.units < cLine) :
    ∀ (k i : Nat) (s : Shared), n - i = k → i ≤ n → St i s → (∀ b o, h0.get? b = some o → s.heap.get? b = some o) → ∀ L, StS P w s.heap S L → GotK ks i L →
      (∀ s' L, Moved (S :: wr) G s s' → StS P w s'.heap S L → GotK ks n L → (∀ b o, h0.get? b = some o → s'.heap.get? b = some o) → R (.ok (.ret .none)) s') →
      codeAny (model P w) A (.builtin "set.update.loop" ⟨[.ref S, .ref I], []⟩) R s := by
  have hSw : S ∉ wr := fun h => hSf (W.sub _ h)
  have hsub : ∀ b ∈ wr, b ∈ S :: wr := fun b hb => List.mem_cons_of_mem _ hb
  have on : ∀ {s s' : Shared}, Moved wr G s s' → (∀ b o, h0.get? b = some o → s.heap.get? b = some o) → ∀ b o, h0.get? b = some o → s'.heap.get? b = some o := fun hm hkp b o e =>
    hm.heap b o (fun hb => by rw [hw0 b hb] at e; cases e) (hkp b o e)
  intro k
  induction k with
  | zero =>
    intro i s hk' hi hst hkp L hS g hR
    obtain rfl : i = n := by omega
    refine codeAny_builtin PyProof.Rows.F.entry_set_update_loop ?_
    rw [Around.under_plainId PyProof.Rows.F.plain_set_update_loop _]
    show wpAny _ A.in1 (pyNext (.ref I) >>= _) _ _ s
    refine wpAny_bind (W.done s _ _ hst fun s' hm => ?_)
    show wpAny _ A.in1 (ret Value.none) _ _ s'
    exact wpAny_pure (hR s' L (hm.mono hsub) (hS.keep (fun o e => hm.heap S o hSw e) fun p hp => isK_keep (hk p (List.mem_of_mem_take (g.sub p hp))) (on hm hkp)) g (on hm hkp))
  | succ k ih =>
    intro i s hk' hi hst hkp L hS g hR
    have hlt : i < n := by omega
    refine codeAny_builtin PyProof.Rows.F.entry_set_update_loop ?_
    rw [Around.under_plainId PyProof.Rows.F.plain_set_update_loop _]
    show wpAny _ A.in1 (pyNext (.ref I) >>= _) _ _ s
    refine wpAny_bind (W.item i s _ _ hlt hst fun v s' hP hst' hm => ?_)
    obtain ⟨p, hp, rfl⟩ := hval i v hP
    have hkp' := on hm hkp
    obtain ⟨es, ep, t, hS'⟩ := hS.keep (fun o e => hm.heap S o hSw e) fun q hq => isK_keep (hk q (List.mem_of_mem_take (g.sub q hq))) hkp'
    have hx : IsK P w s'.heap p.2 p.1 := isK_keep (hk p (List.mem_of_getElem? hp)) hkp'
    show wpAny _ A.in1 (holding [Value.ref p.1] (setAdd S (.ref p.1)) >>= _) _ _ s'
    refine wpAny_bind (wpAny_holding ?_)
    unfold setAdd
    refine wpAny_holding ?_
    refine wpAny_bind (wpAny_pyHash_tuple hu hx ?_)
    refine add_K (s := { s' with toks := s'.toks + (p.2.length + 1) }) hS' hx hu (by have := g.len; omega) fun b h' L' es' ep' t' hsb hS2 c1 c2 => ?_
    have hkp2 : ∀ b o, h0.get? b = some o → h'.get? b = some o := fun b o e => (hsb.2 b (fun z => by rw [z, hS0] at e; cases e)).trans (hkp' b o e)
    refine wpAny_pure ⟨plainId_quiet PyProof.Rows.F.plain_set_update_loop _, ih (i + 1) _ (by omega) hlt (W.frame _ s' _ _ hst' (Nat.le_add_right _ _) fun b hb o e => ?_) hkp2 L' ⟨es', ep', t', hS2⟩ (g.step hp c1 c2) fun s'' L2 hm'' hS'' g'' hkp'' => ?_⟩
    · rw [hsb.2 b (fun h : b = S => hSf (by rw [← h]; exact hb))]; exact e
    · refine hR s'' L2 (Moved.trans W.gtrans ((hm.mono hsub).then_heap (Nat.le_add_right _ _) fun b o hb e => ?_) hm'') hS'' g'' hkp''
      rw [hsb.2 b (fun h : b = S => hb (by rw [h]; exact List.mem_cons_self))]; exact e
set_option maxHeartbeats 3200000 in
/-- set(xs), xs a list of tuples -/
theorem call_set_K {l : Addr} {items : Array Value} (ks : List (Addr × List Key)) {Q : Value → Shared → Prop} (hh : A.handled = none) (hl : s.heap.IsList l items) (hit : items.toList = ks.map fun p => Value.ref p.1)
    (hk : ∀ p ∈ ks, IsK P w s.heap p.2 p.1) (hfew : ks.length ≤ 4000) (hu : A.units + 3 < cLine)
    (h : ∀ (h' : Heap) (tk : Nat) L, StS P w h' s.heap.objs.size L → GotK ks ks.length L → (∀ b o, s.heap.get? b = some o → h'.get? b = some o) → Q (.ref s.heap.objs.size) { s with heap := h', toks := tk }) :
    wpAny (model P w) A (call (.type "set") [.ref l]) Q E s := by
  have hisz : ks.length = items.size := by simpa using (congrArg List.length hit).symm
  obtain ⟨c, tl, hmro⟩ := PySem.F.called_set.mro
  have hmade := PySem.F.called_set.made
  have hsub := PySem.F.called_set.sub
  refine wpAny_call (codeAny_of_tree ?_)
  show wpAny _ _ (callAny (.type "set") _) _ _ _
  refine wpAny_pure ⟨Code.quiet_builtin _ (by decide +kernel), codeAny_builtin PySem.F.entry_type_call ?_⟩
  rw [Around.under_plain (weight_type_call_type "set" [.ref l] []) rfl]
  have h1 := PySem.F.called_set.notType
  have h2 := PySem.F.called_set.canCreate
  have hct := PySem.F.typeCall_set_1 (.ref l)
  repeat (any_goals (first | assumption | wp_step))
  refine codeAny_mono (code_set_led1 (.ref l) (E := E) (Q₁ := fun obj s₁ => obj = .ref s.heap.objs.size ∧ s₁ = { s with heap := s.heap.push (nStK w) }) ⟨rfl, rfl⟩) fun r s₁ hr => ?_
  cases r with
  | error e => exact hr
  | ok fl =>
    cases fl with
    | ret obj =>
      obtain ⟨rfl, rfl⟩ := hr
      have hS : (s.heap.push (nStK w)).get? s.heap.objs.size = some (nStK w) := Heap.get?_push_size _ rfl
      have hT : Shared.TypeIs { s with heap := s.heap.push (nStK w) } (.ref s.heap.objs.size) "set" := ⟨_, hS, rfl⟩
      have hli := PySem.F.called_set.init.lookup
      have hbi := PySem.F.called_set.init.bind (.ref s.heap.objs.size)
      repeat (any_goals (first | assumption | wp_step))
      refine codeAny_mono (codeAny_call_builtin (R := wants (fun r s₂ => r = .none ∧ ∃ h' tk L, s₂ = { s with heap := h', toks := tk } ∧ StS P w h' s.heap.objs.size L ∧ GotK ks ks.length L ∧
          (∀ b o, s.heap.get? b = some o → h'.get? b = some o)) E) PySem.F.called_set.init.plain PySem.F.entry_set_init (check_set_init_1 hT ?_)) fun r₂ s₂ hr₂ => ?_
      · obtain ⟨ol, hol, hcl, nl, hdl⟩ := hl
        obtain ⟨ocls, odict, odata, oslots⟩ := ol
        simp only at hcl hdl
        subst hcl; subst hdl
        have hol' : (s.heap.push (nStK w)).get? l = some { cls := .type "list", dict := odict, data := .seq items nl, slots := oslots } := Heap.get?_push_of_some _ hol
        have hsls := PySem.F.sub_list_set
        have hslf := PySem.F.sub_list_frozenset
        have hne : (Value.type "list" == Value.type "dict") = false := by decide
        have hl1 : (s.heap.push (nStK w)).IsList l items := ⟨_, hol', rfl, nl, rfl⟩
        unfold Builtin.«set.__init__» noKeywords Builtin.Frozenset.updateFrom
        generalize hPI : pyIter = PI
        wp_walk
        subst hPI
        refine wpAny_pyIter_list hl1 ?_
        refine wpAny_bind (wpAny_runValue ?_)
        have hlS : l < s.heap.objs.size := Heap.lt_size hol
        have hh3 : A.in1.in1.in1.handled = none := by simp [hh]
        have hneI : l ≠ (s.heap.push (nStK w)).objs.size := by
          rw [Heap.size_push]; exact Nat.ne_of_lt (Nat.lt_succ_of_lt hlS)
        have hSf : s.heap.objs.size ∉ [(s.heap.push (nStK w)).objs.size, l] := by
          rw [Heap.size_push]; simp only [List.mem_cons, List.mem_singleton, List.not_mem_nil, or_false, not_or]
          exact ⟨Nat.ne_of_lt (Nat.lt_succ_self _), Nat.ne_of_gt hlS⟩
        have hval : ∀ (i : Nat) (v : Value), items[i]? = some v → ∃ p, ks[i]? = some p ∧ v = .ref p.1 := fun i v hv => by
          have q : items.toList[i]? = some v := by rw [Array.getElem?_toList]; exact hv
          rw [hit, List.getElem?_map] at q
          cases hq : ks[i]? with
          | none => rw [hq] at q; cases q
          | some p => rw [hq] at q; cases q; exact ⟨p, rfl, rfl⟩
        have none_of : ∀ b, s.heap.objs.size ≤ b → s.heap.get? b = none := fun b hb => by
          cases q : s.heap.get? b with
          | none => rfl
          | some o => exact absurd (Nat.lt_of_lt_of_le (Heap.lt_size q) hb) (Nat.lt_irrefl _)
        refine loopK ((Walks.list hh3 _ l hneI items).toS) s.heap.objs.size
          hSf ks hisz (by rw [← hisz]; exact hfew) hval s.heap hk (none_of _ (Nat.le_refl _)) (fun b hb => none_of b (by
            rw [List.mem_singleton.mp hb, Heap.size_push]
            exact Nat.le_succ _)) hu (items.size - 0) 0 _ (by omega) (Nat.zero_le _)
          ⟨⟨_, Heap.get?_push_size _ rfl, rfl, rfl⟩, (hl1.push _)⟩ (fun b o e => Heap.get?_push_of_some _ (Heap.get?_push_of_some _ e)) [] ?hS0 ⟨fun p hp => (nomatch hp), fun p hp => by simp at hp, Nat.le_refl _⟩ ?hR
        case hS0 => exact sts_new (Heap.get?_push_of_some _ hS)
        case hR =>
          intro s' L hm hS' g' hkp
          obtain ⟨h', g2, d', tk', os'⟩ := s'
          have eg : g2 = s.gens := hm.gens
          have ed : d' = s.drawn := hm.drawn
          have eo : os' = s.os := hm.os
          subst eg; subst ed; subst eo
          show wpAny _ _ _ _ _ _
          refine wpAny_pure ?_
          show wpAny _ _ (ret Value.none) _ _ _
          rw [← hisz] at g'
          exact wpAny_pure ⟨rfl, h', tk', L, rfl, hS', g', hkp⟩
      · cases r₂ with
        | error e => exact hr₂
        | ok fl₂ =>
          cases fl₂ with
          | ret r =>
            obtain ⟨rfl, h', tk, L, rfl, hS', g', hk'⟩ := hr₂
            repeat (any_goals (first | assumption | wp_step))
            exact h _ _ _ hS' g' hk'
          | _ => exact hr₂.elim
    | _ => exact hr.elim
end
end Pv

namespace Pv
/-! ### plain laws of the pure walk -/
theorem plains_ints : ∀ ns : List Int, plains (ns.map D.int) = true
  | [] => by simp [plains]
  | n :: ns => by simp [plains, plain, plains_ints ns]
theorem deps_ints : ∀ ns : List Int, deps (ns.map D.int) = 0
  | [] => by simp [deps]
  | n :: ns => by simp [deps, dep, deps_ints ns]
theorem plains_strs : ∀ ns : List (List Nat), plains (ns.map D.str) = true
  | [] => by simp [plains]
  | n :: ns => by simp [plains, plain, plains_strs ns]
theorem deps_strs : ∀ ns : List (List Nat), deps (ns.map D.str) = 0
  | [] => by simp [deps]
  | n :: ns => by simp [deps, dep, deps_strs ns]
mutual
theorem deq_refl : ∀ d : D, plain d = true → deq d d = true
  | .non, _ => by simp [deq]
  | .bl b, _ => by simp [deq]
  | .int i, _ => by simp [deq]
  | .str l, _ => by simp [deq]
  | .tup ds, h => by rw [deq]; exact deqs_refl ds (by simpa [plain] using h)
  | .lst ds, h => by rw [deq]; exact deqs_refl ds (by simpa [plain] using h)
  | .dic _, h => by simp [plain] at h
  | .obj _, h => by simp [plain] at h
  | .fn _, h => by simp [plain] at h
theorem deqs_refl : ∀ ds : List D, plains ds = true → deqs ds ds = true
  | [], _ => by simp [deqs]
  | d :: ds, h => by
    rw [plains, Bool.and_eq_true] at h
    rw [deqs, deq_refl d h.1, deqs_refl ds h.2]
    rfl
end
theorem ixN_ok {n : Nat} {i : Int} (h0 : 0 ≤ i) (h1 : i < n) : ixN n i = some i.toNat := by
  unfold ixN
  rw [if_pos h0, if_pos h1]
theorem atD_map {α β : Type} (f : α → β) (xs : List α) (i : Int) : atD (xs.map f) i = (atD xs i).map f := by
  unfold atD
  rw [List.length_map]
  cases ixN xs.length i with
  | none => rfl
  | some j => simp
theorem atD_ok {α : Type} {xs : List α} {i : Int} (h0 : 0 ≤ i) (h1 : i < xs.length) : ∃ x, x ∈ xs ∧ atD xs i = some x := by
  unfold atD
  rw [ixN_ok h0 h1]
  have hl : i.toNat < xs.length := by omega
  exact ⟨xs[i.toNat], List.getElem_mem hl, by simp [hl]⟩
theorem ix_lst {ds : List D} {i : Int} {d : D} (h : atD ds i = some d) : ixD (.lst ds) (.int i) = .ok d := by simp [ixD, h]
theorem ix_tup {ds : List D} {i : Int} {d : D} (h : atD ds i = some d) : ixD (.tup ds) (.int i) = .ok d := by simp [ixD, h]
theorem ix_str {l : List Nat} {i : Int} {c : Nat} (h : atD l i = some c) : ixD (.str l) (.int i) = .ok (.str [c]) := by simp [ixD, h]
theorem at0 {α : Type} (x : α) (xs : List α) : atD (x :: xs) 0 = some x := by simp [atD, ixN]
theorem at1 {α : Type} (x y : α) (xs : List α) : atD (x :: y :: xs) 1 = some y := by
  unfold atD
  rw [ixN_ok (by decide) (by simp only [List.length_cons]; omega)]
  rfl
/-- a comprehension, item by item -/
theorem lcD_map {T : Tg} {t : Tv} {e : Xv} {env : En} (p : D → Bool) (f : D → D) : ∀ xs : List D, (∀ x ∈ xs, ∃ env2, stT T x env = some env2 ∧ t env2 = .ok (p x) ∧ (p x = true → e env2 = .ok (f x))) → lcD T t e env xs = .ok ((xs.filter p).map f)
  | [], _ => rfl
  | x :: xs, h => by
    obtain ⟨env2, h1, h2, h3⟩ := h x List.mem_cons_self
    have ih := lcD_map p f xs fun y hy => h y (List.mem_cons_of_mem _ hy)
    unfold lcD
    rw [h1]
    dsimp only
    rw [h2]
    cases q : p x with
    | true =>
      simp only [Res.calm, Res.bind, if_true]
      rw [h3 q]
      simp only [Res.calm]
      rw [ih]
      simp [List.filter_cons, q]
    | false =>
      simp only [Res.calm, Res.bind, Bool.false_eq_true, if_false]
      rw [ih]
      simp [List.filter_cons, q]
/-- a loop that goes on to its end -/
theorem forD_rel {α : Type} (I : α → En → Prop) (step : α → D → α) {T : Tg} {b : Sv} : ∀ (xs : List D) (a : α) (env : En), I a env →
    (∀ a env x, x ∈ xs → I a env → ∃ env2, stT T x env = some env2 ∧ ∃ env3, (b env2 = .nx env3 ∨ b env2 = .cont env3) ∧ I (step a x) env3) → ∃ env', forD T b xs env = .nx env' ∧ I (xs.foldl step a) env'
  | [], a, env, h, _ => ⟨env, rfl, h⟩
  | x :: xs, a, env, h, hs => by
    obtain ⟨env2, h1, env3, h2, h3⟩ := hs a env x List.mem_cons_self h
    obtain ⟨env', h4, h5⟩ := forD_rel I step xs (step a x) env3 h3 fun a env y hy => hs a env y (List.mem_cons_of_mem _ hy)
    refine ⟨env', ?_, h5⟩
    unfold forD
    rw [h1]
    dsimp only
    rcases h2 with h2 | h2 <;> rw [h2] <;> exact h4
theorem asBs_map : ∀ bs : List Bool, asBs (bs.map D.bl) = some bs
  | [] => rfl
  | b :: bs => by simp [asBs, asBs_map bs]
theorem all_bls (bs : List Bool) : allD (.lst (bs.map D.bl)) = .ok (.bl (bs.all id)) := by simp [allD, asBs_map]
theorem any_bls (bs : List Bool) : anyD (.lst (bs.map D.bl)) = .ok (.bl (bs.any id)) := by simp [anyD, asBs_map]
def ch (c : Nat) : D := .str [c]
def prs (p q : List Nat) : List (Nat × Nat) := p.zip q
theorem zip_strs (p q : List Nat) : zipD (.str p) (.str q) = .ok ((p.zip q).map fun x => .tup [ch x.1, ch x.2]) := by
  show Res.ok (zipW _ _) = _
  unfold zipW
  rw [List.zipWith_map_left, List.zipWith_map_right]
  simp [List.zip, List.map_zipWith, ch]
/-- do two signs agree -/
def ag (c d : Nat) : Bool := c == d || c == 120 || d == 120
def agB (p q : List Nat) : Bool := p.length == q.length && (p.zip q).all fun x => ag x.1 x.2
theorem lcD_mapS {α : Type} {T : Tg} {t : Tv} {e : Xv} {env : En} (g : α → D) (p : α → Bool) (f : α → D) (xs : List α) (h : ∀ x ∈ xs, ∃ env2, stT T (g x) env = some env2 ∧ t env2 = .ok (p x) ∧ (p x = true → e env2 = .ok (f x))) : lcD T t e env (xs.map g) = .ok ((xs.filter p).map f) := by
  induction xs with
  | nil => rfl
  | cons x xs ih =>
    obtain ⟨env2, h1, h2, h3⟩ := h x List.mem_cons_self
    have ih := ih fun y hy => h y (List.mem_cons_of_mem _ hy)
    rw [List.map_cons]
    unfold lcD
    rw [h1]
    dsimp only
    rw [h2]
    cases q : p x with
    | true =>
      simp only [Res.calm, Res.bind, if_true]
      rw [h3 q]
      simp only [Res.calm]
      rw [ih]
      simp [List.filter_cons, q]
    | false =>
      simp only [Res.calm, Res.bind, Bool.false_eq_true, if_false]
      rw [ih]
      simp [List.filter_cons, q]
/-! ### evaluation, where an environment is given -/
section
variable (env : En)
@[simp] theorem v_rdV (i : Nat) : rdV i env = (match gt env i with | some (.fz d) => .ok d | _ => .bad) := id rfl
@[simp] theorem v_rdB (i : Nat) : rdB i env = (match gt env i with | some (.fz d) => .ok d | some (.ow d) => .ok d | none => .bad) := id rfl
@[simp] theorem v_xC (d : D) : xC d env = .ok d := id rfl
@[simp] theorem v_xU (f : D → Res D) (a : Xv) : xU f a env = (a env).bind fun x => (f x).calm := id rfl
@[simp] theorem v_xOp (f : D → D → Res D) (a b : Xv) : xOp f a b env = (a env).bind fun x => (b env).bind fun y => (f x y).calm := id rfl
@[simp] theorem v_xChain (f g : D → D → Res D) (a b c : Xv) : xChain f g a b c env = (a env).bind fun x => (b env).bind fun y => (f x y).calm.bind fun z => (asB z).bind fun k => if k = true then (c env).bind fun w => (g y w).calm else .ok (.bl false) := id rfl
@[simp] theorem v_xAnd (a b : Xv) : xAnd a b env = (a env).bind fun x => (asB x).bind fun c => if c = true then b env else .ok (.bl false) := id rfl
@[simp] theorem v_xOr (a b : Xv) : xOr a b env = (a env).bind fun x => (asB x).bind fun c => if c = true then .ok (.bl true) else b env := id rfl
@[simp] theorem v_xNot (a : Xv) : xNot a env = (a env).bind fun x => (asB x).bind fun c => .ok (.bl (!c)) := id rfl
@[simp] theorem v_xIf (t : Tv) (a b : Xv) : xIf t a b env = (t env).bind fun x => if x = true then a env else b env := id rfl
@[simp] theorem v_tVal (a : Xv) : tVal a env = (a env).bind asB := id rfl
@[simp] theorem v_tNt (t : Tv) : tNt t env = (t env).bind fun b => .ok (!b) := id rfl
@[simp] theorem v_tAn (t u : Tv) : tAn t u env = (t env).bind fun x => if x = true then u env else .ok false := id rfl
@[simp] theorem v_tOr (t u : Tv) : tOr' t u env = (t env).bind fun x => if x = true then .ok true else u env := id rfl
@[simp] theorem v_tYs : tYs env = .ok true := id rfl
@[simp] theorem v_aNil : aNil env = .ok [] := id rfl
@[simp] theorem v_aCons (a : Xv) (r : Av) : aCons a r env = (a env).bind fun x => (r env).bind fun xs => .ok (x :: xs) := id rfl
@[simp] theorem v_xTup (a : Av) : xTup a env = (a env).bind fun xs => if xs.length ≤ LIM then .ok (.tup xs) else .bad := id rfl
@[simp] theorem v_xLst (a : Av) : xLst a env = (a env).bind fun xs => if xs.length ≤ LIM then .ok (.lst xs) else .bad := id rfl
@[simp] theorem v_xCall (f : List D → Res D) (a : Av) : xCall f a env = (a env).bind f := id rfl
@[simp] theorem v_xSl (a : Xv) (lo hi : Option Xv) : xSl a lo hi env = (a env).bind fun x => (oI lo env).bind fun l => (oI hi env).bind fun h => (slD l h x).calm := id rfl
@[simp] theorem v_oIn : oI none env = .ok none := id rfl
@[simp] theorem v_oIs (a : Xv) : oI (some a) env = (a env).bind fun d => (asI d).bind fun i => .ok (some i) := id rfl
@[simp] theorem v_iAny (a : Xv) : iAny a env = (a env).bind itD := id rfl
@[simp] theorem v_iR1 (a : Xv) : iR1 a env = (a env).bind rng1 := id rfl
@[simp] theorem v_iR2 (a b : Xv) : iR2 a b env = (a env).bind fun x => (b env).bind fun y => rng2 x y := id rfl
@[simp] theorem v_iZip (a b : Xv) : iZip a b env = (a env).bind fun x => (b env).bind fun y => zipD x y := id rfl
@[simp] theorem v_iEnum (a : Xv) : iEnum a env = (a env).bind fun x => (zpD x).bind fun xs => .ok (enumD 0 xs) := id rfl
@[simp] theorem v_iSeq (a : Xv) : iSeq a env = (a env).bind zpD := id rfl
@[simp] theorem v_sNil : sNil env = .nx env := id rfl
@[simp] theorem v_sSeq (s r : Sv) : sSeq s r env = (match s env with | .nx env' => r env' | f => f) := id rfl
@[simp] theorem v_sExpr (a : Xv) : sExpr a env = (a env).fl env fun _ => .nx env := id rfl
@[simp] theorem v_sRet (a : Xv) : sRet a env = (a env).fl env fun d => .ret d := id rfl
@[simp] theorem v_sIf (t : Tv) (s r : Sv) : sIf t s r env = (t env).fl env fun b => if b = true then s env else r env := id rfl
@[simp] theorem v_sAsg (T : Tg) (a : Xv) : sAsg T a env = (a env).fl env fun d => match stT T d env with | some env' => .nx env' | none => .bad := id rfl
@[simp] theorem v_sRaise (c : String) : sRaise c env = .exc c env := id rfl
@[simp] theorem v_sCont : sCont env = .cont env := id rfl
@[simp] theorem v_sBrk : sBrk env = .brk env := id rfl
@[simp] theorem v_oNil : oNil env = .ok [] := id rfl
@[simp] theorem v_oF (a : Xv) (r : Ov) : oF a r env = (a env).bind fun x => (r env).bind fun xs => .ok (.fz x :: xs) := id rfl
@[simp] theorem v_oL (a : Av) (r : Ov) : oL a r env = (a env).bind fun xs => if xs.length ≤ LIM then (r env).bind fun ss => .ok (.ow (.lst xs) :: ss) else .bad := id rfl
@[simp] theorem v_oD (r : Ov) : oD r env = (r env).bind fun ss => .ok (.ow (.dic []) :: ss) := id rfl
@[simp] theorem v_sOwn (is : List Nat) (o : Ov) : sOwn is o env = (o env).fl env fun ss => match ptSl is ss env with | some env' => .nx env' | none => .bad := id rfl
@[simp] theorem v_sApp (i : Nat) (a : Xv) : sApp i a env = (match gt env i with | some (.ow (.lst ds)) => (a env).fl env fun d => if ds.length < LIM then .nx (pt env i (some (.ow (.lst (ds ++ [d]))))) else .bad | _ => .bad) := id rfl
@[simp] theorem v_sFrz (i : Nat) (s : Sv) : sFrz i s env = s (frz i env) := id rfl
@[simp] theorem v_sFor (T : Tg) (iv : Av) (b : Sv) : sFor T iv b env = (iv env).fl env fun xs => forD T b xs env := id rfl
@[simp] theorem v_sWh (fu : En → Nat) (t : Tv) (b : Sv) : sWh fu t b env = whD t b (fu env) env := id rfl
@[simp] theorem v_ok {α β : Type} (a : α) (f : α → Res β) : Res.bind (.ok a) f = f a := id rfl
@[simp] theorem v_bad {α β : Type} (f : α → Res β) : Res.bind .bad f = .bad := id rfl
@[simp] theorem v_exc {α β : Type} (c : String) (f : α → Res β) : Res.bind (.exc c) f = .exc c := id rfl
@[simp] theorem v_cok {α : Type} (a : α) : Res.calm (.ok a) = .ok a := id rfl
@[simp] theorem v_fok {α : Type} (a : α) (f : α → Fl) : Res.fl (.ok a) env f = f a := id rfl
@[simp] theorem v_fexc {α : Type} (c : String) (f : α → Fl) : Res.fl (.exc c) env f = .exc c env := id rfl
@[simp] theorem v_asB (b : Bool) : asB (.bl b) = .ok b := id rfl
@[simp] theorem v_asI (i : Int) : asI (.int i) = .ok i := id rfl
end
@[simp] theorem v_cexc {α : Type} (c : String) : Res.calm (.exc c : Res α) = .bad := id rfl
@[simp] theorem v_cbad {α : Type} : Res.calm (.bad : Res α) = .bad := id rfl
@[simp] theorem v_outr (d : D) : outOf (.ret d) = .ok d := id rfl
@[simp] theorem v_outn (e : En) : outOf (.nx e) = .ok .non := id rfl
@[simp] theorem v_oute (c : String) (e : En) : outOf (.exc c e) = .exc c := id rfl
@[simp] theorem v_LIM : LIM = 16777216 := id rfl
@[simp] theorem v_gt0 (x : Option Sl) (r : En) : gt (x :: r) 0 = x := id rfl
@[simp] theorem v_gtS (x : Option Sl) (r : En) (i : Nat) : gt (x :: r) (i + 1) = gt r i := id rfl
@[simp] theorem v_pt0 (x : Option Sl) (r : En) (s : Option Sl) : pt (x :: r) 0 s = s :: r := id rfl
@[simp] theorem v_ptS (x : Option Sl) (r : En) (i : Nat) (s : Option Sl) : pt (x :: r) (i + 1) s = x :: pt r i s := id rfl
@[simp] theorem v_stn (i : Nat) (d : D) (env : En) : stT (.nm i) d env = some (pt env i (some (.fz d))) := id rfl
@[simp] theorem v_stt (is : List Nat) (ds : List D) (env : En) : stT (.tp is) (.tup ds) env = ptAll is ds env := id rfl
@[simp] theorem v_pa0 (env : En) : ptAll [] [] env = some env := id rfl
@[simp] theorem v_paS (i : Nat) (is : List Nat) (d : D) (ds : List D) (env : En) : ptAll (i :: is) (d :: ds) env = ptAll is ds (pt env i (some (.fz d))) := id rfl
@[simp] theorem v_ps0 (env : En) : ptSl [] [] env = some env := id rfl
@[simp] theorem v_psS (i : Nat) (is : List Nat) (d : Sl) (ds : List Sl) (env : En) : ptSl (i :: is) (d :: ds) env = ptSl is ds (pt env i (some d)) := id rfl
@[simp] theorem v_wi0 (env : En) : wipeE env [] = env := id rfl
@[simp] theorem v_wiS (env : En) (v : Nat) (vs : List Nat) : wipeE env (v :: vs) = pt (wipeE env vs) v none := id rfl
@[simp] theorem v_frz (i : Nat) (env : En) : frz i env = (match gt env i with | some (.ow d) => pt env i (some (.fz d)) | _ => env) := id rfl
@[simp] theorem v_addI (i j : Int) : addD (.int i) (.int j) = .ok (.int (i + j)) := id rfl
@[simp] theorem v_addS (a b : List Nat) : addD (.str a) (.str b) = (if a.length + b.length ≤ LIM then .ok (.str (a ++ b)) else .bad) := id rfl
@[simp] theorem v_addL (a b : List D) : addD (.lst a) (.lst b) = (if a.length + b.length ≤ LIM then .ok (.lst (a ++ b)) else .bad) := id rfl
@[simp] theorem v_addT (a b : List D) : addD (.tup a) (.tup b) = (if a.length + b.length ≤ LIM then .ok (.tup (a ++ b)) else .bad) := id rfl
@[simp] theorem v_subI (i j : Int) : subD (.int i) (.int j) = .ok (.int (i - j)) := id rfl
@[simp] theorem v_mulI (i j : Int) : mulD (.int i) (.int j) = (if (-(2 ^ 64) < i ∧ i < 2 ^ 64) ∨ (-(2 ^ 64) < j ∧ j < 2 ^ 64) then .ok (.int (i * j)) else .bad) := id rfl
@[simp] theorem v_mulS (a : List Nat) (j : Int) : mulD (.str a) (.int j) = (if 0 ≤ j ∧ a.length * j.toNat ≤ LIM ∧ j ≤ LIM then .ok (.str (List.replicate j.toNat a).flatten) else .bad) := id rfl
@[simp] theorem v_mulL (a : List D) (j : Int) : mulD (.lst a) (.int j) = (if -(2 ^ 63) ≤ j ∧ j < 2 ^ 63 ∧ a.length * j.toNat ≤ LIM then .ok (.lst (List.replicate j.toNat a).flatten) else .bad) := id rfl
@[simp] theorem v_fdivI (i j : Int) : fdivD (.int i) (.int j) = (if 0 < j ∧ j < 2 ^ 64 then .ok (.int (i / j)) else .bad) := id rfl
@[simp] theorem v_modI (i j : Int) : modD (.int i) (.int j) = (if 0 < j then .ok (.int (i % j)) else .bad) := id rfl
@[simp] theorem v_powI (i j : Int) : powD (.int i) (.int j) = (if 0 ≤ j ∧ j ≤ 1000000 ∧ i.natAbs < 2 ^ 64 then .ok (.int (i ^ j.toNat)) else .bad) := id rfl
@[simp] theorem v_leI (i j : Int) : leD (.int i) (.int j) = .ok (.bl (decide (i ≤ j))) := id rfl
@[simp] theorem v_gtI (i j : Int) : gtD (.int i) (.int j) = .ok (.bl (decide (j < i))) := id rfl
@[simp] theorem v_geI (i j : Int) : geD (.int i) (.int j) = .ok (.bl (decide (j ≤ i))) := id rfl
@[simp] theorem v_isB (a b : Bool) : isD (.bl a) (.bl b) = .ok (.bl (decide (a = b))) := id rfl
@[simp] theorem v_isnB (a b : Bool) : isnD (.bl a) (.bl b) = .ok (.bl (!decide (a = b))) := id rfl
@[simp] theorem v_isiD (T : Ty) (d : D) : isiD T d = (match isiB T d with | some b => .ok (.bl b) | none => .bad) := id rfl
@[simp] theorem v_intI (i : Int) : intD (.int i) = .ok (.int i) := id rfl
@[simp] theorem v_tupL (ds : List D) : tupD (.lst ds) = .ok (.tup ds) := id rfl
@[simp] theorem v_tupT (ds : List D) : tupD (.tup ds) = .ok (.tup ds) := id rfl
@[simp] theorem v_iint_non  : isiB .int .non = some false := id rfl
@[simp] theorem v_iint_bl (b : Bool) : isiB .int (.bl b) = some true := id rfl
@[simp] theorem v_iint_int (i : Int) : isiB .int (.int i) = some true := id rfl
@[simp] theorem v_iint_str (l : List Nat) : isiB .int (.str l) = some false := id rfl
@[simp] theorem v_iint_tup (l : List D) : isiB .int (.tup l) = some false := id rfl
@[simp] theorem v_iint_lst (l : List D) : isiB .int (.lst l) = some false := id rfl
@[simp] theorem v_iint_dic (l : List (List Nat × D)) : isiB .int (.dic l) = some false := id rfl
@[simp] theorem v_ibool_non  : isiB .bool .non = some false := id rfl
@[simp] theorem v_ibool_bl (b : Bool) : isiB .bool (.bl b) = some true := id rfl
@[simp] theorem v_ibool_int (i : Int) : isiB .bool (.int i) = some false := id rfl
@[simp] theorem v_ibool_str (l : List Nat) : isiB .bool (.str l) = some false := id rfl
@[simp] theorem v_ibool_tup (l : List D) : isiB .bool (.tup l) = some false := id rfl
@[simp] theorem v_ibool_lst (l : List D) : isiB .bool (.lst l) = some false := id rfl
@[simp] theorem v_ibool_dic (l : List (List Nat × D)) : isiB .bool (.dic l) = some false := id rfl
@[simp] theorem v_istr_non  : isiB .str .non = some false := id rfl
@[simp] theorem v_istr_bl (b : Bool) : isiB .str (.bl b) = some false := id rfl
@[simp] theorem v_istr_int (i : Int) : isiB .str (.int i) = some false := id rfl
@[simp] theorem v_istr_str (l : List Nat) : isiB .str (.str l) = some true := id rfl
@[simp] theorem v_istr_tup (l : List D) : isiB .str (.tup l) = some false := id rfl
@[simp] theorem v_istr_lst (l : List D) : isiB .str (.lst l) = some false := id rfl
@[simp] theorem v_istr_dic (l : List (List Nat × D)) : isiB .str (.dic l) = some false := id rfl
@[simp] theorem v_ituple_non  : isiB .tuple .non = some false := id rfl
@[simp] theorem v_ituple_bl (b : Bool) : isiB .tuple (.bl b) = some false := id rfl
@[simp] theorem v_ituple_int (i : Int) : isiB .tuple (.int i) = some false := id rfl
@[simp] theorem v_ituple_str (l : List Nat) : isiB .tuple (.str l) = some false := id rfl
@[simp] theorem v_ituple_tup (l : List D) : isiB .tuple (.tup l) = some true := id rfl
@[simp] theorem v_ituple_lst (l : List D) : isiB .tuple (.lst l) = some false := id rfl
@[simp] theorem v_ituple_dic (l : List (List Nat × D)) : isiB .tuple (.dic l) = some false := id rfl
@[simp] theorem v_ilist_non  : isiB .list .non = some false := id rfl
@[simp] theorem v_ilist_bl (b : Bool) : isiB .list (.bl b) = some false := id rfl
@[simp] theorem v_ilist_int (i : Int) : isiB .list (.int i) = some false := id rfl
@[simp] theorem v_ilist_str (l : List Nat) : isiB .list (.str l) = some false := id rfl
@[simp] theorem v_ilist_tup (l : List D) : isiB .list (.tup l) = some false := id rfl
@[simp] theorem v_ilist_lst (l : List D) : isiB .list (.lst l) = some true := id rfl
@[simp] theorem v_ilist_dic (l : List (List Nat × D)) : isiB .list (.dic l) = some false := id rfl
theorem xLc_ok {α : Type} {T : Tg} {own : List Nat} {iv : Av} {t : Tv} {e : Xv} {env : En} (g : α → D) (p : α → Bool) (f : α → D) (xs : List α) (hi : iv env = .ok (xs.map g)) (h : ∀ x ∈ xs, ∃ env2, stT T (g x) (wipeE env own) = some env2 ∧ t env2 = .ok (p x) ∧ (p x = true → e env2 = .ok (f x))) :
    xLc T own iv t e env = .ok (.lst ((xs.filter p).map f)) := by
  unfold xLc
  rw [hi]
  show (lcD T t e (wipeE env own) (xs.map g)).bind _ = _
  rw [lcD_mapS g p f xs h]
  rfl
theorem xLc_map {α : Type} {T : Tg} {own : List Nat} {iv : Av} {e : Xv} {env : En} (g : α → D) (f : α → D) (xs : List α) (hi : iv env = .ok (xs.map g)) (h : ∀ x ∈ xs, ∃ env2, stT T (g x) (wipeE env own) = some env2 ∧ e env2 = .ok (f x)) :
    xLc T own iv tYs e env = .ok (.lst (xs.map f)) := by
  rw [xLc_ok g (fun _ => true) f xs hi fun x hx => by
    obtain ⟨env2, h1, h2⟩ := h x hx
    exact ⟨env2, h1, rfl, fun _ => h2⟩]
  rw [List.filter_eq_self.mpr fun _ _ => rfl]
end Pv

namespace Pv.W54
def excs : List String := ["DialError", "InvalidPlan", "InvalidRow", "InvalidKind", "TooLarge", "OtherSize", "InvalidLength"]
def isa (c d : String) : Bool := (c == "DialError" && ["DialError"].contains d) || (c == "InvalidPlan" && ["InvalidPlan", "DialError"].contains d) || (c == "InvalidRow" && ["InvalidRow", "DialError"].contains d) || (c == "InvalidKind" && ["InvalidKind", "DialError"].contains d) || (c == "TooLarge" && ["TooLarge", "DialError"].contains d) || (c == "OtherSize" && ["OtherSize", "DialError"].contains d) || (c == "InvalidLength" && ["InvalidLength", "DialError"].contains d)
def catE (c : String) : Option Bool := if c ∈ excs then some (isa c "DialError") else none
def b1__law_owners : Sv :=
  (sExt 6 (xLc (.nm 8) [8] (iSeq (xIf (tVal (xOp eqD (rdB 5) (xC (.str [120])))) (xSl (xC (.str [48, 49, 50, 51, 52, 53])) none (some (xOp ixD (rdB 0) (xC (.int 0))))) (rdV 5))) tYs (xOp addD (rdB 7) (rdB 8))))
def q2__law_owners : Sv :=
  (sFor (.nm 7) (iSeq (rdV 4)) b1__law_owners)
def b3__law_owners : Sv :=
  (sSeq (sOwn [6] (oL aNil oNil))
  (sSeq q2__law_owners
  (sFrz 6 (sAsg (.nm 4) (rdV 6)))))
def q4__law_owners : Sv :=
  (sFor (.nm 5) (iSeq (rdV 2)) b3__law_owners)
def b5__law_owners : Sv :=
  (sPut 1 (rdV 9) (rdV 3))
def q6__law_owners : Sv :=
  (sFor (.nm 9) (iSeq (rdV 4)) b5__law_owners)
def b7__law_owners : Sv :=
  (sSeq (sAsg (.nm 4) (xLst (aCons (xC (.str [])) aNil)))
  (sSeq q4__law_owners
  q6__law_owners))
def q8__law_owners : Sv :=
  (sFor (.tp [2, 3]) (iSeq (xOp ixD (rdB 0) (xC (.int 1)))) b7__law_owners)
def sv__law_owners : Sv :=
  (sSeq (sOwn [1] (oD oNil))
  (sSeq q8__law_owners
  (sFrz 1 (sRet (rdV 1)))))
def Fn__law_owners : List D → Res D := mkFn 1 10 sv__law_owners
def q1__law_reach : Sv :=
  (sIf (tVal (xOp eqD (xLc (.nm 3) [3] (iKeys (rdV 0)) (tAn (tVal (xOp gtD (xU lenD (rdB 3)) (rdB 2))) (tVal (xOp eqD (xSl (rdB 3) none (some (rdV 2))) (xSl (rdB 1) none (some (rdV 2)))))) (rdV 3)) (xLst aNil))) (sRet (xIf (tVal (xOp inD (xSl (rdB 1) none (some (rdV 2))) (rdB 0))) (xSl (rdB 1) none (some (rdV 2))) (xC .non))) sNil)
def b2__law_reach : Sv :=
  q1__law_reach
def q3__law_reach : Sv :=
  (sFor (.nm 2) (iR2 (xC (.int 1)) (xOp addD (xU lenD (rdB 1)) (xC (.int 1)))) b2__law_reach)
def sv__law_reach : Sv :=
  (sSeq q3__law_reach
  (sRet (xIf (tVal (xOp inD (rdB 1) (rdB 0))) (rdV 1) (xC .non))))
def Fn__law_reach : List D → Res D := mkFn 2 4 sv__law_reach
def q1__law_first : Sv :=
  (sIf (tVal (xOp neD (xM isDic get1N (rdB 3) (xCall Fn__law_reach (aCons (rdV 3) (aCons (rdV 5) aNil)))) (xM isDic get1N (rdB 4) (xCall Fn__law_reach (aCons (rdV 4) (aCons (rdV 5) aNil)))))) (sRet (rdV 5)) sNil)
def b2__law_first : Sv :=
  q1__law_first
def q3__law_first : Sv :=
  (sFor (.nm 5) (iSeq (rdV 2)) b2__law_first)
def sv__law_first : Sv :=
  (sSeq (sOwn [3, 4] (oF (xCall Fn__law_owners (aCons (rdV 0) aNil)) (oF (xCall Fn__law_owners (aCons (rdV 1) aNil)) oNil)))
  (sSeq q3__law_first
  (sRet (xC .non))))
def Fn__law_first : List D → Res D := mkFn 3 6 sv__law_first
def b1__law_pick : Sv :=
  (sOwn [4, 5] (oF (xOp fdivD (rdB 4) (xC (.int 840))) (oF (xOp subD (rdB 5) (xC (.int 1))) oNil)))
def q2__law_pick : Sv :=
  (sWh (fuel 5) (tAn (tVal (xOp gtD (rdB 4) (xC (.int 0)))) (tVal (xOp gtD (rdB 5) (xC (.int 0))))) b1__law_pick)
def q3__law_pick : Sv :=
  (sIf (tVal (xOp gtD (rdB 4) (xC (.int 0)))) (sRet (xOp modD (xU intD (xOp modD (xU intD (rdB 4)) (xC (.int 840)))) (rdB 2))) sNil)
def sv__law_pick : Sv :=
  (sSeq (sAsg (.nm 3) (xIf (tVal (xOp neD (rdB 0) (xLst aNil))) (xOp ixD (rdB 0) (xOp modD (xU intD (rdB 1)) (xU lenD (rdB 0)))) (xC (.int 0))))
  (sSeq (sOwn [4, 5] (oF (xOp fdivD (rdB 3) (xOp powD (xC (.int 10)) (xC (.int 18)))) (oF (xOp fdivD (rdB 1) (xOp max2D (xU lenD (rdB 0)) (xC (.int 1)))) oNil)))
  (sSeq q2__law_pick
  (sSeq q3__law_pick
  (sSeq (sAsg (.nm 6) (xOp modD (xU intD (xOp mulD (xOp addD (xOp mulD (rdB 3) (xC (.int 31))) (xOp mulD (xC (.int 6151)) (xOp addD (rdB 1) (xC (.int 1))))) (xC (.int 40692)))) (xC (.int 2147483399))))
  (sRet (xOp modD (xU intD (xOp modD (xU intD (xOp addD (xOp mulD (rdB 6) (rdB 6)) (xOp fdivD (rdB 6) (xC (.int 31))))) (xC (.int 2147483629)))) (rdB 2))))))))
def Fn__law_pick : List D → Res D := mkFn 3 7 sv__law_pick
def q1__law_agree : Sv :=
  (sIf (tVal (xOp neD (xU lenD (rdB 0)) (xU lenD (rdB 1)))) (sRet (xC (.bl false))) sNil)
def sv__law_agree : Sv :=
  (sSeq q1__law_agree
  (sRet (xOp eqD (xLc (.tp [2, 3]) [2, 3] (iZip (rdV 0) (rdV 1)) (tAn (tVal (xOp neD (rdB 2) (rdB 3))) (tAn (tVal (xOp neD (rdB 2) (xC (.str [120])))) (tVal (xOp neD (rdB 3) (xC (.str [120])))))) (xC (.int 1))) (xLst aNil))))
def Fn__law_agree : List D → Res D := mkFn 2 4 sv__law_agree
def q1__law_plan : Sv :=
  (sIf (tVal (xOp eqD (xLc (.nm 10) [10] (iSeq (rdB 3)) (tVal (xCall Fn__law_agree (aCons (xOp ixD (rdB 10) (xC (.int 0))) (aCons (rdV 7) aNil)))) (rdV 10)) (xLst aNil))) (sApp 3 (xTup (aCons (rdV 7) (aCons (rdV 9) aNil)))) sNil)
def b2__law_plan : Sv :=
  (sSeq (sAsg (.nm 5) (xOp addD (xC (.int 1)) (xCall Fn__law_pick (aCons (rdV 0) (aCons (xOp addD (xOp addD (rdB 1) (xC (.int 2))) (xOp mulD (xC (.int 8)) (rdB 4))) (aCons (xC (.int 3)) aNil))))))
  (sSeq (sAsg (.nm 6) (xOp addD (xOp mulD (xSl (xC (.str [48, 49, 50])) none (some (rdV 2))) (xC (.int 2))) (xC (.str [120]))))
  (sSeq (sAsg (.nm 7) (xM isStr joinD (xC (.str [])) (xLc (.nm 8) [8] (iR1 (rdV 5)) tYs (xOp ixD (rdB 6) (xCall Fn__law_pick (aCons (rdV 0) (aCons (xOp addD (xOp addD (xOp addD (rdB 1) (xC (.int 3))) (xOp mulD (xC (.int 8)) (rdB 4))) (rdB 8)) (aCons (xU lenD (rdB 6)) aNil))))))))
  (sSeq (sAsg (.nm 9) (xOp ixD (xC (.str [97, 98, 99])) (xCall Fn__law_pick (aCons (rdV 0) (aCons (xOp addD (xOp addD (rdB 1) (xC (.int 7))) (xOp mulD (xC (.int 8)) (rdB 4))) (aCons (xC (.int 3)) aNil))))))
  q1__law_plan))))
def q3__law_plan : Sv :=
  (sFor (.nm 4) (iR1 (xOp addD (xC (.int 1)) (xCall Fn__law_pick (aCons (rdV 0) (aCons (xOp addD (rdB 1) (xC (.int 1))) (aCons (xC (.int 6)) aNil)))))) b2__law_plan)
def sv__law_plan : Sv :=
  (sSeq (sOwn [2, 3] (oF (xOp addD (xC (.int 2)) (xCall Fn__law_pick (aCons (rdV 0) (aCons (rdV 1) (aCons (xC (.int 2)) aNil))))) (oL aNil oNil)))
  (sSeq q3__law_plan
  (sRet (xTup (aCons (rdV 2) (aCons (xU tupD (xU sortD (rdB 3))) aNil))))))
def Fn__law_plan : List D → Res D := mkFn 2 11 sv__law_plan
def q1_agree : Sv :=
  (sIf (tVal (xOp neD (xU lenD (rdB 0)) (xU lenD (rdB 1)))) (sRet (xC (.bl false))) sNil)
def sv_agree : Sv :=
  (sSeq q1_agree
  (sRet (xU allD (xLc (.tp [2, 3]) [2, 3] (iZip (rdV 0) (rdV 1)) tYs (xOr (xOp eqD (rdB 2) (rdB 3)) (xOp inD (xC (.str [120])) (xTup (aCons (rdV 2) (aCons (rdV 3) aNil)))))))))
def Fn_agree : List D → Res D := mkFn 2 4 sv_agree
def q1_are_apart : Sv :=
  (sIf (tVal (xU anyD (xLc (.nm 3) [3] (iSeq (xSl (rdB 0) (some (xOp addD (rdB 1) (xC (.int 1)))) none)) tYs (xCall Fn_agree (aCons (xOp ixD (rdB 2) (xC (.int 0))) (aCons (xOp ixD (rdB 3) (xC (.int 0))) aNil)))))) (sRet (xC (.bl false))) sNil)
def b2_are_apart : Sv :=
  q1_are_apart
def q3_are_apart : Sv :=
  (sFor (.tp [1, 2]) (iEnum (rdV 0)) b2_are_apart)
def sv_are_apart : Sv :=
  (sSeq q3_are_apart
  (sRet (xC (.bl true))))
def Fn_are_apart : List D → Res D := mkFn 1 4 sv_are_apart
def sv_is_int : Sv :=
  (sRet (xAnd (xU (isiD .int) (rdB 0)) (xAnd (xNot (xU (isiD .bool) (rdB 0))) (xChain leD leD (rdB 1) (rdB 0) (rdB 2)))))
def Fn_is_int : List D → Res D := mkFn 3 3 sv_is_int
def b1_count_numbers : Sv :=
  (sAsg (.nm 5) (xOp mulD (rdB 5) (xIf (tVal (xOp eqD (rdB 6) (xC (.str [120])))) (rdV 0) (xC (.int 1)))))
def q2_count_numbers : Sv :=
  (sFor (.nm 6) (iSeq (rdV 3)) b1_count_numbers)
def b3_count_numbers : Sv :=
  (sSeq (sAsg (.nm 5) (xC (.int 1)))
  (sSeq q2_count_numbers
  (sAsg (.nm 2) (xOp addD (rdB 2) (rdB 5)))))
def q4_count_numbers : Sv :=
  (sFor (.tp [3, 4]) (iSeq (rdV 1)) b3_count_numbers)
def sv_count_numbers : Sv :=
  (sSeq (sAsg (.nm 2) (xC (.int 0)))
  (sSeq q4_count_numbers
  (sRet (rdV 2))))
def Fn_count_numbers : List D → Res D := mkFn 2 7 sv_count_numbers
def sv_is_word : Sv :=
  (sRet (xAnd (xU (isiD .str) (rdB 0)) (xAnd (xChain leD leD (rdB 2) (xU lenD (rdB 0)) (rdB 3)) (xU allD (xLc (.nm 4) [4] (iSeq (rdB 0)) tYs (xOp inD (rdB 4) (rdB 1)))))))
def Fn_is_word : List D → Res D := mkFn 4 5 sv_is_word
def q1_is_entry : Sv :=
  (sIf (tOr' (tNt (tVal (xU (isiD .tuple) (rdB 1)))) (tVal (xOp neD (xU lenD (rdB 1)) (xC (.int 2))))) (sRet (xC (.bl false))) sNil)
def sv_is_entry : Sv :=
  (sSeq q1_is_entry
  (sRet (xAnd (xCall Fn_is_word (aCons (xOp ixD (rdB 1) (xC (.int 0))) (aCons (xOp addD (xSl (xC (.str [48, 49, 50, 51, 52, 53])) none (some (rdV 0))) (xC (.str [120]))) (aCons (xC (.int 1)) (aCons (xC (.int 6)) aNil))))) (xCall Fn_is_word (aCons (xOp ixD (rdB 1) (xC (.int 1))) (aCons (xC (.str [97, 98, 99, 100, 101, 102, 103, 104, 105, 106, 107, 108, 109, 110, 111, 112, 113, 114, 115, 116, 117, 118, 119, 120, 121, 122])) (aCons (xC (.int 1)) (aCons (xC (.int 3)) aNil))))))))
def Fn_is_entry : List D → Res D := mkFn 2 2 sv_is_entry
def q1_is_plan : Sv :=
  (sIf (tOr' (tNt (tVal (xU (isiD .tuple) (rdB 0)))) (tOr' (tVal (xOp neD (xU lenD (rdB 0)) (xC (.int 2)))) (tNt (tVal (xCall Fn_is_int (aCons (xOp ixD (rdB 0) (xC (.int 0))) (aCons (xC (.int 2)) (aCons (xC (.int 6)) aNil)))))))) (sRet (xC (.bl false))) sNil)
def q2_is_plan : Sv :=
  (sIf (tOr' (tNt (tVal (xU (isiD .tuple) (rdB 2)))) (tNt (tVal (xChain leD leD (xC (.int 1)) (xU lenD (rdB 2)) (xC (.int 8)))))) (sRet (xC (.bl false))) sNil)
def q3_is_plan : Sv :=
  (sIf (tNt (tVal (xU allD (xLc (.nm 3) [3] (iSeq (rdB 2)) tYs (xCall Fn_is_entry (aCons (rdV 1) (aCons (rdV 3) aNil))))))) (sRet (xC (.bl false))) sNil)
def q4_is_plan : Sv :=
  (sIf (tNt (tVal (xU allD (xLc (.tp [4, 5]) [4, 5] (iZip (rdV 2) (xSl (rdB 2) (some (xC (.int 1))) none)) tYs (xOp ltD (rdB 4) (rdB 5)))))) (sRet (xC (.bl false))) sNil)
def sv_is_plan : Sv :=
  (sSeq q1_is_plan
  (sSeq (sAsg (.tp [1, 2]) (rdV 0))
  (sSeq q2_is_plan
  (sSeq q3_is_plan
  (sSeq q4_is_plan
  (sRet (xAnd (xCall Fn_are_apart (aCons (rdV 2) aNil)) (xOp leD (xCall Fn_count_numbers (aCons (rdV 1) (aCons (rdV 2) aNil))) (xC (.int 200))))))))))
def Fn_is_plan : List D → Res D := mkFn 1 6 sv_is_plan
def q1_check_plan : Sv :=
  (sIf (tNt (tVal (xCall Fn_is_plan (aCons (rdV 0) aNil)))) (sRaise "InvalidPlan") sNil)
def sv_check_plan : Sv :=
  q1_check_plan
def Fn_check_plan : List D → Res D := mkFn 1 1 sv_check_plan
def sv_digits_of : Sv :=
  (sRet (xSl (xC (.str [48, 49, 50, 51, 52, 53])) none (some (xOp ixD (rdB 0) (xC (.int 0))))))
def Fn_digits_of : List D → Res D := mkFn 1 1 sv_digits_of
def sv_has_row : Sv :=
  (sRet (xCall Fn_is_word (aCons (rdV 1) (aCons (xCall Fn_digits_of (aCons (rdV 0) aNil)) (aCons (xC (.int 0)) (aCons (xC (.int 12)) aNil))))))
def Fn_has_row : List D → Res D := mkFn 2 2 sv_has_row
def q1_check_row : Sv :=
  (sIf (tNt (tVal (xCall Fn_has_row (aCons (rdV 0) (aCons (rdV 1) aNil))))) (sRaise "InvalidRow") sNil)
def sv_check_row : Sv :=
  (sSeq (sExpr (xCall Fn_check_plan (aCons (rdV 0) aNil)))
  q1_check_row)
def Fn_check_row : List D → Res D := mkFn 2 2 sv_check_row
def q1_listed_reached : Sv :=
  (sIf (tVal (xOp eqD (rdB 4) (xLst aNil))) (sRet (xIf (tVal (xOp inD (rdB 3) (rdB 0))) (rdV 3) (xC .non))) sNil)
def b2_listed_reached : Sv :=
  (sSeq (sAsg (.nm 3) (xSl (rdB 1) none (some (rdV 2))))
  (sSeq (sAsg (.nm 4) (xLc (.nm 5) [5] (iKeys (rdV 0)) (tAn (tVal (xOp gtD (xU lenD (rdB 5)) (rdB 2))) (tVal (xOp eqD (xSl (rdB 5) none (some (rdV 2))) (rdB 3)))) (rdV 5)))
  q1_listed_reached))
def q3_listed_reached : Sv :=
  (sFor (.nm 2) (iR2 (xC (.int 1)) (xOp addD (xU lenD (rdB 1)) (xC (.int 1)))) b2_listed_reached)
def sv_listed_reached : Sv :=
  (sSeq q3_listed_reached
  (sRet (xIf (tVal (xOp inD (rdB 1) (rdB 0))) (rdV 1) (xC .non))))
def Fn_listed_reached : List D → Res D := mkFn 2 6 sv_listed_reached
def b1_numbers_of : Sv :=
  (sExt 4 (xLc (.nm 6) [6] (iSeq (xIf (tVal (xOp eqD (rdB 3) (xC (.str [120])))) (xCall Fn_digits_of (aCons (rdV 0) aNil)) (rdV 3))) tYs (xOp addD (rdB 5) (rdB 6))))
def q2_numbers_of : Sv :=
  (sFor (.nm 5) (iSeq (rdV 2)) b1_numbers_of)
def b3_numbers_of : Sv :=
  (sSeq (sOwn [4] (oL aNil oNil))
  (sSeq q2_numbers_of
  (sFrz 4 (sAsg (.nm 2) (rdV 4)))))
def q4_numbers_of : Sv :=
  (sFor (.nm 3) (iSeq (rdV 1)) b3_numbers_of)
def sv_numbers_of : Sv :=
  (sSeq (sAsg (.nm 2) (xLst (aCons (xC (.str [])) aNil)))
  (sSeq q4_numbers_of
  (sRet (rdV 2))))
def Fn_numbers_of : List D → Res D := mkFn 2 7 sv_numbers_of
def b1_find_holders : Sv :=
  (sPut 1 (rdV 4) (rdV 3))
def q2_find_holders : Sv :=
  (sFor (.nm 4) (iSeq (xCall Fn_numbers_of (aCons (rdV 0) (aCons (rdV 2) aNil)))) b1_find_holders)
def b3_find_holders : Sv :=
  q2_find_holders
def q4_find_holders : Sv :=
  (sFor (.tp [2, 3]) (iSeq (xOp ixD (rdB 0) (xC (.int 1)))) b3_find_holders)
def sv_find_holders : Sv :=
  (sSeq (sOwn [1] (oD oNil))
  (sSeq q4_find_holders
  (sFrz 1 (sRet (rdV 1)))))
def Fn_find_holders : List D → Res D := mkFn 1 5 sv_find_holders
def sv_naive_reached : Sv :=
  (sSeq (sExpr (xCall Fn_check_row (aCons (rdV 0) (aCons (rdV 1) aNil))))
  (sRet (xCall Fn_listed_reached (aCons (xCall Fn_find_holders (aCons (rdV 0) aNil)) (aCons (rdV 1) aNil)))))
def Fn_naive_reached : List D → Res D := mkFn 2 2 sv_naive_reached
def q1_read : Sv :=
  (sIf (tVal (xOp ninD (rdB 5) (rdB 3))) (sRet (xTup (aCons (xIf (tVal (xOp inD (rdB 5) (rdB 2))) (rdV 5) (xC .non)) (aCons (rdV 4) aNil)))) sNil)
def b2_read : Sv :=
  (sSeq (sAsg (.nm 5) (xSl (rdB 1) none (some (rdV 4))))
  q1_read)
def q3_read : Sv :=
  (sFor (.nm 4) (iR2 (xC (.int 1)) (xOp addD (xU lenD (rdB 1)) (xC (.int 1)))) b2_read)
def sv_read : Sv :=
  (sSeq (sAsg (.tp [2, 3]) (rdV 0))
  (sSeq q3_read
  (sRet (xTup (aCons (xIf (tVal (xOp inD (rdB 1) (rdB 2))) (rdV 1) (xC .non)) (aCons (xU lenD (rdB 1)) aNil))))))
def Fn_read : List D → Res D := mkFn 2 6 sv_read
def b1_find_beginnings : Sv :=
  (sPut 1 (xSl (rdB 2) none (some (rdV 3))) (xC (.bl true)))
def q2_find_beginnings : Sv :=
  (sFor (.nm 3) (iR1 (xU lenD (rdB 2))) b1_find_beginnings)
def b3_find_beginnings : Sv :=
  q2_find_beginnings
def q4_find_beginnings : Sv :=
  (sForD (.nm 2) (rdV 0) b3_find_beginnings)
def sv_find_beginnings : Sv :=
  (sSeq (sOwn [1] (oDK [((xC (.str [])), (xC (.bl true)))] oNil))
  (sSeq q4_find_beginnings
  (sFrz 1 (sRet (rdV 1)))))
def Fn_find_beginnings : List D → Res D := mkFn 1 4 sv_find_beginnings
def sv_find_index : Sv :=
  (sSeq (sAsg (.nm 1) (xCall Fn_find_holders (aCons (rdV 0) aNil)))
  (sRet (xTup (aCons (rdV 1) (aCons (xCall Fn_find_beginnings (aCons (rdV 1) aNil)) aNil)))))
def Fn_find_index : List D → Res D := mkFn 1 2 sv_find_index
def sv_reached : Sv :=
  (sSeq (sExpr (xCall Fn_check_row (aCons (rdV 0) (aCons (rdV 1) aNil))))
  (sRet (xOp ixD (xCall Fn_read (aCons (xCall Fn_find_index (aCons (rdV 0) aNil)) (aCons (rdV 1) aNil))) (xC (.int 0)))))
def Fn_reached : List D → Res D := mkFn 2 2 sv_reached
def b1_all_left : Sv :=
  (sUpd 1 (xLc (.nm 3) [3] (iSeq (xU lisK (rdB 1))) tYs (xTup (aCons (xOp addD (rdB 3) (rdB 2)) (aCons (xC (.bl true)) aNil)))))
def q2_all_left : Sv :=
  (sFor (.nm 2) (iSeq (rdV 0)) b1_all_left)
def sv_all_left : Sv :=
  (sSeq (sOwn [1] (oDK [((xC (.str [])), (xC (.bl true)))] oNil))
  (sSeq q2_all_left
  (sFrz 1 (sRet (rdV 1)))))
def Fn_all_left : List D → Res D := mkFn 1 4 sv_all_left
def sv_naive_hearing : Sv :=
  (sSeq (sExpr (xCall Fn_check_row (aCons (rdV 0) (aCons (rdV 1) aNil))))
  (sRet (xU sortD (xLc (.nm 2) [2] (iKeys (xCall Fn_find_holders (aCons (rdV 0) aNil))) (tVal (xOp inD (rdB 1) (xCall Fn_all_left (aCons (rdV 2) aNil)))) (rdV 2)))))
def Fn_naive_hearing : List D → Res D := mkFn 2 3 sv_naive_hearing
def q1_is_left : Sv :=
  (sIf (tAn (tVal (xOp ltD (rdB 2) (xU lenD (rdB 0)))) (tVal (xOp eqD (xOp ixD (rdB 0) (rdB 2)) (rdB 3)))) (sAsg (.nm 2) (xOp addD (rdB 2) (xC (.int 1)))) sNil)
def b2_is_left : Sv :=
  q1_is_left
def q3_is_left : Sv :=
  (sFor (.nm 3) (iSeq (rdV 1)) b2_is_left)
def sv_is_left : Sv :=
  (sSeq (sAsg (.nm 2) (xC (.int 0)))
  (sSeq q3_is_left
  (sRet (xOp eqD (rdB 2) (xU lenD (rdB 0))))))
def Fn_is_left : List D → Res D := mkFn 2 4 sv_is_left
def sv_find_hearing : Sv :=
  (sRet (xU dctD (xLc (.nm 2) [2] (iKeys (rdV 0)) (tVal (xCall Fn_is_left (aCons (rdV 1) (aCons (rdV 2) aNil)))) (xTup (aCons (rdV 2) (aCons (xOp ixD (rdB 0) (rdB 2)) aNil))))))
def Fn_find_hearing : List D → Res D := mkFn 2 3 sv_find_hearing
def sv_hearing : Sv :=
  (sSeq (sExpr (xCall Fn_check_row (aCons (rdV 0) (aCons (rdV 1) aNil))))
  (sRet (xU sortD (xCall Fn_find_hearing (aCons (xCall Fn_find_holders (aCons (rdV 0) aNil)) (aCons (rdV 1) aNil))))))
def Fn_hearing : List D → Res D := mkFn 2 2 sv_hearing
def q1__law_heard (R : List D → Res D) : Sv :=
  (sIf (tVal (xOp eqD (rdB 1) (xC (.str [])))) (sRet (xC (.bl true))) sNil)
def sv__law_heard (R : List D → Res D) : Sv :=
  (sSeq (q1__law_heard R)
  (sSeq (sAsg (.nm 2) (xLc (.nm 3) [3] (iR1 (xU lenD (rdB 0))) (tVal (xOp eqD (xOp ixD (rdB 0) (rdB 3)) (xOp ixD (rdB 1) (xC (.int 0))))) (rdV 3)))
  (sRet (xOp neD (xLc (.nm 3) [3] (iSeq (rdB 2)) (tVal (xCall R (aCons (xSl (rdB 0) (some (xOp addD (rdB 3) (xC (.int 1)))) none) (aCons (xSl (rdB 1) (some (xC (.int 1))) none) aNil)))) (rdV 3)) (xLst aNil)))))
def FnR__law_heard : Nat → List D → Res D
  | 0 => mkFn 2 4 fun _ => .bad
  | n + 1 => mkFn 2 4 (sv__law_heard (FnR__law_heard n))
def Fn__law_heard : List D → Res D := FnR__law_heard 8
def q1__law_is_listed : Sv :=
  (sIf (tOr' (tVal (xOp neD (xCall Fn_naive_reached (aCons (rdV 0) (aCons (rdV 3) aNil))) (rdB 4))) (tVal (xOp neD (xCall Fn_reached (aCons (rdV 0) (aCons (rdV 3) aNil))) (rdB 4)))) (sRet (xC (.bl false))) sNil)
def q2__law_is_listed : Sv :=
  (sIf (tOr' (tVal (xOp neD (xCall Fn_naive_hearing (aCons (rdV 0) (aCons (rdV 3) aNil))) (rdB 5))) (tVal (xOp neD (xCall Fn_hearing (aCons (rdV 0) (aCons (rdV 3) aNil))) (rdB 5)))) (sRet (xC (.bl false))) sNil)
def b3__law_is_listed : Sv :=
  (sSeq (sAsg (.nm 4) (xCall Fn__law_reach (aCons (rdV 1) (aCons (rdV 3) aNil))))
  (sSeq q1__law_is_listed
  (sSeq (sAsg (.nm 5) (xU sortD (xLc (.nm 6) [6] (iKeys (rdV 1)) (tVal (xCall Fn__law_heard (aCons (rdV 6) (aCons (rdV 3) aNil)))) (rdV 6))))
  q2__law_is_listed)))
def q4__law_is_listed : Sv :=
  (sFor (.nm 3) (iSeq (rdV 2)) b3__law_is_listed)
def sv__law_is_listed : Sv :=
  (sSeq q4__law_is_listed
  (sRet (xC (.bl true))))
def Fn__law_is_listed : List D → Res D := mkFn 3 7 sv__law_is_listed
def q1__law_slips : Sv :=
  (sIf (tAn (tVal (xOp eqD (rdB 2) (xC (.str [115, 119, 97, 112])))) (tAn (tVal (xOp gtD (rdB 5) (xC (.int 0)))) (tVal (xOp neD (xOp ixD (rdB 1) (rdB 5)) (xOp ixD (rdB 1) (xOp subD (rdB 5) (xC (.int 1)))))))) (sSeq (sAsg (.nm 7) (xOp addD (xOp ixD (rdB 1) (rdB 5)) (xOp ixD (rdB 1) (xOp subD (rdB 5) (xC (.int 1))))))
  (sApp 3 (xOp addD (xOp addD (xSl (rdB 1) none (some (xOp subD (rdB 5) (xC (.int 1))))) (rdB 7)) (xSl (rdB 1) (some (xOp addD (rdB 5) (xC (.int 1)))) none)))) sNil)
def b2__law_slips : Sv :=
  (sSeq (sExt 3 (xLc (.nm 6) [6] (iSeq (rdB 4)) (tAn (tVal (xOp eqD (rdB 2) (xC (.str [119, 114, 111, 110, 103])))) (tVal (xOp neD (rdB 6) (xOp ixD (rdB 1) (rdB 5))))) (xOp addD (xOp addD (xSl (rdB 1) none (some (rdV 5))) (rdB 6)) (xSl (rdB 1) (some (xOp addD (rdB 5) (xC (.int 1)))) none))))
  (sSeq (sExt 3 (xIf (tVal (xOp eqD (rdB 2) (xC (.str [108, 111, 115, 116])))) (xLst (aCons (xOp addD (xSl (rdB 1) none (some (rdV 5))) (xSl (rdB 1) (some (xOp addD (rdB 5) (xC (.int 1)))) none)) aNil)) (xLst aNil)))
  (sSeq (sExt 3 (xIf (tVal (xOp eqD (rdB 2) (xC (.str [116, 119, 105, 99, 101])))) (xLst (aCons (xOp addD (xSl (rdB 1) none (some (xOp addD (rdB 5) (xC (.int 1))))) (xSl (rdB 1) (some (rdV 5)) none)) aNil)) (xLst aNil)))
  q1__law_slips)))
def q3__law_slips : Sv :=
  (sFor (.nm 5) (iR1 (xU lenD (rdB 1))) b2__law_slips)
def sv__law_slips : Sv :=
  (sSeq (sOwn [3, 4] (oL aNil (oF (xSl (xC (.str [48, 49, 50, 51, 52, 53])) none (some (xOp ixD (rdB 0) (xC (.int 0))))) oNil)))
  (sSeq q3__law_slips
  (sRet (xU ssetD (rdB 3)))))
def Fn__law_slips : List D → Res D := mkFn 3 8 sv__law_slips
def q1_check_both : Sv :=
  (sIf (tVal (xOp neD (xOp ixD (rdB 0) (xC (.int 0))) (xOp ixD (rdB 1) (xC (.int 0))))) (sRaise "OtherSize") sNil)
def sv_check_both : Sv :=
  (sSeq (sExpr (xCall Fn_check_plan (aCons (rdV 0) aNil)))
  (sSeq (sExpr (xCall Fn_check_plan (aCons (rdV 1) aNil)))
  q1_check_both))
def Fn_check_both : List D → Res D := mkFn 2 2 sv_check_both
def q1_check_length : Sv :=
  (sIf (tNt (tVal (xCall Fn_is_int (aCons (rdV 1) (aCons (xC (.int 0)) (aCons (xC (.int 6)) aNil)))))) (sRaise "InvalidLength") sNil)
def b2_check_length : Sv :=
  (sAsg (.nm 2) (xOp mulD (rdB 2) (xOp ixD (rdB 0) (xC (.int 0)))))
def q3_check_length : Sv :=
  (sFor (.nm 3) (iR1 (rdV 1)) b2_check_length)
def q4_check_length : Sv :=
  (sIf (tVal (xOp gtD (rdB 2) (xC (.int 800)))) (sRaise "TooLarge") sNil)
def sv_check_length : Sv :=
  (sSeq q1_check_length
  (sSeq (sAsg (.nm 2) (xC (.int 1)))
  (sSeq q3_check_length
  q4_check_length)))
def Fn_check_length : List D → Res D := mkFn 2 4 sv_check_length
def b1_find_rows : Sv :=
  (sExt 4 (xLc (.nm 6) [6] (iSeq (xCall Fn_digits_of (aCons (rdV 0) aNil))) tYs (xOp addD (rdB 5) (rdB 6))))
def q2_find_rows : Sv :=
  (sFor (.nm 5) (iSeq (rdV 2)) b1_find_rows)
def b3_find_rows : Sv :=
  (sSeq (sOwn [4] (oL aNil oNil))
  (sSeq q2_find_rows
  (sFrz 4 (sAsg (.nm 2) (rdV 4)))))
def q4_find_rows : Sv :=
  (sFor (.nm 3) (iR1 (rdV 1)) b3_find_rows)
def sv_find_rows : Sv :=
  (sSeq (sAsg (.nm 2) (xLst (aCons (xC (.str [])) aNil)))
  (sSeq q4_find_rows
  (sRet (rdV 2))))
def Fn_find_rows : List D → Res D := mkFn 2 7 sv_find_rows
def q1_naive_parting : Sv :=
  (sIf (tVal (xOp neD (xM isDic get1N (rdB 3) (rdV 7)) (xM isDic get1N (rdB 4) (rdV 8)))) (sRet (rdV 6)) sNil)
def b2_naive_parting : Sv :=
  (sSeq (sOwn [7, 8] (oF (xCall Fn_listed_reached (aCons (rdV 3) (aCons (rdV 6) aNil))) (oF (xCall Fn_listed_reached (aCons (rdV 4) (aCons (rdV 6) aNil))) oNil)))
  q1_naive_parting)
def q3_naive_parting : Sv :=
  (sFor (.nm 6) (iSeq (xCall Fn_find_rows (aCons (rdV 0) (aCons (rdV 5) aNil)))) b2_naive_parting)
def b4_naive_parting : Sv :=
  q3_naive_parting
def q5_naive_parting : Sv :=
  (sFor (.nm 5) (iR1 (xOp addD (rdB 2) (xC (.int 1)))) b4_naive_parting)
def sv_naive_parting : Sv :=
  (sSeq (sExpr (xCall Fn_check_both (aCons (rdV 0) (aCons (rdV 1) aNil))))
  (sSeq (sExpr (xCall Fn_check_length (aCons (rdV 0) (aCons (rdV 2) aNil))))
  (sSeq (sOwn [3, 4] (oF (xCall Fn_find_holders (aCons (rdV 0) aNil)) (oF (xCall Fn_find_holders (aCons (rdV 1) aNil)) oNil)))
  (sSeq q5_naive_parting
  (sRet (xC .non))))))
def Fn_naive_parting : List D → Res D := mkFn 3 9 sv_naive_parting
def sv_all_rows : Sv :=
  (sSeq (sExpr (xCall Fn_check_plan (aCons (rdV 0) aNil)))
  (sSeq (sExpr (xCall Fn_check_length (aCons (rdV 0) (aCons (rdV 1) aNil))))
  (sRet (xCall Fn_find_rows (aCons (rdV 0) (aCons (rdV 1) aNil))))))
def Fn_all_rows : List D → Res D := mkFn 2 2 sv_all_rows
def q1_check_kind : Sv :=
  (sIf (tOr' (tNt (tVal (xU (isiD .str) (rdB 0)))) (tVal (xOp ninD (rdB 0) (xC (.tup [.str [108, 111, 115, 116], .str [115, 119, 97, 112], .str [116, 119, 105, 99, 101], .str [119, 114, 111, 110, 103]]))))) (sRaise "InvalidKind") sNil)
def sv_check_kind : Sv :=
  q1_check_kind
def Fn_check_kind : List D → Res D := mkFn 1 1 sv_check_kind
def b1_wrong_rows : Sv :=
  (sExt 2 (xLc (.nm 5) [5] (iSeq (rdB 1)) (tVal (xOp neD (rdB 5) (rdB 4))) (xOp addD (xOp addD (xSl (rdB 0) none (some (rdV 3))) (rdB 5)) (xSl (rdB 0) (some (xOp addD (rdB 3) (xC (.int 1)))) none))))
def q2_wrong_rows : Sv :=
  (sFor (.tp [3, 4]) (iEnum (rdV 0)) b1_wrong_rows)
def sv_wrong_rows : Sv :=
  (sSeq (sOwn [2] (oL aNil oNil))
  (sSeq q2_wrong_rows
  (sFrz 2 (sRet (rdV 2)))))
def Fn_wrong_rows : List D → Res D := mkFn 2 6 sv_wrong_rows
def q1_swapped_rows : Sv :=
  (sIf (tVal (xOp neD (rdB 3) (rdB 4))) (sApp 1 (xOp addD (xOp addD (xOp addD (xSl (rdB 0) none (some (rdV 2))) (rdB 4)) (rdB 3)) (xSl (rdB 0) (some (xOp addD (rdB 2) (xC (.int 2)))) none))) sNil)
def b2_swapped_rows : Sv :=
  (sSeq (sOwn [3, 4] (oF (xOp ixD (rdB 0) (rdB 2)) (oF (xOp ixD (rdB 0) (xOp addD (rdB 2) (xC (.int 1)))) oNil)))
  q1_swapped_rows)
def q3_swapped_rows : Sv :=
  (sFor (.nm 2) (iR1 (xOp subD (xU lenD (rdB 0)) (xC (.int 1)))) b2_swapped_rows)
def sv_swapped_rows : Sv :=
  (sSeq (sOwn [1] (oL aNil oNil))
  (sSeq q3_swapped_rows
  (sFrz 1 (sRet (rdV 1)))))
def Fn_swapped_rows : List D → Res D := mkFn 1 5 sv_swapped_rows
def q1_find_slips : Sv :=
  (sIf (tVal (xOp eqD (rdB 2) (xC (.str [119, 114, 111, 110, 103])))) (sRet (xU sortD (xCall Fn_wrong_rows (aCons (rdV 1) (aCons (xCall Fn_digits_of (aCons (rdV 0) aNil)) aNil))))) sNil)
def q2_find_slips : Sv :=
  (sIf (tVal (xOp eqD (rdB 2) (xC (.str [115, 119, 97, 112])))) (sRet (xU ssetD (xCall Fn_swapped_rows (aCons (rdV 1) aNil)))) sNil)
def q3_find_slips : Sv :=
  (sIf (tVal (xOp eqD (rdB 2) (xC (.str [108, 111, 115, 116])))) (sRet (xU ssetD (xLc (.nm 4) [4] (iSeq (rdB 3)) tYs (xOp addD (xSl (rdB 1) none (some (rdV 4))) (xSl (rdB 1) (some (xOp addD (rdB 4) (xC (.int 1)))) none))))) sNil)
def sv_find_slips : Sv :=
  (sSeq q1_find_slips
  (sSeq q2_find_slips
  (sSeq (sAsg (.nm 3) (xU lrnD (xU lenD (rdB 1))))
  (sSeq q3_find_slips
  (sRet (xU ssetD (xLc (.nm 4) [4] (iSeq (rdB 3)) tYs (xOp addD (xOp addD (xSl (rdB 1) none (some (rdV 4))) (xOp ixD (rdB 1) (rdB 4))) (xSl (rdB 1) (some (rdV 4)) none)))))))))
def Fn_find_slips : List D → Res D := mkFn 3 5 sv_find_slips
def q1_naive_strays : Sv :=
  (sIf (tAn (tVal (xOp isnD (rdB 6) (xC .non))) (tVal (xOp neD (xOp ixD (rdB 2) (rdB 6)) (xOp ixD (rdB 2) (rdB 4))))) (sApp 3 (xTup (aCons (rdV 4) (aCons (rdV 5) (aCons (rdV 6) aNil))))) sNil)
def b2_naive_strays : Sv :=
  (sSeq (sAsg (.nm 6) (xCall Fn_listed_reached (aCons (rdV 2) (aCons (rdV 5) aNil))))
  q1_naive_strays)
def q3_naive_strays : Sv :=
  (sFor (.nm 5) (iSeq (xCall Fn_find_slips (aCons (rdV 0) (aCons (rdV 4) (aCons (rdV 1) aNil))))) b2_naive_strays)
def b4_naive_strays : Sv :=
  q3_naive_strays
def q5_naive_strays : Sv :=
  (sForD (.nm 4) (rdV 2) b4_naive_strays)
def sv_naive_strays : Sv :=
  (sSeq (sExpr (xCall Fn_check_plan (aCons (rdV 0) aNil)))
  (sSeq (sExpr (xCall Fn_check_kind (aCons (rdV 1) aNil)))
  (sSeq (sOwn [2, 3] (oF (xCall Fn_find_holders (aCons (rdV 0) aNil)) (oL aNil oNil)))
  (sSeq q5_naive_strays
  (sRet (xU sortD (rdB 3)))))))
def Fn_naive_strays : List D → Res D := mkFn 2 7 sv_naive_strays
def q1_find_fate : Sv :=
  (sIf (tVal (xOp isD (rdB 3) (xC .non))) (sRet (xC (.str [110, 111, 116, 105, 99, 101, 100]))) sNil)
def sv_find_fate : Sv :=
  (sSeq (sAsg (.nm 3) (xOp ixD (xCall Fn_read (aCons (rdV 0) (aCons (rdV 2) aNil))) (xC (.int 0))))
  (sSeq q1_find_fate
  (sRet (xIf (tVal (xOp eqD (xOp ixD (xOp ixD (rdB 0) (xC (.int 0))) (rdB 3)) (xOp ixD (xOp ixD (rdB 0) (xC (.int 0))) (rdB 1)))) (xC (.str [115, 97, 109, 101])) (xC (.str [97, 115, 116, 114, 97, 121]))))))
def Fn_find_fate : List D → Res D := mkFn 3 4 sv_find_fate
def q1_find_strays : Sv :=
  (sIf (tVal (xOp eqD (xCall Fn_find_fate (aCons (rdV 2) (aCons (rdV 4) (aCons (rdV 5) aNil)))) (xC (.str [97, 115, 116, 114, 97, 121])))) (sApp 3 (xTup (aCons (rdV 4) (aCons (rdV 5) (aCons (xOp ixD (xCall Fn_read (aCons (rdV 2) (aCons (rdV 5) aNil))) (xC (.int 0))) aNil))))) sNil)
def b2_find_strays : Sv :=
  q1_find_strays
def q3_find_strays : Sv :=
  (sFor (.nm 5) (iSeq (xCall Fn_find_slips (aCons (rdV 0) (aCons (rdV 4) (aCons (rdV 1) aNil))))) b2_find_strays)
def b4_find_strays : Sv :=
  q3_find_strays
def q5_find_strays : Sv :=
  (sFor (.nm 4) (iSeq (xU sortD (xOp ixD (rdB 2) (xC (.int 0))))) b4_find_strays)
def sv_find_strays : Sv :=
  (sSeq (sOwn [2, 3] (oF (xCall Fn_find_index (aCons (rdV 0) aNil)) (oL aNil oNil)))
  (sSeq q5_find_strays
  (sFrz 3 (sRet (rdV 3)))))
def Fn_find_strays : List D → Res D := mkFn 2 6 sv_find_strays
def sv_strays : Sv :=
  (sSeq (sExpr (xCall Fn_check_plan (aCons (rdV 0) aNil)))
  (sSeq (sExpr (xCall Fn_check_kind (aCons (rdV 1) aNil)))
  (sRet (xCall Fn_find_strays (aCons (rdV 0) (aCons (rdV 1) aNil))))))
def Fn_strays : List D → Res D := mkFn 2 2 sv_strays
def b1_open_rows : Sv :=
  (sExt 8 (xLc (.nm 9) [9] (iSeq (xCall Fn_digits_of (aCons (rdV 0) aNil))) tYs (xOp addD (rdB 7) (rdB 9))))
def q2_open_rows : Sv :=
  (sFor (.nm 7) (iSeq (rdV 5)) b1_open_rows)
def b3_open_rows : Sv :=
  (sSeq (sAsg (.nm 5) (xLc (.nm 7) [7] (iSeq (rdB 5)) (tOr' (tVal (xOp inD (rdB 7) (xOp ixD (rdB 2) (xC (.int 1))))) (tVal (xOp inD (rdB 7) (xOp ixD (rdB 3) (xC (.int 1)))))) (rdV 7)))
  (sSeq (sOwn [8] (oL aNil oNil))
  (sSeq q2_open_rows
  (sSeq (sFrz 8 (sApp 4 (rdV 8)))
  (sFrz 8 (sAsg (.nm 5) (rdV 8)))))))
def q4_open_rows : Sv :=
  (sFor (.nm 6) (iR1 (xC (.int 6))) b3_open_rows)
def sv_open_rows : Sv :=
  (sSeq (sOwn [2, 3] (oF (xCall Fn_find_index (aCons (rdV 0) aNil)) (oF (xCall Fn_find_index (aCons (rdV 1) aNil)) oNil)))
  (sSeq (sOwn [4, 5] (oL aNil (oF (xLst (aCons (xC (.str [])) aNil)) oNil)))
  (sSeq q4_open_rows
  (sFrz 4 (sRet (rdV 4))))))
def Fn_open_rows : List D → Res D := mkFn 2 10 sv_open_rows
def sv_holder_reached : Sv :=
  (sSeq (sAsg (.nm 2) (xOp ixD (xCall Fn_read (aCons (rdV 0) (aCons (rdV 1) aNil))) (xC (.int 0))))
  (sRet (xIf (tVal (xOp isnD (rdB 2) (xC .non))) (xOp ixD (xOp ixD (rdB 0) (xC (.int 0))) (rdB 2)) (xC .non))))
def Fn_holder_reached : List D → Res D := mkFn 2 3 sv_holder_reached
def b1_find_unlike : Sv :=
  (sExt 4 (xLc (.nm 6) [6] (iSeq (rdB 5)) (tVal (xOp neD (xCall Fn_holder_reached (aCons (rdV 2) (aCons (rdV 6) aNil))) (xCall Fn_holder_reached (aCons (rdV 3) (aCons (rdV 6) aNil))))) (rdV 6)))
def q2_find_unlike : Sv :=
  (sFor (.nm 5) (iSeq (xCall Fn_open_rows (aCons (rdV 0) (aCons (rdV 1) aNil)))) b1_find_unlike)
def sv_find_unlike : Sv :=
  (sSeq (sOwn [2, 3] (oF (xCall Fn_find_index (aCons (rdV 0) aNil)) (oF (xCall Fn_find_index (aCons (rdV 1) aNil)) oNil)))
  (sSeq (sOwn [4] (oL aNil oNil))
  (sSeq q2_find_unlike
  (sFrz 4 (sRet (rdV 4))))))
def Fn_find_unlike : List D → Res D := mkFn 2 7 sv_find_unlike
def sv_parting_row : Sv :=
  (sSeq (sExpr (xCall Fn_check_both (aCons (rdV 0) (aCons (rdV 1) aNil))))
  (sSeq (sAsg (.nm 2) (xCall Fn_find_unlike (aCons (rdV 0) (aCons (rdV 1) aNil))))
  (sRet (xIf (tVal (xOp neD (rdB 2) (xLst aNil))) (xOp ixD (rdB 2) (xC (.int 0))) (xC .non)))))
def Fn_parting_row : List D → Res D := mkFn 2 3 sv_parting_row
def sv__law_row : Sv :=
  (sRet (xM isStr joinD (xC (.str [])) (xLc (.nm 4) [4] (iR1 (rdV 3)) tYs (xOp ixD (xC (.str [48, 49, 50, 51, 52, 53])) (xCall Fn__law_pick (aCons (rdV 0) (aCons (xOp addD (rdB 1) (rdB 4)) (aCons (xOp ixD (rdB 2) (xC (.int 0))) aNil))))))))
def Fn__law_row : List D → Res D := mkFn 4 5 sv__law_row
def b1_law : Sv :=
  (sExt 8 (xLc (.nm 10) [10] (iSeq (xSl (xC (.str [48, 49, 50, 51, 52, 53])) none (some (xOp ixD (rdB 2) (xC (.int 0)))))) tYs (xOp addD (rdB 9) (rdB 10))))
def q2_law : Sv :=
  (sFor (.nm 9) (iSeq (rdV 5)) b1_law)
def q3_law : Sv :=
  (sIf (tVal (xOp neD (xCall Fn_all_rows (aCons (rdV 2) (aCons (rdV 7) aNil))) (rdB 5))) (sRet (xC (.bl false))) sNil)
def b4_law : Sv :=
  (sSeq (sOwn [8] (oL aNil oNil))
  (sSeq q2_law
  (sSeq (sFrz 8 (sOwn [5, 6] (oF (rdV 8) (oF (xOp addD (rdB 6) (rdB 8)) oNil))))
  q3_law)))
def q5_law : Sv :=
  (sFor (.nm 7) (iR2 (xC (.int 1)) (xC (.int 5))) b4_law)
def q6_law : Sv :=
  (sIf (tNt (tVal (xCall Fn__law_is_listed (aCons (rdV 2) (aCons (rdV 4) (aCons (xOp addD (xSl (rdB 6) none (some (xC (.int 20)))) (xLst (aCons (xCall Fn__law_row (aCons (rdV 0) (aCons (xOp addD (xOp mulD (xC (.int 130)) (rdB 1)) (xC (.int 121))) (aCons (rdV 2) (aCons (xC (.int 6)) aNil))))) aNil))) aNil)))))) (sRet (xC (.bl false))) sNil)
def b7_law : Sv :=
  (sSeq (sAsg (.nm 14) (xCall Fn__law_reach (aCons (rdV 4) (aCons (rdV 9) aNil))))
  (sExt 12 (xIf (tAn (tVal (xOp isnD (rdB 14) (xC .non))) (tVal (xOp neD (xOp ixD (rdB 4) (rdB 14)) (xOp ixD (rdB 4) (rdB 13))))) (xLst (aCons (xTup (aCons (rdV 13) (aCons (rdV 9) (aCons (rdV 14) aNil)))) aNil)) (xLst aNil))))
def q8_law : Sv :=
  (sFor (.nm 9) (iSeq (xCall Fn__law_slips (aCons (rdV 2) (aCons (rdV 13) (aCons (rdV 11) aNil))))) b7_law)
def b9_law : Sv :=
  q8_law
def q10_law : Sv :=
  (sForD (.nm 13) (rdV 4) b9_law)
def q11_law : Sv :=
  (sIf (tOr' (tVal (xOp neD (xCall Fn_naive_strays (aCons (rdV 2) (aCons (rdV 11) aNil))) (xU sortD (rdB 12)))) (tVal (xOp neD (xCall Fn_strays (aCons (rdV 2) (aCons (rdV 11) aNil))) (xU sortD (rdB 12))))) (sRet (xC (.bl false))) sNil)
def q12_law : Sv :=
  (sIf (tOr' (tVal (xOp neD (xCall Fn_naive_parting (aCons (rdV 2) (aCons (rdV 3) (aCons (xC (.int 4)) aNil)))) (rdB 16))) (tVal (xOp neD (xCall Fn_parting_row (aCons (rdV 2) (aCons (rdV 3) aNil))) (rdB 16)))) (sRet (xC (.bl false))) sNil)
def b13_law : Sv :=
  (sSeq (sOwn [2, 3] (oF (xCall Fn__law_plan (aCons (rdV 0) (aCons (xOp mulD (xC (.int 130)) (rdB 1)) aNil))) (oF (xCall Fn__law_plan (aCons (rdV 0) (aCons (xOp addD (xOp mulD (xC (.int 130)) (rdB 1)) (xC (.int 60))) aNil))) oNil)))
  (sSeq (sOwn [4, 5, 6] (oF (xCall Fn__law_owners (aCons (rdV 2) aNil)) (oF (xLst (aCons (xC (.str [])) aNil)) (oF (xLst (aCons (xC (.str [])) aNil)) oNil))))
  (sSeq q5_law
  (sSeq q6_law
  (sSeq (sOwn [11, 12] (oF (xOp ixD (xTup (aCons (xC (.str [108, 111, 115, 116])) (aCons (xC (.str [115, 119, 97, 112])) (aCons (xC (.str [116, 119, 105, 99, 101])) (aCons (xC (.str [119, 114, 111, 110, 103])) aNil))))) (xCall Fn__law_pick (aCons (rdV 0) (aCons (xOp addD (xOp mulD (xC (.int 130)) (rdB 1)) (xC (.int 127))) (aCons (xC (.int 4)) aNil))))) (oL aNil oNil)))
  (sSeq q10_law
  (sSeq q11_law
  (sSeq (sAsg (.nm 15) (xOp addD (xSl (xOp ixD (rdB 2) (xC (.int 1))) none (some (xC (.int (-1))))) (xTup (aCons (xTup (aCons (xOp ixD (xOp ixD (xOp ixD (rdB 2) (xC (.int 1))) (xC (.int (-1)))) (xC (.int 0))) (aCons (xC (.str [100])) aNil))) aNil))))
  (sSeq (sAsg (.nm 3) (xTup (aCons (xOp ixD (rdB 2) (xC (.int 0))) (aCons (xIf (tVal (xOp leD (xOp ixD (rdB 3) (xC (.int 0))) (xOp ixD (rdB 2) (xC (.int 0))))) (xOp ixD (rdB 3) (xC (.int 1))) (rdV 15)) aNil))))
  (sSeq (sAsg (.nm 16) (xCall Fn__law_first (aCons (rdV 2) (aCons (rdV 3) (aCons (rdV 6) aNil)))))
  q12_law))))))))))
def q14_law : Sv :=
  (sFor (.nm 1) (iR1 (xC (.int 4))) b13_law)
def q15_law : Sv :=
  (sIf (tVal (xOp neD (xLc (.nm 7) [7] (iR1 (xC (.int 3))) tYs (xCall Fn_naive_parting (aCons (rdV 2) (aCons (rdV 17) (aCons (rdV 7) aNil))))) (xLst (aCons (xC .non) (aCons (xC (.str [50])) (aCons (xC (.str [50])) aNil)))))) (sRet (xC (.bl false))) sNil)
def q16_law : Sv :=
  (sIf (tOr' (tVal (xOp neD (xCall Fn_all_rows (aCons (rdV 2) (aCons (xC (.int 0)) aNil))) (xLst (aCons (xC (.str [])) aNil)))) (tVal (xOp neD (xU lenD (xCall Fn_all_rows (aCons (rdV 2) (aCons (xC (.int 6)) aNil)))) (xC (.int 729))))) (sRet (xC (.bl false))) sNil)
def sv_law : Sv :=
  (sSeq q14_law
  (sSeq (sAsg (.nm 2) (xTup (aCons (xC (.int 3)) (aCons (xTup (aCons (xTup (aCons (xC (.str [48, 120])) (aCons (xC (.str [97])) aNil))) (aCons (xTup (aCons (xC (.str [49, 50])) (aCons (xC (.str [98])) aNil))) (aCons (xTup (aCons (xC (.str [50])) (aCons (xC (.str [99])) aNil))) aNil)))) aNil))))
  (sSeq (sAsg (.nm 17) (xTup (aCons (xC (.int 3)) (aCons (xSl (xOp ixD (rdB 2) (xC (.int 1))) none (some (xC (.int 2)))) aNil))))
  (sSeq q15_law
  (sSeq q16_law
  (sRet (xAnd (xOp eqD (xCall Fn_naive_hearing (aCons (rdV 2) (aCons (xC (.str [50])) aNil))) (xLst (aCons (xC (.str [48, 50])) (aCons (xC (.str [49, 50])) (aCons (xC (.str [50])) aNil))))) (xOp eqD (xCall Fn_naive_reached (aCons (rdV 2) (aCons (xC (.str [50, 48, 49])) aNil))) (xC (.str [50]))))))))))
def Fn_law : List D → Res D := mkFn 1 18 sv_law
end Pv.W54

namespace Pv
theorem sl_tri (a b : List Nat) : a < b ∨ a = b ∨ b < a := by
  by_cases h : a < b
  · exact .inl h
  · by_cases k : b < a
    · exact .inr (.inr k)
    · exact .inr (.inl (List.le_antisymm (List.not_lt.mp k) (List.not_lt.mp h)))
/-- an entry -/
abbrev Ent := List Nat × List Nat
def ent (e : Ent) : D := .tup [.str e.1, .str e.2]
def le2 (a b : Ent) : Bool := dle (ent a) (ent b)
theorem dlt_ent (a b : Ent) : dlt (ent a) (ent b) = decide (a.1 < b.1 ∨ (a.1 = b.1 ∧ a.2 < b.2)) := by
  unfold ent
  simp only [dlt, dlts, deq]
  by_cases h : a.1 = b.1
  · by_cases h2 : a.2 = b.2
    · simp [h, h2, List.lt_irrefl]
    · simp [h, h2, List.lt_irrefl]
  · simp [h]
theorem le2_iff (a b : Ent) : le2 a b = true ↔ ¬ (b.1 < a.1 ∨ (b.1 = a.1 ∧ b.2 < a.2)) := by
  unfold le2 dle
  rw [dlt_ent]
  rw [Bool.not_eq_true', decide_eq_false_iff_not]
theorem le2_total (a b : Ent) : (le2 a b || le2 b a) = true := by
  rw [Bool.or_eq_true, le2_iff, le2_iff]
  by_cases h : b.1 < a.1
  · refine .inr ?_
    rintro (k | ⟨k, _⟩)
    · exact List.lt_irrefl _ (List.lt_trans h k)
    · rw [k] at h; exact List.lt_irrefl _ h
  · by_cases h2 : b.1 = a.1
    · by_cases h3 : b.2 < a.2
      · refine .inr ?_
        rintro (k | ⟨_, k⟩)
        · rw [h2] at k; exact List.lt_irrefl _ k
        · exact List.lt_irrefl _ (List.lt_trans h3 k)
      · refine .inl ?_
        rintro (k | ⟨_, k⟩)
        · exact h k
        · exact h3 k
    · refine .inl ?_
      rintro (k | ⟨k, _⟩)
      · exact h k
      · exact h2 k
theorem le2_trans (a b c : Ent) (h : le2 a b = true) (k : le2 b c = true) : le2 a c = true := by
  rw [le2_iff] at h k ⊢
  rintro (q | ⟨q1, q2⟩)
  · rcases sl_tri b.1 c.1 with z | z | z
    · exact h (.inl (List.lt_trans z q))
    · exact h (.inl (by rw [z]; exact q))
    · exact k (.inl z)
  · rcases sl_tri b.1 c.1 with z | z | z
    · exact h (.inl (by rw [← q1]; exact z))
    · rcases sl_tri b.2 c.2 with y | y | y
      · exact h (.inr ⟨by rw [z, q1], List.lt_trans y q2⟩)
      · exact h (.inr ⟨by rw [z, q1], by rw [y]; exact q2⟩)
      · exact k (.inr ⟨z.symm, y⟩)
    · exact k (.inl z)
def srt2 (es : List Ent) : List Ent := es.mergeSort le2
theorem srt2_perm (es : List Ent) : (srt2 es).Perm es := List.mergeSort_perm es le2
theorem srt2_pw (es : List Ent) : (srt2 es).Pairwise (fun a b => le2 a b = true) := List.pairwise_mergeSort le2_trans le2_total es
theorem plains_map {α : Type} (f : α → D) (h : ∀ a, plain (f a) = true) : ∀ l : List α, plains (l.map f) = true
  | [] => by simp [plains]
  | a :: l => by rw [List.map_cons, plains, h a, plains_map f h l]; rfl
theorem deps_map {α : Type} (f : α → D) {n : Nat} (h : ∀ a, dep (f a) ≤ n) : ∀ l : List α, deps (l.map f) ≤ n
  | [] => by simp [deps]
  | a :: l => by rw [List.map_cons, deps]; exact Nat.max_le.mpr ⟨h a, deps_map f h l⟩
theorem plain_ent (e : Ent) : plain (ent e) = true := by simp [ent, plain, plains]
theorem dep_ent (e : Ent) : dep (ent e) ≤ 1 := by simp [ent, dep, deps]
theorem sort_ents (es : List Ent) : sortD (.lst (es.map ent)) = .ok (.lst ((srt2 es).map ent)) := by
  have ok : srtOk (es.map ent) = true := by
    unfold srtOk
    have a1 : plains (es.map ent) = true := plains_map ent plain_ent es
    have a2 : alkAll (es.map ent) = true := by
      unfold alkAll
      rw [List.all_eq_true]
      intro x hx
      rw [List.all_eq_true]
      intro y hy
      obtain ⟨a, _, rfl⟩ := List.mem_map.mp hx
      obtain ⟨b, _, rfl⟩ := List.mem_map.mp hy
      simp [ent, alk, alks]
    have a3 : deps (es.map ent) ≤ 60 := Nat.le_trans (deps_map ent dep_ent es) (by decide)
    rw [a1, a2, decide_eq_true a3]
    simp [ent]
  show (if srtOk (es.map ent) = true then Res.ok (D.lst ((es.map ent).mergeSort dle)) else Res.bad) = _
  rw [if_pos ok]
  unfold srt2
  rw [← List.map_mergeSort (r := le2) (s := dle) (f := ent) (fun a _ b _ => rfl)]
theorem eq_nil {ds : List D} (h : plains ds = true) : eqD (.lst ds) (.lst []) = .ok (.bl ds.isEmpty) := by
  unfold eqD
  rw [if_pos ⟨by simpa [plain] using h, by simp [plain, plains], by simp [dep, deps]⟩]
  cases ds <;> simp [deq, deqs]
theorem asSs_chs : ∀ cs : List Nat, asSs (cs.map ch) = some (cs.map fun c => [c])
  | [] => rfl
  | c :: cs => by
    rw [List.map_cons]
    unfold ch
    rw [asSs]
    have := asSs_chs cs
    unfold ch at this
    rw [this]
    rfl
theorem joinL_chs : ∀ cs : List Nat, joinL [] (cs.map fun c => [c]) = cs
  | [] => rfl
  | [c] => rfl
  | c :: d :: cs => by
    have := joinL_chs (d :: cs)
    simp only [List.map_cons] at this ⊢
    rw [joinL, this]
    · simp
    · simp
theorem join_chs {cs : List Nat} (h : cs.length ≤ LIM) : joinD (.str []) (.lst (cs.map ch)) = .ok (.str cs) := by
  show (match asSs (cs.map ch) with
    | some ls => if (ls.map List.length).sum + ls.length * ([] : List Nat).length ≤ LIM then Res.ok (D.str (joinL [] ls)) else Res.bad
    | none => Res.bad) = _
  rw [asSs_chs]
  dsimp only
  rw [if_pos, joinL_chs]
  have : ((cs.map fun c => [c]).map List.length).sum = cs.length := by
    rw [List.map_map]
    induction cs with
    | nil => rfl
    | cons c cs ih =>
      have ih := ih (by simp at h ⊢; omega)
      simp at ih ⊢
      omega
  rw [this]
  simpa using h
theorem rng1_ok {n : Nat} (h : n ≤ 1000) : rng1 (.int (n : Int)) = .ok ((List.range n).map fun (i : Nat) => D.int (i : Int)) := by
  simp only [rng1]
  rw [if_pos ⟨by omega, by omega, by simp; omega⟩]
  unfold rngD
  simp
theorem cut_pre {α : Type} (xs : List α) (n : Nat) : cutD xs none (some (n : Int)) = xs.take n := by
  unfold cutD sIx
  simp
  omega
@[simp] theorem v_xM (g : D → Bool) (f : D → D → Res D) (a b : Xv) (env : En) : xM g f a b env = (a env).bind fun x => if g x = true then (b env).bind fun y => (f x y).calm else .bad := id rfl
/-- a loop that goes on to its end, turn by turn -/
theorem forD_cnt {T : Tg} {b : Sv} (xs : List D) (I : Nat → En → Prop) (env : En) (h0 : I 0 env)
    (hs : ∀ j x env, xs[j]? = some x → I j env → ∃ env2, stT T x env = some env2 ∧ ∃ env3, (b env2 = .nx env3 ∨ b env2 = .cont env3) ∧ I (j + 1) env3) : ∃ env', forD T b xs env = .nx env' ∧ I xs.length env' := by
  induction xs generalizing I env with
  | nil => exact ⟨env, rfl, h0⟩
  | cons x xs ih =>
    obtain ⟨env2, h1, env3, h2, h3⟩ := hs 0 x env rfl h0
    obtain ⟨env', h4, h5⟩ := ih (fun j => I (j + 1)) env3 h3 fun j y env e => hs (j + 1) y env (by simpa using e)
    refine ⟨env', ?_, by simpa using h5⟩
    unfold forD
    rw [h1]
    dsimp only
    rcases h2 with h2 | h2 <;> rw [h2] <;> exact h4
theorem forD_fold {α β : Type} {T : Tg} {b : Sv} (g : β → D) (step : α → β → α) (I : α → En → Prop) : ∀ (xs : List β) (a : α) (env : En), I a env →
    (∀ a env x, x ∈ xs → I a env → ∃ env2, stT T (g x) env = some env2 ∧ ∃ env3, b env2 = .nx env3 ∧ I (step a x) env3) → ∃ env', forD T b (xs.map g) env = .nx env' ∧ I (xs.foldl step a) env'
  | [], a, env, h, _ => ⟨env, rfl, h⟩
  | x :: xs, a, env, h, hs => by
    obtain ⟨env2, h1, env3, h2, h3⟩ := hs a env x List.mem_cons_self h
    obtain ⟨env', h4, h5⟩ := forD_fold g step I xs (step a x) env3 h3 fun a env y hy => hs a env y (List.mem_cons_of_mem _ hy)
    refine ⟨env', ?_, h5⟩
    rw [List.map_cons]
    unfold forD
    rw [h1]
    dsimp only
    rw [h2]
    exact h4
@[simp] theorem v_sExt (i : Nat) (a : Xv) (env : En) : sExt i a env = (match gt env i with
  | some (.ow (.lst ds)) => (a env).fl env fun d => match exD d with
    | .ok es => if ds.length + es.length ≤ LIM then .nx (pt env i (some (.ow (.lst (ds ++ es))))) else .bad
    | _ => .bad
  | _ => .bad) := id rfl
@[simp] theorem v_sPut (i : Nat) (kx vx : Xv) (env : En) : sPut i kx vx env = ((vx env).fl env fun v => match gt env i with
  | some (.ow (.dic kvs)) => (kx env).fl env fun k => match k with
    | .str key => if kvs.length < LIM then .nx (pt env i (some (.ow (.dic (putD kvs key v))))) else .bad
    | _ => .bad
  | _ => .bad) := id rfl
/-! ### words by places -/
def ext (ds : List Nat) (some : List (List Nat)) : List (List Nat) := some.flatMap fun s => ds.map fun d => s ++ [d]
theorem ext_snoc (ds : List Nat) (xs : List (List Nat)) (w : List Nat) : ext ds (xs ++ [w]) = ext ds xs ++ ds.map fun d => w ++ [d] := by simp [ext]
theorem ext_len (ds : List Nat) (xs : List (List Nat)) : (ext ds xs).length = xs.length * ds.length := by
  induction xs with
  | nil => simp [ext]
  | cons x xs ih =>
    have : ext ds (x :: xs) = (ds.map fun d => x ++ [d]) ++ ext ds xs := by simp [ext]
    rw [this, List.length_append, ih, List.length_map, List.length_cons, Nat.succ_mul]
    omega
theorem ext_mem {ds : List Nat} {xs : List (List Nat)} {w : List Nat} (h : w ∈ ext ds xs) : ∃ x ∈ xs, ∃ d ∈ ds, w = x ++ [d] := by
  unfold ext at h
  rw [List.mem_flatMap] at h
  obtain ⟨x, hx, h⟩ := h
  obtain ⟨d, hd, rfl⟩ := List.mem_map.mp h
  exact ⟨x, hx, d, hd, rfl⟩
theorem take_snoc {α : Type} {xs : List α} {j : Nat} {x : α} (h : xs[j]? = some x) : xs.take (j + 1) = xs.take j ++ [x] := by
  rw [List.take_add_one, h]
  rfl
theorem put_len (kvs : List (List Nat × D)) (k : List Nat) (v : D) : (putD kvs k v).length ≤ kvs.length + 1 := by
  unfold putD
  split
  · simp
  · simp
end Pv

namespace Pv
/-! ### evaluation of dicts, function values, maxima -/
@[simp] theorem v_iKeys (a : Xv) (env : En) : iKeys a env = (a env).bind fun d => match d with
  | .dic kvs => .ok (kvs.map fun kv => .str kv.1)
  | _ => .bad := id rfl
@[simp] theorem v_sForD (T : Tg) (a : Xv) (b : Sv) (env : En) : sForD T a b env = (iKeys a env).fl env fun xs => noX (forD T b xs env) := id rfl
@[simp] theorem v_noXn (e : En) : noX (.nx e) = .nx e := id rfl
@[simp] theorem v_noXr (d : D) : noX (.ret d) = .ret d := id rfl
@[simp] theorem v_xOrT (a b : Xv) (env : En) : xOrT a b env = (a env).bind fun x => match truD x with
  | some true => .ok x
  | some false => b env
  | none => .bad := id rfl
@[simp] theorem v_truS (l : List Nat) : truD (.str l) = some (!l.isEmpty) := id rfl
@[simp] theorem v_prD0 (env : En) : prD [] env = .ok [] := id rfl
@[simp] theorem v_prDS (kx vx : Xv) (r : List (Xv × Xv)) (env : En) : prD ((kx, vx) :: r) env = (kx env).calm.bind fun kd => (vx env).calm.bind fun vd => match kd with
    | .str key => (prD r env).bind fun ps => .ok ((key, vd) :: ps)
    | _ => .bad := id rfl
@[simp] theorem v_xDic (prs : List (Xv × Xv)) (env : En) : xDic prs env = (match prD prs env with
  | .ok ps => .ok (.dic (mergeD [] ps))
  | _ => .bad) := id rfl
@[simp] theorem v_oDK (prs : List (Xv × Xv)) (r : Ov) (env : En) : oDK prs r env = (match prD prs env with
  | .ok ps => (r env).bind fun ss => .ok (.ow (.dic (mergeD [] ps)) :: ss)
  | _ => .bad) := id rfl
@[simp] theorem v_xCallV (tb : String → Option (List D → Res D)) (f : Xv) (a : Av) (env : En) : xCallV tb f a env = (f env).bind fun d => match d with
  | .fn n => (match tb n with
    | some Fn => (a env).bind Fn
    | none => .bad)
  | _ => .bad := id rfl
/-! ### keys of a dict -/
def keysD (kvs : List (List Nat × D)) : List (List Nat) := kvs.map (·.1)
theorem keys_any (kvs : List (List Nat × D)) (k : List Nat) : (kvs.any fun kv => decide (kv.1 = k)) = decide (k ∈ keysD kvs) := by
  unfold keysD
  induction kvs with
  | nil => simp
  | cons a r ih =>
    rw [List.any_cons, ih, List.map_cons]
    by_cases h : a.1 = k
    · simp [h]
    · have h2 : ¬ k = a.1 := fun e => h e.symm
      simp [h, h2]
theorem in_dic (k : List Nat) (kvs : List (List Nat × D)) : inD (.str k) (.dic kvs) = .ok (.bl (decide (k ∈ keysD kvs))) := by
  rw [← keys_any]
  cases k with
  | nil => rfl
  | cons c r => cases r <;> rfl
theorem nin_dic (k : List Nat) (kvs : List (List Nat × D)) : ninD (.str k) (.dic kvs) = .ok (.bl (!decide (k ∈ keysD kvs))) := by
  rw [← keys_any]
  cases k with
  | nil => rfl
  | cons c r => cases r <;> rfl
theorem keys_put (kvs : List (List Nat × D)) (k : List Nat) (v : D) : keysD (putD kvs k v) = if k ∈ keysD kvs then keysD kvs else keysD kvs ++ [k] := by
  unfold putD
  rw [keys_any]
  by_cases h : k ∈ keysD kvs
  · rw [if_pos (by simpa using h), if_pos h]
    unfold keysD
    rw [List.map_map]
    apply List.map_congr_left
    intro a _
    simp only [Function.comp]
    split <;> rfl
  · rw [if_neg (by simpa using h), if_neg h]
    simp [keysD]
theorem mem_put {kvs : List (List Nat × D)} {k : List Nat} {v : D} {x : List Nat} : x ∈ keysD (putD kvs k v) ↔ x ∈ keysD kvs ∨ x = k := by
  rw [keys_put]
  split
  · rename_i h
    constructor
    · exact .inl
    · rintro (h' | rfl)
      · exact h'
      · exact h
  · simp
theorem nodup_put {kvs : List (List Nat × D)} {k : List Nat} {v : D} (h : (keysD kvs).Nodup) : (keysD (putD kvs k v)).Nodup := by
  rw [keys_put]
  split
  · exact h
  · rename_i hk
    rw [List.nodup_append]
    refine ⟨h, by simp, ?_⟩
    intro a ha b hb
    rw [List.mem_singleton] at hb
    subst hb
    rintro rfl
    exact hk ha
theorem keys_map (kvs : List (List Nat × D)) : (kvs.map fun kv => D.str kv.1) = (keysD kvs).map D.str := by simp [keysD]
/-! ### loops that may return -/
theorem forD_first {β : Type} {T : Tg} {b : Sv} (g : β → D) (I : En → Prop) (p : β → Bool) (r : β → D) : ∀ (xs : List β) (env : En), I env →
    (∀ x ∈ xs, ∀ env, I env → ∃ env2, stT T (g x) env = some env2 ∧ ((p x = true ∧ b env2 = .ret (r x)) ∨ (p x = false ∧ ∃ env3, b env2 = .nx env3 ∧ I env3))) →
    (∃ x, xs.find? p = some x ∧ forD T b (xs.map g) env = .ret (r x)) ∨ (xs.find? p = none ∧ ∃ env', forD T b (xs.map g) env = .nx env' ∧ I env')
  | [], env, h, _ => .inr ⟨rfl, env, rfl, h⟩
  | x :: xs, env, h, hs => by
    obtain ⟨env2, h1, h2⟩ := hs x List.mem_cons_self env h
    rcases h2 with ⟨hp, h2⟩ | ⟨hp, env3, h2, h3⟩
    · refine .inl ⟨x, by simp [hp], ?_⟩
      rw [List.map_cons]
      unfold forD
      rw [h1]
      dsimp only
      rw [h2]
    · have e : forD T b ((x :: xs).map g) env = forD T b (xs.map g) env3 := by
        rw [List.map_cons]
        conv => lhs; unfold forD
        rw [h1]
        dsimp only
        rw [h2]
      rw [e, List.find?_cons_of_neg (by simp [hp])]
      exact forD_first g I p r xs env3 h3 fun y hy => hs y (List.mem_cons_of_mem _ hy)
/-- the same, nothing kept but the invariant -/
theorem forD_inv {β : Type} {T : Tg} {b : Sv} (g : β → D) (I : En → Prop) : ∀ (xs : List β) (env : En), I env →
    (∀ x ∈ xs, ∀ env, I env → ∃ env2, stT T (g x) env = some env2 ∧ ∃ env3, b env2 = .nx env3 ∧ I env3) → ∃ env', forD T b (xs.map g) env = .nx env' ∧ I env' := by
  intro xs env h hs
  obtain ⟨env', h1, h2⟩ := forD_fold (T := T) (b := b) g (fun (a : Unit) _ => a) (fun _ env => I env) xs () env h fun _ env x hx hI => hs x hx env hI
  exact ⟨env', h1, h2⟩
/-- a loop by the part already seen -/
theorem forD_seen {β : Type} {T : Tg} {b : Sv} (g : β → D) (I : List β → En → Prop) (xs : List β) (env : En) (h : I [] env)
    (hs : ∀ pre x post env, xs = pre ++ x :: post → I pre env → ∃ env2, stT T (g x) env = some env2 ∧ ∃ env3, b env2 = .nx env3 ∧ I (pre ++ [x]) env3) : ∃ env', forD T b (xs.map g) env = .nx env' ∧ I xs env' := by
  have key : ∀ (post pre : List β) (env : En), xs = pre ++ post → I pre env → ∃ env', forD T b (post.map g) env = .nx env' ∧ I xs env' := by
    intro post
    induction post with
    | nil => intro pre env e hI; rw [List.append_nil] at e; subst e; exact ⟨env, rfl, hI⟩
    | cons x post ih =>
      intro pre env e hI
      obtain ⟨env2, h1, env3, h2, h3⟩ := hs pre x post env e hI
      obtain ⟨env', h4, h5⟩ := ih (pre ++ [x]) env3 (by rw [e]; simp) h3
      refine ⟨env', ?_, h5⟩
      rw [List.map_cons]
      unfold forD
      rw [h1]
      dsimp only
      rw [h2]
      exact h4
  exact key xs [] env rfl h
/-! ### ranges -/
theorem rng2_ok {n m : Nat} (hn : n ≤ 100000) (hm : m ≤ 100000) : rng2 (.int (n : Int)) (.int (m : Int)) = .ok ((List.range (m - n)).map fun (i : Nat) => D.int ((n + i : Nat) : Int)) := by
  simp only [rng2]
  rw [if_pos ⟨by omega, by simp; omega⟩]
  unfold rngD
  rw [show ((m : Int) - n).toNat = m - n by omega]
  simp
/-! ### maxima -/
theorem asIs_ints : ∀ ns : List Int, asIs (ns.map D.int) = some ns
  | [] => rfl
  | n :: ns => by simp [asIs, asIs_ints ns]
theorem foldl_max_ge (a : Int) : ∀ l : List Int, a ≤ l.foldl max a
  | [] => Int.le_refl _
  | b :: l => by
    rw [List.foldl_cons]
    exact Int.le_trans (Int.le_max_left a b) (foldl_max_ge (max a b) l)
theorem foldl_max_mem_le : ∀ (l : List Int) (a x : Int), x ∈ l → x ≤ l.foldl max a
  | b :: l, a, x, h => by
    rw [List.foldl_cons]
    rcases List.mem_cons.mp h with rfl | h
    · exact Int.le_trans (Int.le_max_right a x) (foldl_max_ge (max a x) l)
    · exact foldl_max_mem_le l (max a b) x h
theorem foldl_max_in : ∀ (l : List Int) (a : Int), l.foldl max a = a ∨ l.foldl max a ∈ l
  | [], a => .inl rfl
  | b :: l, a => by
    rw [List.foldl_cons]
    rcases foldl_max_in l (max a b) with h | h
    · rw [h]
      by_cases hb : a ≤ b
      · rw [Int.max_eq_right hb]; exact .inr List.mem_cons_self
      · rw [Int.max_eq_left (by omega)]; exact .inl rfl
    · exact .inr (List.mem_cons_of_mem _ h)
theorem max_congr {a : Int} {l m : List Int} (h : ∀ x, x ∈ l ↔ x ∈ m) : l.foldl max a = m.foldl max a := by
  have le : ∀ l m : List Int, (∀ x, x ∈ l → x ∈ m) → l.foldl max a ≤ m.foldl max a := by
    intro l m h
    rcases foldl_max_in l a with e | e
    · rw [e]; exact foldl_max_ge a m
    · exact foldl_max_mem_le m a _ (h _ e)
  exact Int.le_antisymm (le l m fun x => (h x).mp) (le m l fun x => (h x).mpr)
theorem max_ints (a : Int) (l : List Int) : maxD (.lst (.int a :: l.map D.int)) = .ok (.int (l.foldl max a)) := by
  simp [maxD, asIs, asIs_ints, maxL]
/-! ### sorted texts -/
def srtS (ks : List (List Nat)) : List (List Nat) := ks.mergeSort fun a b => dle (.str a) (.str b)
theorem dle_str (a b : List Nat) : dle (.str a) (.str b) = decide (a ≤ b) := by
  unfold dle
  simp only [dlt]
  by_cases h : b < a
  · simp [h]
  · rw [decide_eq_false h, decide_eq_true (List.not_lt.mp h)]
    rfl
theorem srtS_pw (ks : List (List Nat)) : (srtS ks).Pairwise fun a b => a ≤ b := by
  have := List.pairwise_mergeSort (le := fun a b => dle (.str a) (.str b)) (fun a b c h k => by
    rw [dle_str, decide_eq_true_eq] at h k ⊢
    exact List.le_trans h k) (fun a b => by
    rw [dle_str, dle_str, Bool.or_eq_true, decide_eq_true_eq, decide_eq_true_eq]
    exact List.le_total a b) ks
  exact this.imp fun h => by rw [dle_str, decide_eq_true_eq] at h; exact h
theorem srtS_perm (ks : List (List Nat)) : (srtS ks).Perm ks := List.mergeSort_perm _ _
theorem srtS_congr {ks ls : List (List Nat)} (h : ks.Perm ls) : srtS ks = srtS ls := by
  apply List.Perm.eq_of_pairwise (le := fun a b => a ≤ b) (fun a b _ _ h k => List.le_antisymm h k) (srtS_pw ks) (srtS_pw ls)
  exact (srtS_perm ks).trans (h.trans (srtS_perm ls).symm)
theorem srtS_set {ks ls : List (List Nat)} (h1 : ks.Nodup) (h2 : ls.Nodup) (h : ∀ x, x ∈ ks ↔ x ∈ ls) : srtS ks = srtS ls := srtS_congr ((List.perm_ext_iff_of_nodup h1 h2).mpr h)
theorem asSs_strs : ∀ ls : List (List Nat), asSs (ls.map D.str) = some ls
  | [] => rfl
  | l :: ls => by simp [asSs, asSs_strs ls]
theorem dist_mem : ∀ (ls acc : List (List Nat)) (x : List Nat), x ∈ distN acc ls ↔ x ∈ acc ∨ x ∈ ls
  | [], acc, x => by simp [distN]
  | l :: ls, acc, x => by
    rw [distN, dist_mem ls]
    split
    · rename_i h
      constructor
      · rintro (h' | h')
        · exact .inl h'
        · exact .inr (List.mem_cons_of_mem _ h')
      · rintro (h' | h')
        · exact .inl h'
        · rcases List.mem_cons.mp h' with rfl | h'
          · exact .inl h
          · exact .inr h'
    · simp only [List.mem_cons]
      constructor
      · rintro ((h | h) | h)
        · exact .inr (.inl h)
        · exact .inl h
        · exact .inr (.inr h)
      · rintro (h | h | h)
        · exact .inl (.inr h)
        · exact .inl (.inl h)
        · exact .inr h
theorem dist_nodup : ∀ (ls acc : List (List Nat)), acc.Nodup → (distN acc ls).Nodup
  | [], acc, h => h
  | l :: ls, acc, h => by
    rw [distN]
    apply dist_nodup ls
    split
    · exact h
    · rename_i hl
      exact List.nodup_cons.mpr ⟨hl, h⟩
theorem sset_ok {ls : List (List Nat)} (h : ls.length ≤ 4000) : ssetD (.lst (ls.map D.str)) = .ok (.lst ((srtS (distN [] ls)).map D.str)) := by
  unfold ssetD
  dsimp only
  rw [asSs_strs]
  dsimp only
  rw [if_pos h]
  rfl
theorem sort_strs (ks : List (List Nat)) : sortD (.lst (ks.map D.str)) = .ok (.lst ((srtS ks).map D.str)) := by
  have ok : srtOk (ks.map D.str) = true := by
    unfold srtOk
    have a2 : alkAll (ks.map D.str) = true := by
      unfold alkAll
      rw [List.all_eq_true]
      intro x hx
      rw [List.all_eq_true]
      intro y hy
      obtain ⟨a, _, rfl⟩ := List.mem_map.mp hx
      obtain ⟨b, _, rfl⟩ := List.mem_map.mp hy
      simp [alk]
    rw [plains_strs, a2, deps_strs]
    simp
  show (if srtOk (ks.map D.str) = true then Res.ok (D.lst ((ks.map D.str).mergeSort dle)) else Res.bad) = _
  rw [if_pos ok]
  unfold srtS
  rw [← List.map_mergeSort (r := fun a b => dle (.str a) (.str b)) (s := dle) (f := D.str) (fun a _ b _ => rfl)]
theorem ne_same {d : D} (h1 : plain d = true) (h2 : dep d ≤ 60) : neD d d = .ok (.bl false) := by
  unfold neD
  rw [if_pos ⟨h1, h1, by simpa using h2⟩, deq_refl d h1]
  rfl
theorem eq_same {d : D} (h1 : plain d = true) (h2 : dep d ≤ 60) : eqD d d = .ok (.bl true) := by
  unfold eqD
  rw [if_pos ⟨h1, h1, by simpa using h2⟩, deq_refl d h1]
theorem pl_strs (ks : List (List Nat)) : plain (.lst (ks.map D.str)) = true ∧ dep (.lst (ks.map D.str)) ≤ 60 := by
  refine ⟨by rw [plain]; exact plains_strs ks, ?_⟩
  rw [dep, deps_strs]
  decide
/-- counting pairs from either side -/
theorem cnt_swap {α β : Type} (R : α → β → Bool) (ys : List β) : ∀ xs : List α, (xs.map fun x => (ys.filter (R x)).length).sum = (ys.map fun y => (xs.filter (fun x => R x y)).length).sum
  | [] => by
    induction ys with
    | nil => rfl
    | cons y ys ih => simpa using ih
  | x :: xs => by
    rw [List.map_cons, List.sum_cons, cnt_swap R ys xs]
    induction ys with
    | nil => simp
    | cons y ys ih =>
      rw [List.map_cons, List.sum_cons, List.map_cons, List.sum_cons]
      by_cases h : R x y = true
      · simp [List.filter_cons, h]
        simp [List.filter_cons] at ih
        omega
      · simp [List.filter_cons, h]
        simp [List.filter_cons] at ih
        omega
end Pv

namespace Pv
def lstS (l : List (List Nat)) : D := .lst (l.map D.str)
@[simp] theorem v_sAddO (i : Nat) (ea eb : Xv) (env : En) : sAddO i ea eb env = ((ea env).fl env fun x => (eb env).fl env fun y => match addD x y with
  | .ok (.lst l) => .nx (pt env i (some (.ow (.lst l))))
  | _ => .bad) := id rfl
theorem zp_lstS (l : List (List Nat)) : zpD (lstS l) = .ok (l.map D.str) := rfl
theorem add_lstS {a b : List (List Nat)} (h : a.length + b.length ≤ 1000000) : addD (lstS a) (lstS b) = .ok (lstS (a ++ b)) := by
  unfold lstS
  rw [v_addL, if_pos (by simp only [List.length_map]; show _ ≤ 16777216; omega), List.map_append]
theorem add_str {a b : List Nat} (h : a.length + b.length ≤ 1000000) : addD (.str a) (.str b) = .ok (.str (a ++ b)) := by
  rw [v_addS, if_pos (by show _ ≤ 16777216; omega)]
theorem sl_pre (r : List Nat) (i : Nat) : slD none (some (i : Int)) (.str r) = .ok (.str (r.take i)) := by
  show Res.ok (D.str (cutD _ _ _)) = _
  rw [cut_pre]
theorem cut_pos {α : Type} (xs : List α) (n : Nat) : cutD xs (some (n : Int)) none = xs.drop n := by
  have h : sIx xs.length 0 (some (n : Int)) = min n xs.length := by
    unfold sIx
    dsimp only
    rw [if_neg (by omega)]
    omega
  unfold cutD
  rw [h]
  show (xs.drop (min n xs.length)).take (xs.length - min n xs.length) = _
  rcases Nat.le_total n xs.length with q | q
  · rw [Nat.min_eq_left q, List.take_of_length_le (by rw [List.length_drop]; omega)]
  · rw [Nat.min_eq_right q, Nat.sub_self, List.take_zero, List.drop_eq_nil_of_le q]
theorem sl_pos (r : List Nat) (i : Nat) : slD (some (i : Int)) none (.str r) = .ok (.str (r.drop i)) := by
  show Res.ok (D.str (cutD _ _ _)) = _
  rw [cut_pos]
theorem sl_pos1 (r : List Nat) (i : Nat) : slD (some ((i : Int) + 1)) none (.str r) = .ok (.str (r.drop (i + 1))) := sl_pos r (i + 1)
theorem sl_pos2 (r : List Nat) (i : Nat) : slD (some ((i : Int) + 2)) none (.str r) = .ok (.str (r.drop (i + 2))) := sl_pos r (i + 2)
theorem getD_at {r : List Nat} {i : Nat} (h : i < r.length) : r.getD i 0 = r[i] := by simp [List.getD_eq_getElem?_getD, h]
theorem ix_get {r : List Nat} {i : Nat} (h : i < r.length) : ixD (.str r) (.int (i : Int)) = .ok (ch (r.getD i 0)) := by
  apply ix_str
  unfold atD
  rw [ixN_ok (by omega) (by omega)]
  show r[((i : Int)).toNat]? = _
  rw [Int.toNat_natCast, List.getElem?_eq_getElem h, getD_at h]
theorem eqS (a b : List Nat) : eqD (.str a) (.str b) = .ok (.bl (a == b)) := by simp [eqD, plain, dep, deq]
theorem neS (a b : List Nat) : neD (.str a) (.str b) = .ok (.bl (!(a == b))) := by simp [neD, plain, dep, deq]
theorem sort_dicS (kvs : List (List Nat × D)) : sortD (.dic kvs) = .ok (lstS (srtS (keysD kvs))) := by
  show Res.ok (D.lst ((kvs.map fun kv => D.str kv.1).mergeSort dle)) = _
  unfold srtS lstS
  rw [keys_map, ← List.map_mergeSort (r := fun a b => dle (.str a) (.str b)) (s := dle) (f := D.str) (fun a _ b _ => rfl)]
theorem if_skip {t : Tv} {s : Sv} {env : En} (h : t env = .ok false) : sIf t s sNil env = .nx env := by rw [v_sIf, h]; rfl
theorem if_take {t : Tv} {s r : Sv} {env : En} (h : t env = .ok true) : sIf t s r env = s env := by rw [v_sIf, h]; rfl
theorem if_els {t : Tv} {s r : Sv} {env : En} (h : t env = .ok false) : sIf t s r env = r env := by rw [v_sIf, h]; rfl
theorem seq_nx {s r : Sv} {env env' : En} (h : s env = .nx env') : sSeq s r env = r env' := by rw [v_sSeq, h]
theorem seq_ret {s r : Sv} {env : En} {d : D} (h : s env = .ret d) : sSeq s r env = .ret d := by rw [v_sSeq, h]
theorem ret_ok {a : Xv} {env : En} {d : D} (h : a env = .ok d) : sRet a env = .ret d := by rw [v_sRet, h]; rfl
theorem app_str {i : Nat} {a : Xv} {env : En} {L : List (List Nat)} {w : List Nat} (hg : gt env i = some (.ow (lstS L))) (ha : a env = .ok (.str w)) (hl : L.length ≤ 1000000) : sApp i a env = .nx (pt env i (some (.ow (lstS (L ++ [w]))))) := by
  rw [v_sApp, hg]
  unfold lstS
  dsimp only
  rw [ha, v_fok, if_pos (by rw [List.length_map]; show _ < 16777216; omega), List.map_append]
  rfl
theorem ext_str {i : Nat} {a : Xv} {env : En} {L M : List (List Nat)} (hg : gt env i = some (.ow (lstS L))) (ha : a env = .ok (lstS M)) (hl : L.length + M.length ≤ 1000000) : sExt i a env = .nx (pt env i (some (.ow (lstS (L ++ M))))) := by
  rw [v_sExt, hg]
  unfold lstS at ha ⊢
  dsimp only
  rw [ha, v_fok]
  dsimp only [exD]
  rw [if_pos (by rw [List.length_map, List.length_map]; show _ ≤ 16777216; omega), List.map_append]
theorem asg_nm {i : Nat} {a : Xv} {env : En} {d : D} (h : a env = .ok d) : sAsg (.nm i) a env = .nx (pt env i (some (.fz d))) := by rw [v_sAsg, h]; rfl
end Pv

namespace Pv.W54
theorem eq_int (i j : Int) : eqD (.int i) (.int j) = .ok (.bl (i == j)) := by simp [eqD, plain, dep, deq]
theorem ne_int (i j : Int) : neD (.int i) (.int j) = .ok (.bl (!(i == j))) := by simp [neD, plain, dep, deq]
theorem eq_str (i j : List Nat) : eqD (.str i) (.str j) = .ok (.bl (i == j)) := by simp [eqD, plain, dep, deq]
theorem ne_str (i j : List Nat) : neD (.str i) (.str j) = .ok (.bl (!(i == j))) := by simp [neD, plain, dep, deq]
theorem in_pair (c d : Nat) : inD (.str [120]) (.tup [ch c, ch d]) = .ok (.bl (c == 120 || d == 120)) := by simp [inD, inB, flat, ch, deq]
theorem nin_pair (c d : Nat) : ninD (.str [120]) (.tup [ch c, ch d]) = .ok (.bl (!(c == 120 || d == 120))) := by simp [ninD, inB, flat, ch, deq]
theorem eq_ch (c d : Nat) : eqD (ch c) (ch d) = .ok (.bl (c == d)) := by unfold ch; rw [eq_str]; simp
theorem ne_ch (c d : Nat) : neD (ch c) (ch d) = .ok (.bl (!(c == d))) := by unfold ch; rw [ne_str]; simp
theorem n_agree (p q : List Nat) : Fn_agree [.str p, .str q] = .ok (.bl (agB p q)) := by
  have e0 : Fn_agree [.str p, .str q] = outOf (sv_agree [some (.fz (.str p)), some (.fz (.str q)), none, none]) := rfl
  rw [e0]
  unfold sv_agree q1_agree
  by_cases h : p.length = q.length
  · have hz : iZip (rdV 0) (rdV 1) [some (.fz (.str p)), some (.fz (.str q)), none, none] = .ok ((p.zip q).map fun x => .tup [ch x.1, ch x.2]) := zip_strs p q
    have e := xLc_map (T := .tp [2, 3]) (own := [2, 3]) (e := (xOr (xOp eqD (rdB 2) (rdB 3)) (xOp inD (xC (.str [120])) (xTup (aCons (rdV 2) (aCons (rdV 3) aNil))))))
      (fun x : Nat × Nat => .tup [ch x.1, ch x.2]) (fun x => .bl (ag x.1 x.2)) (p.zip q) hz (fun x _ => ⟨[some (.fz (.str p)), some (.fz (.str q)), some (.fz (ch x.1)), some (.fz (ch x.2))], by simp, by
        simp [eq_ch, in_pair, ag]
        have hb : (x.1 == x.2) = decide (x.1 = x.2) := rfl
        by_cases h : x.1 = x.2 <;> simp [h, hb, in_pair]⟩)
    simp [lenD, ne_int, h, e]
    have := all_bls ((p.zip q).map fun x => ag x.1 x.2)
    rw [List.map_map] at this
    rw [show ((p.zip q).map fun x => D.bl (ag x.1 x.2)) = (p.zip q).map (D.bl ∘ fun x => ag x.1 x.2) from rfl, this]
    simp [agB, h]
  · have h' : ¬ ((p.length : Int) = q.length) := by omega
    have hb : (p.length == q.length) = false := beq_eq_false_iff_ne.mpr h
    simp [lenD, ne_int, h', agB, hb]
end Pv.W54

namespace Pv.W54
def scr (ns : List Int) : D := .lst (ns.map D.int)
theorem wh_pick (a b c d z : Option Sl) : ∀ (n : Nat) (r t : Int), t.toNat < n → ∃ r' t', whD (tAn (tVal (xOp gtD (rdB 4) (xC (.int 0)))) (tVal (xOp gtD (rdB 5) (xC (.int 0))))) b1__law_pick
    n [a, b, c, d, some (.fz (.int r)), some (.fz (.int t)), z] = .nx [a, b, c, d, some (.fz (.int r')), some (.fz (.int t')), z] := by
  intro n
  induction n with
  | zero => intro r t h; omega
  | succ n ih =>
    intro r t h
    unfold whD
    by_cases h1 : 0 < r
    · by_cases h2 : 0 < t
      · obtain ⟨r', t', e⟩ := ih (r / 840) (t - 1) (by omega)
        refine ⟨r', t', ?_⟩
        have eb : b1__law_pick [a, b, c, d, some (.fz (.int r)), some (.fz (.int t)), z] = .nx [a, b, c, d, some (.fz (.int (r / 840))), some (.fz (.int (t - 1))), z] := by simp [b1__law_pick]
        simp [h1, h2, eb, e]
      · exact ⟨r, t, by simp [h1, h2]⟩
    · exact ⟨r, t, by simp [h1]⟩
theorem pick_rest (s : D) (k m c t : Int) (hk : 0 ≤ k) (ht : 0 ≤ t) (hm : 0 < m) : ∃ w : Int, (sSeq q2__law_pick
  (sSeq q3__law_pick
  (sSeq (sAsg (.nm 6) (xOp modD (xU intD (xOp mulD (xOp addD (xOp mulD (rdB 3) (xC (.int 31))) (xOp mulD (xC (.int 6151)) (xOp addD (rdB 1) (xC (.int 1))))) (xC (.int 40692)))) (xC (.int 2147483399))))
  (sRet (xOp modD (xU intD (xOp modD (xU intD (xOp addD (xOp mulD (rdB 6) (rdB 6)) (xOp fdivD (rdB 6) (xC (.int 31))))) (xC (.int 2147483629)))) (rdB 2)))))) [some (.fz s), some (.fz (.int k)), some (.fz (.int m)), some (.fz (.int c)), some (.fz (.int (c / 1000000000000000000))), some (.fz (.int t)), none] = .ret (.int (w % m)) := by
  obtain ⟨r', t', e⟩ := wh_pick (some (.fz s)) (some (.fz (.int k))) (some (.fz (.int m))) (some (.fz (.int c))) none (t.toNat + 1) (c / 1000000000000000000) t (by omega)
  have e2 : q2__law_pick [some (.fz s), some (.fz (.int k)), some (.fz (.int m)), some (.fz (.int c)), some (.fz (.int (c / 1000000000000000000))), some (.fz (.int t)), none] = .nx [some (.fz s), some (.fz (.int k)), some (.fz (.int m)), some (.fz (.int c)), some (.fz (.int r')), some (.fz (.int t')), none] := by
    unfold q2__law_pick sWh
    simp only [fuel, v_gtS, v_gt0]
    exact e
  rw [seq_nx e2]
  by_cases h3 : 0 < r'
  · refine ⟨r' % 840, ?_⟩
    refine seq_ret ?_
    unfold q3__law_pick
    simp [h3, hm]
  · have e3 : q3__law_pick [some (.fz s), some (.fz (.int k)), some (.fz (.int m)), some (.fz (.int c)), some (.fz (.int r')), some (.fz (.int t')), none] = .nx [some (.fz s), some (.fz (.int k)), some (.fz (.int m)), some (.fz (.int c)), some (.fz (.int r')), some (.fz (.int t')), none] := by
      unfold q3__law_pick
      simp [h3]
    rw [seq_nx e3]
    have b2 : ∀ x : Int, 0 ≤ x % 2147483399 ∧ x % 2147483399 < 2147483399 := fun x => ⟨Int.emod_nonneg _ (by decide), Int.emod_lt_of_pos _ (by decide)⟩
    have c2 : ∀ x : Int, (-18446744073709551616 < x % 2147483399 ∧ x % 2147483399 < 18446744073709551616) = True := fun x => by have := b2 x; simp; omega
    refine ⟨((((c * 31 + 6151 * (k + 1)) * 40692) % 2147483399) * (((c * 31 + 6151 * (k + 1)) * 40692) % 2147483399) + (((c * 31 + 6151 * (k + 1)) * 40692) % 2147483399) / 31) % 2147483629, ?_⟩
    simp [c2, hm]
theorem n_pick (ns : List Int) (k m : Int) (hk : 0 ≤ k) (hm : 0 < m) (hl : ns.length < 1000) : ∃ v, 0 ≤ v ∧ v < m ∧ Fn__law_pick [scr ns, .int k, .int m] = .ok (.int v) := by
  suffices h : ∃ w : Int, Fn__law_pick [scr ns, .int k, .int m] = .ok (.int (w % m)) by
    obtain ⟨w, h⟩ := h
    exact ⟨_, Int.emod_nonneg _ (by omega), Int.emod_lt_of_pos _ hm, h⟩
  have e0 : Fn__law_pick [scr ns, .int k, .int m] = outOf (sv__law_pick [some (.fz (scr ns)), some (.fz (.int k)), some (.fz (.int m)), none, none, none, none]) := rfl
  rw [e0]
  unfold sv__law_pick
  have hp18 : powD (.int 10) (.int 18) = .ok (.int 1000000000000000000) := by simp
  cases ns with
  | nil =>
    rw [seq_nx (env' := [some (.fz (scr [])), some (.fz (.int k)), some (.fz (.int m)), some (.fz (.int 0)), none, none, none]) (by simp [scr, neD, plain, plains, dep, deps, deq, deqs])]
    have hmx : max2D (.int 0) (.int 1) = .ok (.int 1) := rfl
    have hlen : lenD (scr []) = .ok (.int 0) := rfl
    rw [seq_nx (env' := [some (.fz (scr [])), some (.fz (.int k)), some (.fz (.int m)), some (.fz (.int 0)), some (.fz (.int (0 / 1000000000000000000))), some (.fz (.int (k / 1))), none]) (by simp [hp18, hmx, hlen])]
    obtain ⟨w, hw⟩ := pick_rest (scr []) k m 0 (k / 1) hk (by omega) hm
    exact ⟨w, by rw [hw]; rfl⟩
  | cons n ns =>
    have hne : neD (scr (n :: ns)) (.lst []) = .ok (.bl true) := by
      unfold neD scr
      rw [if_pos]
      · simp [deq, deqs]
      · simp [plain, plains, dep, deps, plains_ints, deps_ints]
    have hlen : lenD (scr (n :: ns)) = .ok (.int ((ns.length : Int) + 1)) := by simp [scr, lenD]
    have hpos : (0 : Int) < (ns.length : Int) + 1 := by omega
    have hlt : (ns.length : Int) + 1 < 18446744073709551616 := by simp only [List.length_cons] at hl; omega
    obtain ⟨x, hx, hat⟩ := atD_ok (xs := n :: ns) (i := k % ((ns.length : Int) + 1)) (Int.emod_nonneg _ (by omega)) (by have := Int.emod_lt_of_pos k hpos; simpa using this)
    have hix : ixD (scr (n :: ns)) (.int (k % ((ns.length : Int) + 1))) = .ok (.int x) := by
      exact ix_lst (by rw [atD_map, hat]; rfl)
    have hq : 0 ≤ k / ((ns.length : Int) + 1) := Int.ediv_nonneg hk (by omega)
    rw [seq_nx (env' := [some (.fz (scr (n :: ns))), some (.fz (.int k)), some (.fz (.int m)), some (.fz (.int x)), none, none, none]) (by simp [hne, hlen, hpos, hix])]
    have hmx : max2D (.int ((ns.length : Int) + 1)) (.int 1) = .ok (.int ((ns.length : Int) + 1)) := by
      show Res.ok (D.int (if (1 : Int) > (ns.length : Int) + 1 then 1 else (ns.length : Int) + 1)) = _
      rw [if_neg (by omega)]
    rw [seq_nx (env' := [some (.fz (scr (n :: ns))), some (.fz (.int k)), some (.fz (.int m)), some (.fz (.int x)), some (.fz (.int (x / 1000000000000000000))), some (.fz (.int (k / ((ns.length : Int) + 1)))), none]) (by simp [hp18, hmx, hlen, hpos, hlt])]
    obtain ⟨w, hw⟩ := pick_rest (scr (n :: ns)) k m x (k / ((ns.length : Int) + 1)) hk hq hm
    exact ⟨w, by rw [hw]; rfl⟩
def dr (ns : List Int) (k m : Int) : Int := match Fn__law_pick [scr ns, .int k, .int m] with
  | .ok (.int v) => v
  | _ => 0
theorem dr_ok {ns : List Int} {k m : Int} (hk : 0 ≤ k) (hm : 0 < m) (hl : ns.length < 1000) : Fn__law_pick [scr ns, .int k, .int m] = .ok (.int (dr ns k m)) ∧ 0 ≤ dr ns k m ∧ dr ns k m < m := by
  obtain ⟨v, h1, h2, h3⟩ := n_pick ns k m hk hm hl
  unfold dr
  rw [h3]
  exact ⟨rfl, h1, h2⟩
theorem n_lagree (p q : List Nat) : Fn__law_agree [.str p, .str q] = .ok (.bl (agB p q)) := by
  have e0 : Fn__law_agree [.str p, .str q] = outOf (sv__law_agree [some (.fz (.str p)), some (.fz (.str q)), none, none]) := rfl
  rw [e0]
  unfold sv__law_agree
  have hlp : lenD (.str p) = .ok (.int (p.length : Int)) := by simp [lenD]
  have hlq : lenD (.str q) = .ok (.int (q.length : Int)) := by simp [lenD]
  by_cases h : p.length = q.length
  · rw [seq_nx (env' := [some (.fz (.str p)), some (.fz (.str q)), none, none]) (by
      unfold q1__law_agree
      refine if_skip ?_
      simp [hlp, hlq, ne_int, h])]
    have hz : iZip (rdV 0) (rdV 1) [some (.fz (.str p)), some (.fz (.str q)), none, none] = .ok ((p.zip q).map fun x => .tup [ch x.1, ch x.2]) := zip_strs p q
    have e := xLc_ok (T := .tp [2, 3]) (own := [2, 3]) (t := (tAn (tVal (xOp neD (rdB 2) (rdB 3))) (tAn (tVal (xOp neD (rdB 2) (xC (.str [120])))) (tVal (xOp neD (rdB 3) (xC (.str [120]))))))) (e := xC (.int 1))
      (fun x : Nat × Nat => .tup [ch x.1, ch x.2]) (fun x => !ag x.1 x.2) (fun x => .int 1) (p.zip q) hz (fun x _ => ⟨[some (.fz (.str p)), some (.fz (.str q)), some (.fz (ch x.1)), some (.fz (ch x.2))], rfl, by
        have n1 := ne_ch x.1 x.2
        have n2 := ne_ch x.1 120
        have n3 := ne_ch x.2 120
        have e120 : ch 120 = .str [120] := rfl
        rw [e120] at n2 n3
        simp only [v_tAn, v_tVal, v_xOp, v_rdB, v_gtS, v_gt0, v_ok, n1, v_cok, v_asB, v_xC, n2, n3]
        unfold ag
        cases (x.1 == x.2) <;> cases (x.1 == 120) <;> cases (x.2 == 120) <;> rfl, fun _ => rfl⟩)
    have hpl : plains (((p.zip q).filter fun x => !ag x.1 x.2).map fun _ => D.int 1) = true := plains_map (fun _ => D.int 1) (fun _ => rfl) _
    rw [ret_ok (d := .bl (agB p q)) (by
      rw [v_xOp, e, v_ok]
      simp only [v_xLst, v_aNil, v_ok, List.length_nil, Nat.zero_le, if_true, eq_nil hpl, v_cok]
      congr 2
      rw [Bool.eq_iff_iff]
      simp [agB, h, List.isEmpty_iff])]
    rfl
  · have hb : (p.length == q.length) = false := beq_eq_false_iff_ne.mpr h
    rw [seq_ret (d := .bl false) (by
      unfold q1__law_agree
      rw [if_take (by
        have h' : ¬ ((p.length : Int) = q.length) := by omega
        simp [hlp, hlq, ne_int, h'])]
      rfl)]
    simp [agB, hb]
end Pv.W54

namespace Pv.W54
def digs (size : Nat) : List Nat := [48, 49, 50, 51, 52, 53].take size
def sg (size : Nat) : List Nat := digs size ++ digs size ++ [120]
def gd (size : Nat) (e : Ent) : Prop := 1 ≤ e.1.length ∧ e.1.length ≤ 3 ∧ (∀ c ∈ e.1, c ∈ digs size ++ [120]) ∧ e.2 ∈ [[97], [98], [99], [100]]
structure Gp (size n : Nat) (es : List Ent) : Prop where
  le : es.length ≤ n
  ge : 0 < n → 0 < es.length
  all : ∀ e ∈ es, gd size e
  ap : es.Pairwise fun a b => agB a.1 b.1 = false
theorem sg_len (size : Nat) (h : size ≤ 3) : (sg size).length = 2 * size + 1 := by simp [sg, digs]; omega
theorem sg_ok (ns : List Int) (size : Nat) (hs : size ≤ 3) (k : Int) (hk : 0 ≤ k) (hl : ns.length < 1000) : ∃ c, c ∈ digs size ++ [120] ∧ Fn__law_pick [scr ns, .int k, .int ((sg size).length : Nat)] = .ok (.int (dr ns k ((sg size).length : Nat))) ∧ ixD (.str (sg size)) (.int (dr ns k ((sg size).length : Nat))) = .ok (ch c) := by
  obtain ⟨e1, e2, e3⟩ := dr_ok (ns := ns) (k := k) (m := ((sg size).length : Nat)) hk (by have := sg_len size hs; omega) hl
  obtain ⟨c, hc, e⟩ := atD_ok (xs := sg size) e2 e3
  refine ⟨c, ?_, e1, ix_str e⟩
  unfold sg at hc
  simp at hc ⊢
  omega
theorem sg_mk {size : Nat} (h : size ≤ 3) (hs : slD none (some (size : Int)) (.str [48, 49, 50]) = .ok (.str (digs size))) : (mulD (.str (digs size)) (.int 2)).calm = .ok (.str (digs size ++ digs size)) ∧ addD (.str (digs size ++ digs size)) (.str [120]) = .ok (.str (sg size)) := by
  have hd : (digs size).length ≤ 3 := by simp [digs]; omega
  constructor
  · rw [v_mulS, if_pos ⟨by decide, by show (digs size).length * 2 ≤ 16777216; omega, by decide⟩]
    simp [List.replicate]
  · rw [v_addS, if_pos (by simp; omega)]
    rfl
theorem sl3 {size : Nat} (h : size ≤ 3) : slD none (some (size : Int)) (.str [48, 49, 50]) = .ok (.str (digs size)) := by
  match size, h with
  | 0, _ => rfl
  | 1, _ => rfl
  | 2, _ => rfl
  | 3, _ => rfl
theorem pat_ok (ns : List Int) (at_ : Int) (size : Nat) (k : Int) (many : Nat) (f s7 s9 : Option Sl) (a : Option Sl) (hat : 0 ≤ at_) (hk : 0 ≤ k) (hl : ns.length < 1000) (hs : size ≤ 3) (hm : many ≤ 3) :
    ∃ pat : List Nat, pat.length = many ∧ (∀ c ∈ pat, c ∈ digs size ++ [120]) ∧ (xM isStr joinD (xC (.str [])) (xLc (.nm 8) [8] (iR1 (rdV 5)) tYs (xOp ixD (rdB 6) (xCall Fn__law_pick (aCons (rdV 0) (aCons (xOp addD (xOp addD (xOp addD (rdB 1) (xC (.int 3))) (xOp mulD (xC (.int 8)) (rdB 4))) (rdB 8)) (aCons (xU lenD (rdB 6)) aNil)))))))
      [some (.fz (scr ns)), some (.fz (.int at_)), a, f, some (.fz (.int k)), some (.fz (.int many)), some (.fz (.str (sg size))), s7, none, s9, none] = .ok (.str pat) := by
  have hsg : ∀ i : Nat, ∃ c, c ∈ digs size ++ [120] ∧ Fn__law_pick [scr ns, .int (at_ + 3 + 8 * k + i), .int ((sg size).length : Nat)] = .ok (.int (dr ns (at_ + 3 + 8 * k + i) ((sg size).length : Nat))) ∧ ixD (.str (sg size)) (.int (dr ns (at_ + 3 + 8 * k + i) ((sg size).length : Nat))) = .ok (ch c) := fun i => sg_ok ns size hs _ (by omega) hl
  obtain ⟨cs, hcs⟩ : ∃ cs : Nat → Nat, ∀ i, cs i ∈ digs size ++ [120] ∧ Fn__law_pick [scr ns, .int (at_ + 3 + 8 * k + i), .int ((sg size).length : Nat)] = .ok (.int (dr ns (at_ + 3 + 8 * k + i) ((sg size).length : Nat))) ∧ ixD (.str (sg size)) (.int (dr ns (at_ + 3 + 8 * k + i) ((sg size).length : Nat))) = .ok (ch (cs i)) := ⟨fun i => (hsg i).choose, fun i => (hsg i).choose_spec⟩
  have hpat := xLc_map (T := .nm 8) (own := [8]) (iv := iR1 (rdV 5)) (e := (xOp ixD (rdB 6) (xCall Fn__law_pick (aCons (rdV 0) (aCons (xOp addD (xOp addD (xOp addD (rdB 1) (xC (.int 3))) (xOp mulD (xC (.int 8)) (rdB 4))) (rdB 8)) (aCons (xU lenD (rdB 6)) aNil))))))
    (env := [some (.fz (scr ns)), some (.fz (.int at_)), a, f, some (.fz (.int k)), some (.fz (.int many)), some (.fz (.str (sg size))), s7, none, s9, none])
    (fun i : Nat => D.int i) (fun i => ch (cs i)) (List.range many) (by
      simp [rng1_ok (show many ≤ 1000 by omega)]) (fun i _ => ⟨_, rfl, by
        obtain ⟨h1, h2, h3⟩ := hcs i
        simp [lenD, h2, h3]⟩)
  have hpl : ((List.range many).map cs).length ≤ LIM := by rw [List.length_map, List.length_range]; exact Nat.le_trans hm (by decide)
  have hjoin := join_chs hpl
  rw [List.map_map] at hjoin
  refine ⟨(List.range many).map cs, by simp, fun c hc => ?_, ?_⟩
  · obtain ⟨i, _, rfl⟩ := List.mem_map.mp hc
    exact (hcs i).1
  · rw [v_xM, v_xC, v_ok, if_pos (by rfl), hpat, v_ok, show (fun i => ch (cs i)) = ch ∘ cs from rfl, hjoin]
    rfl
theorem b_plan (ns : List Int) (at_ : Int) (size n : Nat) (k : Int) (es : List Ent) (s5 s6 s7 s9 : Option Sl) (hat : 0 ≤ at_) (hk : 0 ≤ k) (hl : ns.length < 1000) (hs : size ≤ 3) (hn : n < 1000) (G : Gp size n es) :
    ∃ es' s5' s6' s7' s9', b2__law_plan [some (.fz (scr ns)), some (.fz (.int at_)), some (.fz (.int size)), some (.ow (.lst (es.map ent))), some (.fz (.int k)), s5, s6, s7, none, s9, none] =
      .nx [some (.fz (scr ns)), some (.fz (.int at_)), some (.fz (.int size)), some (.ow (.lst (es'.map ent))), some (.fz (.int k)), s5', s6', s7', none, s9', none] ∧ Gp size (n + 1) es' := by
  obtain ⟨d1, d2, d3⟩ := dr_ok (ns := ns) (k := at_ + 2 + 8 * k) (m := 3) (by omega) (by decide) hl
  obtain ⟨many, hmany⟩ : ∃ many : Nat, 1 + dr ns (at_ + 2 + 8 * k) 3 = (many : Int) := ⟨(1 + dr ns (at_ + 2 + 8 * k) 3).toNat, by omega⟩
  have hmb : 1 ≤ many ∧ many ≤ 3 := by omega
  obtain ⟨pat, hp1, hp2, hp3⟩ := pat_ok ns at_ size k many (some (.ow (.lst (es.map ent)))) s7 s9 (some (.fz (.int size))) hat hk hl hs hmb.2
  obtain ⟨h1, h2, h3⟩ := dr_ok (ns := ns) (k := at_ + 7 + 8 * k) (m := 3) (by omega) (by decide) hl
  obtain ⟨c, hc, hce⟩ := atD_ok (xs := [97, 98, 99]) h2 (by simpa using h3)
  have hho : ixD (.str [97, 98, 99]) (.int (dr ns (at_ + 7 + 8 * k) 3)) = .ok (.str [c]) := ix_str hce
  have hg : gd size (pat, [c]) := ⟨by show 1 ≤ pat.length; omega, by show pat.length ≤ 3; omega, hp2, by
    simp at hc
    show [c] ∈ [[97], [98], [99], [100]]
    rcases hc with rfl | rfl | rfl <;> decide⟩
  have hag := xLc_ok (T := .nm 10) (own := [10]) (iv := iSeq (rdB 3)) (t := tVal (xCall Fn__law_agree (aCons (xOp ixD (rdB 10) (xC (.int 0))) (aCons (rdV 7) aNil)))) (e := rdV 10)
    (env := [some (.fz (scr ns)), some (.fz (.int at_)), some (.fz (.int size)), some (.ow (.lst (es.map ent))), some (.fz (.int k)), some (.fz (.int many)), some (.fz (.str (sg size))), some (.fz (.str pat)), none, some (.fz (.str [c])), none])
    ent (fun e => agB e.1 pat) ent es rfl (fun e _ => ⟨_, rfl, by simp [ent, ix_tup (at0 _ _), n_lagree], fun _ => rfl⟩)
  have heq := eq_nil (plains_map ent plain_ent (es.filter fun e => agB e.1 pat))
  have hstep : b2__law_plan [some (.fz (scr ns)), some (.fz (.int at_)), some (.fz (.int size)), some (.ow (.lst (es.map ent))), some (.fz (.int k)), s5, s6, s7, none, s9, none] =
      q1__law_plan [some (.fz (scr ns)), some (.fz (.int at_)), some (.fz (.int size)), some (.ow (.lst (es.map ent))), some (.fz (.int k)), some (.fz (.int many)), some (.fz (.str (sg size))), some (.fz (.str pat)), none, some (.fz (.str [c])), none] := by
    unfold b2__law_plan
    rw [seq_nx (env' := [some (.fz (scr ns)), some (.fz (.int at_)), some (.fz (.int size)), some (.ow (.lst (es.map ent))), some (.fz (.int k)), some (.fz (.int many)), s6, s7, none, s9, none]) (by simp [d1, hmany])]
    obtain ⟨m1, m2⟩ := sg_mk hs (sl3 hs)
    rw [seq_nx (asg_nm (d := .str (sg size)) (by
      simp only [v_xOp, v_xSl, v_oIn, v_oIs, v_xC, v_ok, v_rdV, v_gtS, v_gt0, show asI (.int (size : Int)) = .ok (size : Int) from rfl, sl3 hs, v_cok, m1, m2]))]
    simp only [v_ptS, v_pt0]
    rw [seq_nx (asg_nm hp3)]
    simp only [v_ptS, v_pt0]
    rw [seq_nx (asg_nm (d := .str [c]) (by simp [h1, hho]))]
    simp only [v_ptS, v_pt0]
  rw [hstep]
  unfold q1__law_plan
  rw [v_sIf, v_tVal, v_xOp, hag, v_ok, v_xLst, v_aNil, v_ok, if_pos (by simp), v_ok, heq, v_cok, v_ok, v_asB, v_fok, List.isEmpty_map]
  cases hf : (es.filter fun e => agB e.1 pat).isEmpty with
  | true =>
    rw [List.isEmpty_iff] at hf
    rw [List.filter_eq_nil_iff] at hf
    refine ⟨es ++ [(pat, [c])], some (.fz (.int many)), some (.fz (.str (sg size))), some (.fz (.str pat)), some (.fz (.str [c])), ?_, ?_, ?_, ?_, ?_⟩
    · have hlt : es.length < 16777216 := Nat.lt_of_le_of_lt G.le (by omega)
      simp [hlt, ent]
    · have := G.le; simp; omega
    · intro _; simp
    · intro e he
      rcases List.mem_append.mp he with he | he
      · exact G.all e he
      · rw [List.mem_singleton] at he; rw [he]; exact hg
    · rw [List.pairwise_append]
      refine ⟨G.ap, List.pairwise_singleton _ _, fun a ha b hb => ?_⟩
      rw [List.mem_singleton] at hb
      rw [hb]
      simpa using hf a ha
  | false =>
    refine ⟨es, some (.fz (.int many)), some (.fz (.str (sg size))), some (.fz (.str pat)), some (.fz (.str [c])), ?_, ?_, ?_, ?_, ?_⟩
    · simp
    · have := G.le; omega
    · intro _
      cases es with
      | nil => simp at hf
      | cons e es => simp
    · exact G.all
    · exact G.ap
theorem n_plan (ns : List Int) (at_ : Int) (hat : 0 ≤ at_) (hl : ns.length < 1000) :
    ∃ (size : Nat) (es : List Ent) (n : Nat), Fn__law_plan [scr ns, .int at_] = .ok (.tup [.int size, .tup ((srt2 es).map ent)]) ∧ Gp size n es ∧ 1 ≤ n ∧ n ≤ 6 ∧ 2 ≤ size ∧ size ≤ 3 := by
  obtain ⟨c1, c2, c3⟩ := dr_ok (ns := ns) (k := at_) (m := 2) hat (by decide) hl
  obtain ⟨size, hsize⟩ : ∃ size : Nat, 2 + dr ns at_ 2 = (size : Int) := ⟨(2 + dr ns at_ 2).toNat, by omega⟩
  have hs : 2 ≤ size ∧ size ≤ 3 := by omega
  obtain ⟨d1, d2, d3⟩ := dr_ok (ns := ns) (k := at_ + 1) (m := 6) (by omega) (by decide) hl
  obtain ⟨m, hm⟩ : ∃ m : Nat, 1 + dr ns (at_ + 1) 6 = (m : Int) := ⟨(1 + dr ns (at_ + 1) 6).toNat, by omega⟩
  have e0 : Fn__law_plan [scr ns, .int at_] = outOf (sv__law_plan [some (.fz (scr ns)), some (.fz (.int at_)), none, none, none, none, none, none, none, none, none]) := rfl
  have hr := rng1_ok (n := m) (by omega)
  obtain ⟨env', h1, h2⟩ := forD_cnt (T := .nm 4) (b := b2__law_plan) ((List.range m).map fun (i : Nat) => D.int (i : Int)) (fun (n : Nat) env => ∃ es s4 s5 s6 s7 s9, env = [some (.fz (scr ns)), some (.fz (.int at_)), some (.fz (.int size)), some (.ow (.lst (es.map ent))), s4, s5, s6, s7, none, s9, none] ∧ Gp size n es)
    [some (.fz (scr ns)), some (.fz (.int at_)), some (.fz (.int size)), some (.ow (.lst (([] : List Ent).map ent))), none, none, none, none, none, none, none]
    ⟨[], none, none, none, none, none, rfl, ⟨by simp, fun h => absurd h (by decide), fun e he => absurd he (by simp), List.Pairwise.nil⟩⟩ (by
      rintro j x env hx ⟨es, s4, s5, s6, s7, s9, rfl, G⟩
      have hj : j < m := by
        have := (List.getElem?_eq_some_iff.mp hx).1
        simpa using this
      have hx' : x = D.int (j : Int) := by
        rw [List.getElem?_map, List.getElem?_range hj] at hx
        exact (Option.some.inj hx).symm
      subst hx'
      obtain ⟨es', s5', s6', s7', s9', e, G'⟩ := b_plan ns at_ size j (j : Int) es s5 s6 s7 s9 hat (by omega) hl hs.2 (by omega) G
      exact ⟨_, rfl, _, .inl e, es', _, s5', s6', s7', s9', rfl, G'⟩)
  obtain ⟨es, s4, s5, s6, s7, s9, rfl, G⟩ := h2
  refine ⟨size, es, m, ?_, by simpa using G, by omega, by omega, hs.1, hs.2⟩
  rw [e0]
  unfold sv__law_plan
  rw [seq_nx (env' := [some (.fz (scr ns)), some (.fz (.int at_)), some (.fz (.int size)), some (.ow (.lst (([] : List Ent).map ent))), none, none, none, none, none, none, none]) (by simp [c1, hsize])]
  rw [seq_nx (env' := [some (.fz (scr ns)), some (.fz (.int at_)), some (.fz (.int size)), some (.ow (.lst (es.map ent))), s4, s5, s6, s7, none, s9, none]) (by
    unfold q3__law_plan
    rw [← h1]
    simp [d1, hm, hr])]
  simp [sort_ents]
end Pv.W54

namespace Pv.W54
def letters : List Nat := [97, 98, 99, 100, 101, 102, 103, 104, 105, 106, 107, 108, 109, 110, 111, 112, 113, 114, 115, 116, 117, 118, 119, 120, 121, 122]
def wordB (v sg : List Nat) (lo hi : Int) : Bool := decide (lo ≤ v.length) && decide ((v.length : Int) ≤ hi) && v.all fun c => decide (c ∈ sg)
theorem in_ch (c : Nat) (l : List Nat) : inD (ch c) (.str l) = .ok (.bl (decide (c ∈ l))) := by simp [ch, inD, inB]
theorem n_is_word (v sg : List Nat) (lo hi : Int) : Fn_is_word [.str v, .str sg, .int lo, .int hi] = .ok (.bl (wordB v sg lo hi)) := by
  have e0 : Fn_is_word [.str v, .str sg, .int lo, .int hi] = outOf (sv_is_word [some (.fz (.str v)), some (.fz (.str sg)), some (.fz (.int lo)), some (.fz (.int hi)), none]) := rfl
  rw [e0]
  unfold sv_is_word
  have e := xLc_map (T := .nm 4) (own := [4]) (iv := iSeq (rdB 0)) (e := xOp inD (rdB 4) (rdB 1)) (env := [some (.fz (.str v)), some (.fz (.str sg)), some (.fz (.int lo)), some (.fz (.int hi)), none]) ch (fun c => .bl (decide (c ∈ sg))) v rfl (fun c _ => ⟨_, rfl, by simp [in_ch]⟩)
  have e2 := all_bls (v.map fun c => decide (c ∈ sg))
  rw [List.map_map] at e2
  have e3 : (v.map fun c => D.bl (decide (c ∈ sg))) = v.map (D.bl ∘ fun c => decide (c ∈ sg)) := rfl
  rw [e3] at e
  by_cases h1 : lo ≤ (v.length : Int)
  · by_cases h2 : (v.length : Int) ≤ hi
    · simp [lenD, h1, h2, e, e2, wordB]
    · simp [lenD, h1, h2, wordB]
  · simp [lenD, h1, wordB]
/-- the plan of a size and entries -/
def plan (size : Nat) (es : List Ent) : D := .tup [.int size, .tup (es.map ent)]
def okE (size : Nat) (e : Ent) : Bool := wordB e.1 (digs size ++ [120]) 1 6 && wordB e.2 letters 1 3
theorem sl_digs (size : Nat) : slD none (some (size : Int)) (.str [48, 49, 50, 51, 52, 53]) = .ok (.str (digs size)) := by
  show Res.ok (D.str (cutD _ _ _)) = _
  rw [cut_pre]; rfl
theorem digs_len (size : Nat) : (digs size).length ≤ 6 := by simp [digs]; omega
theorem add_any (size : Nat) : addD (.str (digs size)) (.str [120]) = .ok (.str (digs size ++ [120])) := by
  have := digs_len size
  show (if (digs size).length + 1 ≤ LIM then Res.ok (D.str (digs size ++ [120])) else Res.bad) = _
  rw [if_pos (by simp; omega)]
theorem n_is_entry (size : Nat) (e : Ent) : Fn_is_entry [.int size, ent e] = .ok (.bl (okE size e)) := by
  have e0 : Fn_is_entry [.int size, ent e] = outOf (sv_is_entry [some (.fz (.int size)), some (.fz (ent e))]) := rfl
  rw [e0]
  unfold sv_is_entry q1_is_entry
  have h1 : Fn_is_word [.str e.1, .str (digs size ++ [120]), .int 1, .int 6] = _ := n_is_word _ _ _ _
  have h2 : Fn_is_word [.str e.2, .str letters, .int 1, .int 3] = _ := n_is_word _ _ _ _
  unfold letters at h2
  cases hw : wordB e.1 (digs size ++ [120]) 1 6 with
  | true => simp [-v_addS, ent, lenD, ne_int, sl_digs, add_any, ix_tup (at0 _ _), ix_tup (at1 _ _ _), h1, h2, hw, okE, letters]
  | false => simp [-v_addS, ent, lenD, ne_int, sl_digs, add_any, ix_tup (at0 _ _), ix_tup (at1 _ _ _), h1, h2, hw, okE]
theorem cut_post {α : Type} (xs : List α) (n : Nat) : cutD xs (some (n : Int)) none = xs.drop n := by
  have h : sIx xs.length 0 (some (n : Int)) = min n xs.length := by
    unfold sIx
    dsimp only
    rw [if_neg (by omega)]
    omega
  unfold cutD
  rw [h]
  show (xs.drop (min n xs.length)).take (xs.length - min n xs.length) = _
  rcases Nat.le_total n xs.length with q | q
  · rw [Nat.min_eq_left q, List.take_of_length_le (by rw [List.length_drop]; omega)]
  · rw [Nat.min_eq_right q, Nat.sub_self, List.take_zero, List.drop_eq_nil_of_le q]
theorem enum_at : ∀ (ds : List D) (n j : Nat), (enumD n ds)[j]? = (ds[j]?).map fun d => .tup [.int ((n + j : Nat) : Int), d]
  | [], n, j => by simp [enumD]
  | d :: ds, n, 0 => by simp [enumD]
  | d :: ds, n, j + 1 => by
    rw [enumD, List.getElem?_cons_succ, enum_at ds (n + 1) j]
    simp only [List.getElem?_cons_succ]
    congr 1
    funext d
    congr 4
    omega
theorem enum_len : ∀ (ds : List D) (n : Nat), (enumD n ds).length = ds.length
  | [], _ => rfl
  | d :: ds, n => by rw [enumD]; simp [enum_len ds]
theorem pw_drop {α : Type} {R : α → α → Prop} {xs : List α} (h : xs.Pairwise R) {j : Nat} {x : α} (hx : xs[j]? = some x) : ∀ y ∈ xs.drop (j + 1), R x y := by
  induction xs generalizing j with
  | nil => simp at hx
  | cons a xs ih =>
    rw [List.pairwise_cons] at h
    cases j with
    | zero =>
      simp at hx
      subst hx
      simpa using h.1
    | succ j =>
      simp at hx ⊢
      exact ih h.2 hx
theorem n_are_apart (es : List Ent) (h : es.Pairwise fun a b => agB a.1 b.1 = false) : Fn_are_apart [.tup (es.map ent)] = .ok (.bl true) := by
  have e0 : Fn_are_apart [.tup (es.map ent)] = outOf (sv_are_apart [some (.fz (.tup (es.map ent))), none, none, none]) := rfl
  rw [e0]
  obtain ⟨env', h1, s1, s2, rfl⟩ := forD_cnt (T := .tp [1, 2]) (b := b2_are_apart) (enumD 0 (es.map ent)) (fun _ env => ∃ s1 s2, env = [some (.fz (.tup (es.map ent))), s1, s2, none]) [some (.fz (.tup (es.map ent))), none, none, none] ⟨none, none, rfl⟩ (by
    rintro j x env hx ⟨s1, s2, rfl⟩
    rw [enum_at, List.getElem?_map] at hx
    cases he : es[j]? with
    | none => rw [he] at hx; cases hx
    | some e =>
      rw [he] at hx
      have hx' : x = .tup [.int ((0 + j : Nat) : Int), ent e] := (Option.some.inj hx).symm
      subst hx'
      refine ⟨[some (.fz (.tup (es.map ent))), some (.fz (.int ((0 + j : Nat) : Int))), some (.fz (ent e)), none], rfl, [some (.fz (.tup (es.map ent))), some (.fz (.int ((0 + j : Nat) : Int))), some (.fz (ent e)), none], .inl ?_, _, _, rfl⟩
      unfold b2_are_apart q1_are_apart
      have hsl : slD (some (((0 + j : Nat) : Int) + 1)) none (.tup (es.map ent)) = .ok (.tup ((es.drop (j + 1)).map ent)) := by
        show Res.ok (D.tup (cutD _ _ _)) = _
        have : (((0 + j : Nat) : Int) + 1) = ((j + 1 : Nat) : Int) := by omega
        rw [this, cut_post, List.map_drop]
      have hlc := xLc_map (T := .nm 3) (own := [3]) (iv := iSeq (xSl (rdB 0) (some (xOp addD (rdB 1) (xC (.int 1)))) none)) (e := xCall Fn_agree (aCons (xOp ixD (rdB 2) (xC (.int 0))) (aCons (xOp ixD (rdB 3) (xC (.int 0))) aNil)))
        (env := [some (.fz (.tup (es.map ent))), some (.fz (.int ((0 + j : Nat) : Int))), some (.fz (ent e)), none]) ent (fun o => .bl (agB e.1 o.1)) (es.drop (j + 1)) (by simp only [v_iSeq, v_xSl, v_rdB, gt, v_ok, v_oIs, v_xOp, v_xC, v_cok, v_asI, v_oIn, addD, hsl]; rfl) (fun o _ => ⟨_, rfl, by simp [ent, ix_tup (at0 _ _), n_agree]⟩)
      have ha := any_bls ((es.drop (j + 1)).map fun o => agB e.1 o.1)
      rw [List.map_map] at ha
      have hf : ((es.drop (j + 1)).map fun o => agB e.1 o.1).any id = false := by
        rw [List.any_eq_false]
        intro b hb
        obtain ⟨o, ho, rfl⟩ := List.mem_map.mp hb
        have := pw_drop h he o ho
        simp [this]
      rw [hf] at ha
      rw [v_sIf, v_tVal, v_xU, hlc, v_ok, show (fun o : Ent => D.bl (agB e.1 o.1)) = D.bl ∘ fun o => agB e.1 o.1 from rfl, ha]
      simp)
  unfold sv_are_apart q3_are_apart
  rw [v_sSeq, v_sFor, v_iEnum, v_rdV]
  simp only [gt, v_ok, zpD, v_fok]
  rw [h1]
  simp
def cnt1 (size : Nat) (p : List Nat) : Nat := p.foldl (fun m c => m * (if c = 120 then size else 1)) 1
def cntA (size : Nat) (es : List Ent) : Nat := es.foldl (fun n e => n + cnt1 size e.1) 0
theorem n_count (size : Nat) (es : List Ent) (hs : size < 1000) : Fn_count_numbers [.int size, .tup (es.map ent)] = .ok (.int (cntA size es)) := by
  have e0 : Fn_count_numbers [.int size, .tup (es.map ent)] = outOf (sv_count_numbers [some (.fz (.int size)), some (.fz (.tup (es.map ent))), none, none, none, none, none]) := rfl
  rw [e0]
  have inner : ∀ (p : List Nat) (a : D) (f s4 s6 : Option Sl), ∃ s6', forD (.nm 6) b1_count_numbers (p.map ch) [some (.fz (.int size)), some (.fz a), f, some (.fz (.str p)), s4, some (.fz (.int 1)), s6] = .nx [some (.fz (.int size)), some (.fz a), f, some (.fz (.str p)), s4, some (.fz (.int (cnt1 size p))), s6'] := by
    intro p a f s4 s6
    obtain ⟨env', h1, s6', rfl⟩ := forD_fold (T := .nm 6) (b := b1_count_numbers) ch (fun (m : Nat) c => m * (if c = 120 then size else 1)) (fun m env => ∃ s6', env = [some (.fz (.int size)), some (.fz a), f, some (.fz (.str p)), s4, some (.fz (.int m)), s6']) p 1 _ ⟨s6, rfl⟩ (by
      rintro m env c _ ⟨s6', rfl⟩
      refine ⟨_, rfl, [some (.fz (.int size)), some (.fz a), f, some (.fz (.str p)), s4, some (.fz (.int (m * (if c = 120 then size else 1) : Nat))), some (.fz (ch c))], ?_, _, rfl⟩
      unfold b1_count_numbers
      have e1 : eqD (ch c) (.str [120]) = .ok (.bl (c == 120)) := eq_ch c 120
      have hm : ∀ j : Nat, j < 1000 → mulD (.int m) (.int j) = .ok (.int ((m * j : Nat) : Int)) := by
        intro j hj
        simp only [mulD]
        rw [if_pos (.inr ⟨by omega, by omega⟩)]
        simp
      have hm1 : mulD (.int m) (.int 1) = .ok (.int ((m * 1 : Nat) : Int)) := hm 1 (by decide)
      by_cases h : c = 120
      · subst h
        simp [-v_mulI, e1, hm size hs]
      · simp [-v_mulI, e1, h, hm1])
    exact ⟨s6', h1⟩
  obtain ⟨env', h1, s3, s4, s5, s6, rfl⟩ := forD_fold (T := .tp [3, 4]) (b := b3_count_numbers) ent (fun (n : Nat) e => n + cnt1 size e.1) (fun n env => ∃ s3 s4 s5 s6, env = [some (.fz (.int size)), some (.fz (.tup (es.map ent))), some (.fz (.int n)), s3, s4, s5, s6]) es 0 [some (.fz (.int size)), some (.fz (.tup (es.map ent))), some (.fz (.int (0 : Nat))), none, none, none, none] ⟨none, none, none, none, rfl⟩ (by
    rintro n env e _ ⟨s3, s4, s5, s6, rfl⟩
    obtain ⟨s6', hi⟩ := inner e.1 (.tup (es.map ent)) (some (.fz (.int n))) (some (.fz (.str e.2))) s6
    refine ⟨[some (.fz (.int size)), some (.fz (.tup (es.map ent))), some (.fz (.int n)), some (.fz (.str e.1)), some (.fz (.str e.2)), s5, s6], rfl, [some (.fz (.int size)), some (.fz (.tup (es.map ent))), some (.fz (.int (n + cnt1 size e.1 : Nat))), some (.fz (.str e.1)), some (.fz (.str e.2)), some (.fz (.int (cnt1 size e.1))), s6'], ?_, _, _, _, _, rfl⟩
    unfold b3_count_numbers q2_count_numbers
    have hz : zpD (.str e.1) = .ok (e.1.map ch) := rfl
    simp [hz, hi])
  unfold sv_count_numbers q4_count_numbers
  have h1' : forD (.tp [3, 4]) b3_count_numbers (es.map ent) [some (.fz (.int size)), some (.fz (.tup (es.map ent))), some (.fz (.int 0)), none, none, none, none] = _ := h1
  have hz : zpD (.tup (es.map ent)) = .ok (es.map ent) := rfl
  simp [hz, h1']
  rfl
/-- a plan that is one -/
structure OkP (size : Nat) (es : List Ent) : Prop where
  s2 : 2 ≤ size
  s6 : size ≤ 6
  l1 : 1 ≤ es.length
  l8 : es.length ≤ 8
  en : ∀ e ∈ es, okE size e = true
  lt : ∀ p ∈ es.zip (es.drop 1), dlt (ent p.1) (ent p.2) = true
  ap : es.Pairwise fun a b => agB a.1 b.1 = false
  ct : cntA size es ≤ 200
theorem n_is_int (i lo hi : Int) : Fn_is_int [.int i, .int lo, .int hi] = .ok (.bl (decide (lo ≤ i) && decide (i ≤ hi))) := by
  have e0 : Fn_is_int [.int i, .int lo, .int hi] = outOf (sv_is_int [some (.fz (.int i)), some (.fz (.int lo)), some (.fz (.int hi))]) := rfl
  rw [e0]
  unfold sv_is_int
  by_cases h : lo ≤ i <;> simp [h]
theorem zip_tups {α : Type} (f : α → D) (xs ys : List α) : zipD (.tup (xs.map f)) (.tup (ys.map f)) = .ok ((xs.zip ys).map fun p => .tup [f p.1, f p.2]) := by
  show Res.ok (zipW _ _) = _
  unfold zipW
  rw [List.zipWith_map_left, List.zipWith_map_right]
  simp [List.zip, List.map_zipWith]
theorem lt_ent (a b : Ent) : ltD (ent a) (ent b) = .ok (.bl (dlt (ent a) (ent b))) := by
  unfold ltD
  rw [if_pos]
  refine ⟨plain_ent a, plain_ent b, by simp [ent, alk, alks], by simp [ent, isNon], ?_⟩
  have := dep_ent a
  omega
theorem n_is_plan {size : Nat} {es : List Ent} (h : OkP size es) : Fn_is_plan [plan size es] = .ok (.bl true) := by
  have e0 : Fn_is_plan [plan size es] = outOf (sv_is_plan [some (.fz (plan size es)), none, none, none, none, none]) := rfl
  rw [e0]
  unfold sv_is_plan
  have hint := n_is_int size 2 6
  have h2 : (2 : Int) ≤ size := by have := h.s2; omega
  have h6 : (size : Int) ≤ 6 := by have := h.s6; omega
  have q1 : q1_is_plan [some (.fz (plan size es)), none, none, none, none, none] = .nx [some (.fz (plan size es)), none, none, none, none, none] := by
    unfold q1_is_plan plan
    simp [lenD, ne_int, ix_tup (at0 _ _), hint, h2, h6]
  have q2 : q2_is_plan [some (.fz (plan size es)), some (.fz (.int size)), some (.fz (.tup (es.map ent))), none, none, none] = .nx [some (.fz (plan size es)), some (.fz (.int size)), some (.fz (.tup (es.map ent))), none, none, none] := by
    unfold q2_is_plan
    have a1 : (1 : Int) ≤ es.length := by have := h.l1; omega
    have a2 : (es.length : Int) ≤ 8 := by have := h.l8; omega
    simp [lenD, a1, a2]
  have q3 : q3_is_plan [some (.fz (plan size es)), some (.fz (.int size)), some (.fz (.tup (es.map ent))), none, none, none] = .nx [some (.fz (plan size es)), some (.fz (.int size)), some (.fz (.tup (es.map ent))), none, none, none] := by
    unfold q3_is_plan
    have hl := xLc_map (T := .nm 3) (own := [3]) (iv := iSeq (rdB 2)) (e := xCall Fn_is_entry (aCons (rdV 1) (aCons (rdV 3) aNil))) (env := [some (.fz (plan size es)), some (.fz (.int size)), some (.fz (.tup (es.map ent))), none, none, none]) ent (fun e => .bl (okE size e)) es rfl (fun e _ => ⟨_, rfl, by simp [n_is_entry]⟩)
    have ha := all_bls (es.map (okE size))
    rw [List.map_map] at ha
    have hf : (es.map (okE size)).all id = true := by
      rw [List.all_eq_true]
      intro b hb
      obtain ⟨e, he, rfl⟩ := List.mem_map.mp hb
      simp [h.en e he]
    rw [hf] at ha
    rw [v_sIf, v_tNt, v_tVal, v_xU, hl, v_ok, show (fun e : Ent => D.bl (okE size e)) = D.bl ∘ okE size from rfl, ha]
    simp
  have q4 : q4_is_plan [some (.fz (plan size es)), some (.fz (.int size)), some (.fz (.tup (es.map ent))), none, none, none] = .nx [some (.fz (plan size es)), some (.fz (.int size)), some (.fz (.tup (es.map ent))), none, none, none] := by
    unfold q4_is_plan
    have hsl : slD (some 1) none (.tup (es.map ent)) = .ok (.tup ((es.drop 1).map ent)) := by
      show Res.ok (D.tup (cutD _ _ _)) = _
      have := cut_post (es.map ent) 1
      rw [show (some (1 : Int)) = some ((1 : Nat) : Int) from rfl, this, List.map_drop]
    have hl := xLc_map (T := .tp [4, 5]) (own := [4, 5]) (iv := iZip (rdV 2) (xSl (rdB 2) (some (xC (.int 1))) none)) (e := xOp ltD (rdB 4) (rdB 5)) (env := [some (.fz (plan size es)), some (.fz (.int size)), some (.fz (.tup (es.map ent))), none, none, none])
      (fun p : Ent × Ent => .tup [ent p.1, ent p.2]) (fun p => .bl (dlt (ent p.1) (ent p.2))) (es.zip (es.drop 1)) (by simp only [v_iZip, v_rdV, v_xSl, v_rdB, gt, v_ok, v_oIs, v_xC, v_asI, v_oIn, hsl, v_cok]; exact zip_tups ent es (es.drop 1)) (fun p _ => ⟨_, rfl, by simp [lt_ent]⟩)
    have ha := all_bls ((es.zip (es.drop 1)).map fun p => dlt (ent p.1) (ent p.2))
    rw [List.map_map] at ha
    have hf : ((es.zip (es.drop 1)).map fun p => dlt (ent p.1) (ent p.2)).all id = true := by
      rw [List.all_eq_true]
      intro b hb
      obtain ⟨p, hp, rfl⟩ := List.mem_map.mp hb
      simp [h.lt p hp]
    rw [hf] at ha
    rw [v_sIf, v_tNt, v_tVal, v_xU, hl, v_ok, show (fun p : Ent × Ent => D.bl (dlt (ent p.1) (ent p.2))) = D.bl ∘ fun p => dlt (ent p.1) (ent p.2) from rfl, ha]
    simp
  have hap := n_are_apart es h.ap
  have hct := n_count size es (by have := h.s6; omega)
  have h200 : (cntA size es : Int) ≤ 200 := by have := h.ct; omega
  rw [v_sSeq, q1]
  dsimp only
  rw [v_sSeq, show sAsg (.tp [1, 2]) (rdV 0) [some (.fz (plan size es)), none, none, none, none, none] = .nx [some (.fz (plan size es)), some (.fz (.int size)), some (.fz (.tup (es.map ent))), none, none, none] by simp [plan]]
  dsimp only
  rw [v_sSeq, q2]
  dsimp only
  rw [v_sSeq, q3]
  dsimp only
  rw [v_sSeq, q4]
  simp [hap, hct, h200]
end Pv.W54

namespace Pv.W54
theorem ag_comm (c d : Nat) : ag c d = ag d c := by
  unfold ag
  by_cases h : c = d
  · subst h; rfl
  · have h1 : (c == d) = false := beq_eq_false_iff_ne.mpr h
    have h2 : (d == c) = false := beq_eq_false_iff_ne.mpr (Ne.symm h)
    rw [h1, h2]
    cases (c == 120) <;> cases (d == 120) <;> rfl
theorem agB_comm (p q : List Nat) : agB p q = agB q p := by
  have key : ∀ p q : List Nat, ((p.zip q).all fun x => ag x.1 x.2) = (q.zip p).all fun x => ag x.1 x.2 := by
    intro p
    induction p with
    | nil => intro q; cases q <;> rfl
    | cons a p ih =>
      intro q
      cases q with
      | nil => rfl
      | cons b q => simp only [List.zip_cons_cons, List.all_cons]; rw [ih q, ag_comm a b]
  unfold agB
  rw [key p q]
  congr 1
  by_cases h : p.length = q.length
  · rw [h]
  · rw [beq_eq_false_iff_ne.mpr h, beq_eq_false_iff_ne.mpr (Ne.symm h)]
theorem agB_self (p : List Nat) : agB p p = true := by
  unfold agB
  have : ((p.zip p).all fun x => ag x.1 x.2) = true := by
    induction p with
    | nil => rfl
    | cons a p ih => simp only [List.zip_cons_cons, List.all_cons, ih]; simp [ag]
  rw [this]
  simp
theorem pw_next {α : Type} {R : α → α → Prop} : ∀ {xs : List α}, xs.Pairwise R → ∀ p ∈ xs.zip (xs.drop 1), R p.1 p.2
  | [], _, p, hp => by simp at hp
  | [a], _, p, hp => by simp at hp
  | a :: b :: xs, h, p, hp => by
    rw [List.pairwise_cons] at h
    simp only [List.drop_succ_cons, List.drop_zero, List.zip_cons_cons, List.mem_cons] at hp
    rcases hp with rfl | hp
    · exact h.1 b List.mem_cons_self
    · exact pw_next h.2 p (by simpa using hp)
theorem cntA_sum (size : Nat) (es : List Ent) : cntA size es = (es.map fun e => cnt1 size e.1).sum := by
  unfold cntA
  have key : ∀ (es : List Ent) (a : Nat), es.foldl (fun n e => n + cnt1 size e.1) a = a + (es.map fun e => cnt1 size e.1).sum := by
    intro es
    induction es with
    | nil => intro a; simp
    | cons e es ih => intro a; rw [List.foldl_cons, ih]; simp; omega
  rw [key, Nat.zero_add]
end Pv.W54

namespace Pv.W54
def dsOf (size c : Nat) : List Nat := if c = 120 then digs size else [c]
def nums (size : Nat) (p : List Nat) : List (List Nat) := p.foldl (fun s c => ext (dsOf size c) s) [[]]
theorem dsOf_len (size c : Nat) : (dsOf size c).length ≤ 6 := by
  unfold dsOf
  split
  · exact digs_len size
  · simp
theorem nums_snoc (size : Nat) (p : List Nat) (c : Nat) : nums size (p ++ [c]) = ext (dsOf size c) (nums size p) := by simp [nums]
theorem nums_ok (size : Nat) : ∀ (p : List Nat), (nums size p).length ≤ 6 ^ p.length ∧ ∀ w ∈ nums size p, w.length = p.length := by
  have key : ∀ (p : List Nat) (s : List (List Nat)) (n : Nat), (∀ w ∈ s, w.length = n) → (p.foldl (fun s c => ext (dsOf size c) s) s).length ≤ s.length * 6 ^ p.length ∧ ∀ w ∈ p.foldl (fun s c => ext (dsOf size c) s) s, w.length = n + p.length := by
    intro p
    induction p with
    | nil => intro s n h; simpa using h
    | cons c p ih =>
      intro s n h
      obtain ⟨h1, h2⟩ := ih (ext (dsOf size c) s) (n + 1) (fun w hw => by
        obtain ⟨x, hx, d, _, rfl⟩ := ext_mem hw
        simp [h x hx])
      refine ⟨?_, fun w hw => by have := h2 w hw; simp; omega⟩
      rw [List.foldl_cons]
      refine Nat.le_trans h1 ?_
      rw [ext_len, List.length_cons, Nat.pow_succ, Nat.mul_comm (6 ^ p.length) 6, ← Nat.mul_assoc]
      exact Nat.mul_le_mul_right _ (Nat.mul_le_mul_left _ (dsOf_len size c))
  intro p
  obtain ⟨h1, h2⟩ := key p [[]] 0 (by simp)
  exact ⟨by simpa [nums] using h1, fun w hw => by have := h2 w hw; omega⟩
theorem n_digits (size : Nat) (es : List Ent) : Fn_digits_of [plan size es] = .ok (.str (digs size)) := by
  have e0 : Fn_digits_of [plan size es] = outOf (sv_digits_of [some (.fz (plan size es))]) := rfl
  rw [e0]
  unfold sv_digits_of plan
  simp [ix_tup (at0 _ _), sl_digs]
theorem add_ch {w : List Nat} (d : Nat) (h : w.length ≤ 100) : addD (.str w) (ch d) = .ok (.str (w ++ [d])) := by
  show (if w.length + 1 ≤ LIM then Res.ok (D.str (w ++ [d])) else Res.bad) = _
  rw [if_pos (by simp; omega)]
theorem strs_ext (ds : List Nat) (w : List Nat) : (ds.map fun d => D.str (w ++ [d])) = (ds.map fun d => w ++ [d]).map D.str := by simp
theorem i_numbers (size : Nat) (es : List Ent) (pat : D) (c : Nat) (s : List (List Nat)) (s5 : Option Sl) (hs : s.length ≤ 100000) (hw : ∀ w ∈ s, w.length ≤ 100) :
    ∃ s5', forD (.nm 5) b1_numbers_of (s.map D.str) [some (.fz (plan size es)), some (.fz pat), some (.fz (.lst (s.map D.str))), some (.fz (ch c)), some (.ow (.lst [])), s5, none] =
      .nx [some (.fz (plan size es)), some (.fz pat), some (.fz (.lst (s.map D.str))), some (.fz (ch c)), some (.ow (.lst ((ext (dsOf size c) s).map D.str))), s5', none] := by
  obtain ⟨env', h1, s5', e⟩ := forD_cnt (T := .nm 5) (b := b1_numbers_of) (s.map D.str) (fun j env => ∃ s5', env = [some (.fz (plan size es)), some (.fz pat), some (.fz (.lst (s.map D.str))), some (.fz (ch c)), some (.ow (.lst ((ext (dsOf size c) (s.take j)).map D.str))), s5', none]) [some (.fz (plan size es)), some (.fz pat), some (.fz (.lst (s.map D.str))), some (.fz (ch c)), some (.ow (.lst [])), s5, none]
    ⟨s5, by simp [ext]⟩ (by
      rintro j x env hx ⟨s5', rfl⟩
      rw [List.getElem?_map] at hx
      cases hj : s[j]? with
      | none => rw [hj] at hx; cases hx
      | some w =>
        rw [hj] at hx
        have hx' : x = .str w := (Option.some.inj hx).symm
        subst hx'
        have hwl := hw w (List.mem_of_getElem? hj)
        have hjl : j < s.length := (List.getElem?_eq_some_iff.mp hj).1
        refine ⟨[some (.fz (plan size es)), some (.fz pat), some (.fz (.lst (s.map D.str))), some (.fz (ch c)), some (.ow (.lst ((ext (dsOf size c) (s.take j)).map D.str))), some (.fz (.str w)), none], rfl, [some (.fz (plan size es)), some (.fz pat), some (.fz (.lst (s.map D.str))), some (.fz (ch c)), some (.ow (.lst ((ext (dsOf size c) (s.take (j + 1))).map D.str))), some (.fz (.str w)), none], .inl ?_, _, rfl⟩
        unfold b1_numbers_of
        have hi : iSeq (xIf (tVal (xOp eqD (rdB 3) (xC (.str [120])))) (xCall Fn_digits_of (aCons (rdV 0) aNil)) (rdV 3)) [some (.fz (plan size es)), some (.fz pat), some (.fz (.lst (s.map D.str))), some (.fz (ch c)), some (.ow (.lst ((ext (dsOf size c) (s.take j)).map D.str))), some (.fz (.str w)), none] = .ok ((dsOf size c).map ch) := by
          have e1 : eqD (ch c) (.str [120]) = .ok (.bl (c == 120)) := eq_ch c 120
          have hz : ∀ l, zpD (.str l) = .ok (l.map ch) := fun _ => rfl
          by_cases h : c = 120
          · subst h
            simp [e1, n_digits, hz, dsOf]
          · simp [e1, h, dsOf]
            rfl
        have hl := xLc_map (T := .nm 6) (own := [6]) (e := xOp addD (rdB 5) (rdB 6)) ch (fun d => .str (w ++ [d])) (dsOf size c) hi (fun d _ => ⟨_, rfl, by simp [-v_addS, add_ch d hwl]⟩)
        have hlen : (ext (dsOf size c) (s.take j)).length + (dsOf size c).length ≤ 16777216 := by
          have h1 := dsOf_len size c
          rw [ext_len]
          have h2 : (s.take j).length ≤ 100000 := by rw [List.length_take]; omega
          have := Nat.mul_le_mul h2 h1
          omega
        rw [v_sExt, hl]
        simp only [gt, v_fok, exD]
        rw [if_pos (by simpa using hlen), take_snoc hj, ext_snoc, List.map_append, strs_ext]
        rfl)
  refine ⟨s5', ?_⟩
  rw [h1, e]
  simp
theorem n_numbers_of (size : Nat) (es : List Ent) (p : List Nat) (hp : p.length ≤ 6) : Fn_numbers_of [plan size es, .str p] = .ok (.lst ((nums size p).map D.str)) := by
  have e0 : Fn_numbers_of [plan size es, .str p] = outOf (sv_numbers_of [some (.fz (plan size es)), some (.fz (.str p)), none, none, none, none, none]) := rfl
  rw [e0]
  obtain ⟨env', h1, s3, s4, s5, rfl⟩ := forD_cnt (T := .nm 3) (b := b3_numbers_of) (p.map ch) (fun j env => ∃ s3 s4 s5, env = [some (.fz (plan size es)), some (.fz (.str p)), some (.fz (.lst ((nums size (p.take j)).map D.str))), s3, s4, s5, none]) [some (.fz (plan size es)), some (.fz (.str p)), some (.fz (.lst [.str []])), none, none, none, none]
    ⟨none, none, none, by simp [nums]⟩ (by
      rintro j x env hx ⟨s3, s4, s5, rfl⟩
      rw [List.getElem?_map] at hx
      cases hj : p[j]? with
      | none => rw [hj] at hx; cases hx
      | some c =>
        rw [hj] at hx
        have hx' : x = ch c := (Option.some.inj hx).symm
        subst hx'
        have hjl : j < p.length := (List.getElem?_eq_some_iff.mp hj).1
        obtain ⟨k1, k2⟩ := nums_ok size (p.take j)
        have hlj : (p.take j).length = j := by rw [List.length_take]; omega
        rw [hlj] at k1 k2
        have hpow : 6 ^ j ≤ 6 ^ 6 := Nat.pow_le_pow_right (by decide) (by omega)
        obtain ⟨s5', hi⟩ := i_numbers size es (.str p) c (nums size (p.take j)) s5 (by omega) (fun w hw => by have := k2 w hw; omega)
        refine ⟨_, rfl, [some (.fz (plan size es)), some (.fz (.str p)), some (.fz (.lst ((nums size (p.take (j + 1))).map D.str))), some (.fz (ch c)), some (.fz (.lst ((nums size (p.take (j + 1))).map D.str))), s5', none], .inl ?_, _, _, _, rfl⟩
        unfold b3_numbers_of q2_numbers_of
        rw [take_snoc hj, nums_snoc]
        have hz : zpD (.lst ((nums size (p.take j)).map D.str)) = .ok ((nums size (p.take j)).map D.str) := rfl
        simp [hz, hi])
  unfold sv_numbers_of q4_numbers_of
  have hz : zpD (.str p) = .ok (p.map ch) := rfl
  simp [hz, h1]
end Pv.W54

namespace Pv.W54
abbrev Kvs := List (List Nat × D)
def puts (h : List Nat) (kvs : Kvs) (ns : List (List Nat)) : Kvs := ns.foldl (fun kvs n => putD kvs n (.str h)) kvs
def dictOf (size : Nat) (es : List Ent) : Kvs := es.foldl (fun kvs e => puts e.2 kvs (nums size e.1)) []
theorem puts_len (h : List Nat) : ∀ (ns : List (List Nat)) (kvs : Kvs), (puts h kvs ns).length ≤ kvs.length + ns.length
  | [], kvs => by simp [puts]
  | n :: ns, kvs => by
    have := puts_len h ns (putD kvs n (.str h))
    have h2 := put_len kvs n (.str h)
    show (puts h (putD kvs n (.str h)) ns).length ≤ _
    simp only [List.length_cons]
    omega
theorem puts_snoc (h : List Nat) (kvs : Kvs) (ns : List (List Nat)) (n : List Nat) : puts h kvs (ns ++ [n]) = putD (puts h kvs ns) n (.str h) := by simp [puts]
theorem dictOf_snoc (size : Nat) (es : List Ent) (e : Ent) : dictOf size (es ++ [e]) = puts e.2 (dictOf size es) (nums size e.1) := by simp [dictOf]
theorem nums_len (size : Nat) {p : List Nat} (h : p.length ≤ 6) : (nums size p).length ≤ 46656 := Nat.le_trans (nums_ok size p).1 (Nat.le_trans (Nat.pow_le_pow_right (by decide) h) (by decide))
theorem dictOf_len (size : Nat) (es : List Ent) (h : ∀ e ∈ es, e.1.length ≤ 6) : (dictOf size es).length ≤ 46656 * es.length := by
  have key : ∀ (es : List Ent) (kvs : Kvs), (∀ e ∈ es, e.1.length ≤ 6) → (es.foldl (fun kvs e => puts e.2 kvs (nums size e.1)) kvs).length ≤ kvs.length + 46656 * es.length := by
    intro es
    induction es with
    | nil => intro kvs _; simp
    | cons e es ih =>
      intro kvs h
      have h1 := ih (puts e.2 kvs (nums size e.1)) fun x hx => h x (List.mem_cons_of_mem _ hx)
      have h2 := puts_len e.2 (nums size e.1) kvs
      have h3 := nums_len size (h e List.mem_cons_self)
      rw [List.foldl_cons, List.length_cons]
      omega
  have := key es [] h
  simpa [dictOf] using this
theorem i_find (kvs : Kvs) (h : List Nat) (ns : List (List Nat)) (a b : D) (s4 : Option Sl) (hl : kvs.length + ns.length ≤ 1000000) :
    ∃ s4', forD (.nm 4) b1_find_holders (ns.map D.str) [some (.fz a), some (.ow (.dic kvs)), some (.fz b), some (.fz (.str h)), s4] = .nx [some (.fz a), some (.ow (.dic (puts h kvs ns))), some (.fz b), some (.fz (.str h)), s4'] := by
  obtain ⟨env', h1, s4', e⟩ := forD_cnt (T := .nm 4) (b := b1_find_holders) (ns.map D.str) (fun j env => ∃ s4', env = [some (.fz a), some (.ow (.dic (puts h kvs (ns.take j)))), some (.fz b), some (.fz (.str h)), s4']) [some (.fz a), some (.ow (.dic kvs)), some (.fz b), some (.fz (.str h)), s4] ⟨s4, by simp [puts]⟩ (by
    rintro j x env hx ⟨s4', rfl⟩
    rw [List.getElem?_map] at hx
    cases hj : ns[j]? with
    | none => rw [hj] at hx; cases hx
    | some w =>
      rw [hj] at hx
      have hx' : x = .str w := (Option.some.inj hx).symm
      subst hx'
      have hlt : (puts h kvs (ns.take j)).length < 16777216 := by
        have := puts_len h (ns.take j) kvs
        have h2 : (ns.take j).length ≤ ns.length := by rw [List.length_take]; omega
        omega
      refine ⟨[some (.fz a), some (.ow (.dic (puts h kvs (ns.take j)))), some (.fz b), some (.fz (.str h)), some (.fz (.str w))], rfl, [some (.fz a), some (.ow (.dic (puts h kvs (ns.take (j + 1))))), some (.fz b), some (.fz (.str h)), some (.fz (.str w))], .inl ?_, _, rfl⟩
      unfold b1_find_holders
      rw [take_snoc hj, puts_snoc]
      simp [hlt])
  refine ⟨s4', ?_⟩
  rw [h1, e]
  simp
theorem n_find {size : Nat} {es : List Ent} (hl : es.length ≤ 8) (h : ∀ e ∈ es, e.1.length ≤ 6) : Fn_find_holders [plan size es] = .ok (.dic (dictOf size es)) := by
  have e0 : Fn_find_holders [plan size es] = outOf (sv_find_holders [some (.fz (plan size es)), none, none, none, none]) := rfl
  rw [e0]
  obtain ⟨env', h1, s2, s3, s4, rfl⟩ := forD_cnt (T := .tp [2, 3]) (b := b3_find_holders) (es.map ent) (fun j env => ∃ s2 s3 s4, env = [some (.fz (plan size es)), some (.ow (.dic (dictOf size (es.take j)))), s2, s3, s4]) [some (.fz (plan size es)), some (.ow (.dic [])), none, none, none] ⟨none, none, none, by simp [dictOf]⟩ (by
    rintro j x env hx ⟨s2, s3, s4, rfl⟩
    rw [List.getElem?_map] at hx
    cases hj : es[j]? with
    | none => rw [hj] at hx; cases hx
    | some e =>
      rw [hj] at hx
      have hx' : x = ent e := (Option.some.inj hx).symm
      subst hx'
      have hm := List.mem_of_getElem? hj
      have hjl : j < es.length := (List.getElem?_eq_some_iff.mp hj).1
      have hd := dictOf_len size (es.take j) fun x hx => h x (List.mem_of_mem_take hx)
      have hn := nums_len size (h e hm)
      have h2 : (es.take j).length ≤ 8 := by rw [List.length_take]; omega
      obtain ⟨s4', hi⟩ := i_find (dictOf size (es.take j)) e.2 (nums size e.1) (plan size es) (.str e.1) s4 (by omega)
      refine ⟨[some (.fz (plan size es)), some (.ow (.dic (dictOf size (es.take j)))), some (.fz (.str e.1)), some (.fz (.str e.2)), s4], rfl, [some (.fz (plan size es)), some (.ow (.dic (dictOf size (es.take (j + 1))))), some (.fz (.str e.1)), some (.fz (.str e.2)), s4'], .inl ?_, _, _, _, rfl⟩
      unfold b3_find_holders q2_find_holders
      rw [take_snoc hj, dictOf_snoc]
      have hz : ∀ l, zpD (.lst l) = .ok l := fun _ => rfl
      simp [n_numbers_of size es e.1 (h e hm), hz, hi])
  unfold sv_find_holders q4_find_holders
  have hz : ∀ l, zpD (.tup l) = .ok l := fun _ => rfl
  have hx : ixD (plan size es) (.int 1) = .ok (.tup (es.map ent)) := ix_tup (at1 _ _ _)
  simp [hz, hx, h1]
end Pv.W54

namespace Pv.W54
theorem nums_chars {size : Nat} {p : List Nat} (hp : ∀ c ∈ p, c ∈ digs size ++ [120]) : ∀ w ∈ nums size p, ∀ c ∈ w, c ∈ digs size := by
  have key : ∀ (p : List Nat) (s : List (List Nat)), (∀ c ∈ p, c ∈ digs size ++ [120]) → (∀ w ∈ s, ∀ c ∈ w, c ∈ digs size) → ∀ w ∈ p.foldl (fun s c => ext (dsOf size c) s) s, ∀ c ∈ w, c ∈ digs size := by
    intro p
    induction p with
    | nil => intro s _ h; exact h
    | cons c p ih =>
      intro s hp h
      rw [List.foldl_cons]
      refine ih _ (fun d hd => hp d (List.mem_cons_of_mem _ hd)) fun w hw d hd => ?_
      obtain ⟨x, hx, y, hy, rfl⟩ := ext_mem hw
      rcases List.mem_append.mp hd with q | q
      · exact h x hx d q
      · rw [List.mem_singleton] at q
        subst q
        unfold dsOf at hy
        split at hy
        · exact hy
        · rw [List.mem_singleton] at hy
          subst hy
          rcases List.mem_append.mp (hp d List.mem_cons_self) with z | z
          · exact z
          · rw [List.mem_singleton] at z
            rename_i hne
            exact absurd z hne
  exact key p [[]] hp (by simp)
theorem put_mem {kvs : Kvs} {k : List Nat} {v : D} {kv : List Nat × D} (h : kv ∈ putD kvs k v) : kv ∈ kvs ∨ kv = (k, v) := by
  unfold putD at h
  split at h
  · obtain ⟨x, hx, e⟩ := List.mem_map.mp h
    split at e
    · rename_i q
      rw [← e, q]; exact .inr rfl
    · rw [← e]; exact .inl hx
  · rcases List.mem_append.mp h with q | q
    · exact .inl q
    · rw [List.mem_singleton] at q; exact .inr q
theorem puts_mem {h : List Nat} : ∀ (ns : List (List Nat)) {kvs : Kvs} {kv : List Nat × D}, kv ∈ puts h kvs ns → kv ∈ kvs ∨ (kv.1 ∈ ns ∧ kv.2 = .str h)
  | [], kvs, kv, q => .inl q
  | n :: ns, kvs, kv, q => by
    rcases puts_mem ns (kvs := putD kvs n (.str h)) q with z | ⟨z1, z2⟩
    · rcases put_mem z with y | y
      · exact .inl y
      · rw [y]; exact .inr ⟨List.mem_cons_self, rfl⟩
    · exact .inr ⟨List.mem_cons_of_mem _ z1, z2⟩
theorem dict_mem {size : Nat} : ∀ {es : List Ent} {kv : List Nat × D}, kv ∈ dictOf size es → ∃ e ∈ es, kv.1 ∈ nums size e.1 ∧ kv.2 = .str e.2 := by
  have key : ∀ (es : List Ent) (kvs : Kvs) (kv : List Nat × D), kv ∈ es.foldl (fun kvs e => puts e.2 kvs (nums size e.1)) kvs → kv ∈ kvs ∨ ∃ e ∈ es, kv.1 ∈ nums size e.1 ∧ kv.2 = .str e.2 := by
    intro es
    induction es with
    | nil => intro kvs kv h; exact .inl h
    | cons e es ih =>
      intro kvs kv h
      rw [List.foldl_cons] at h
      rcases ih _ _ h with q | ⟨x, hx, q⟩
      · rcases puts_mem _ q with z | ⟨z1, z2⟩
        · exact .inl z
        · exact .inr ⟨e, List.mem_cons_self, z1, z2⟩
      · exact .inr ⟨x, List.mem_cons_of_mem _ hx, q⟩
  intro es kv h
  rcases key es [] kv h with q | q
  · simp at q
  · exact q
theorem look_str {size : Nat} {es : List Ent} {k : List Nat} {d : D} (h : lookD (dictOf size es) k = some d) : ∃ s, d = .str s := by
  unfold lookD at h
  cases q : (dictOf size es).find? (fun kv => decide (kv.1 = k)) with
  | none => rw [q] at h; cases h
  | some kv =>
    rw [q] at h
    obtain ⟨e, _, _, e2⟩ := dict_mem (List.mem_of_find?_eq_some q)
    have : kv.2 = d := Option.some.inj h
    rw [← this, e2]
    exact ⟨_, rfl⟩
theorem ne_self {d : D} (h : plain d = true) (h2 : dep d ≤ 60) : neD d d = .ok (.bl false) := by
  unfold neD
  rw [if_pos ⟨h, h, by omega⟩, deq_refl d h]
  rfl
end Pv.W54

namespace Pv.W54
theorem n_check_plan {size : Nat} {es : List Ent} (h : OkP size es) : Fn_check_plan [plan size es] = .ok .non := by
  have e0 : Fn_check_plan [plan size es] = outOf (sv_check_plan [some (.fz (plan size es))]) := rfl
  rw [e0]
  unfold sv_check_plan q1_check_plan
  simp [n_is_plan h]
theorem n_check_bad {d : D} (h : Fn_is_plan [d] = .ok (.bl false)) : Fn_check_plan [d] = .exc "InvalidPlan" := by
  have e0 : Fn_check_plan [d] = outOf (sv_check_plan [some (.fz d)]) := rfl
  rw [e0]
  unfold sv_check_plan q1_check_plan
  simp [h]
theorem n_has_row (size : Nat) (es : List Ent) (r : List Nat) : Fn_has_row [plan size es, .str r] = .ok (.bl (wordB r (digs size) 0 12)) := by
  have e0 : Fn_has_row [plan size es, .str r] = outOf (sv_has_row [some (.fz (plan size es)), some (.fz (.str r))]) := rfl
  rw [e0]
  unfold sv_has_row
  simp [n_digits, n_is_word]
theorem n_check_row {size : Nat} {es : List Ent} (h : OkP size es) {r : D} (hr : Fn_has_row [plan size es, r] = .ok (.bl true)) : Fn_check_row [plan size es, r] = .ok .non := by
  have e0 : Fn_check_row [plan size es, r] = outOf (sv_check_row [some (.fz (plan size es)), some (.fz r)]) := rfl
  rw [e0]
  unfold sv_check_row q1_check_row
  simp [n_check_plan h, hr]
theorem n_check_row_bad {size : Nat} {es : List Ent} (h : OkP size es) {r : D} (hr : Fn_has_row [plan size es, r] = .ok (.bl false)) : Fn_check_row [plan size es, r] = .exc "InvalidRow" := by
  have e0 : Fn_check_row [plan size es, r] = outOf (sv_check_row [some (.fz (plan size es)), some (.fz r)]) := rfl
  rw [e0]
  unfold sv_check_row q1_check_row
  simp [n_check_plan h, hr]
theorem n_check_row_plan {d r : D} (h : Fn_is_plan [d] = .ok (.bl false)) : Fn_check_row [d, r] = .exc "InvalidPlan" := by
  have e0 : Fn_check_row [d, r] = outOf (sv_check_row [some (.fz d), some (.fz r)]) := rfl
  rw [e0]
  unfold sv_check_row
  simp [n_check_bad h]
theorem OkP.short {size : Nat} {es : List Ent} (h : OkP size es) : ∀ e ∈ es, e.1.length ≤ 6 ∧ ∀ c ∈ e.1, c ∈ digs size ++ [120] := by
  intro e he
  have := h.en e he
  unfold okE wordB at this
  simp only [Bool.and_eq_true, decide_eq_true_eq, List.all_eq_true] at this
  exact ⟨by omega, this.1.2⟩
end Pv.W54

namespace Pv.W54
theorem puts_keys {h : List Nat} {x : List Nat} : ∀ (ns : List (List Nat)) (kvs : Kvs), x ∈ keysD (puts h kvs ns) ↔ x ∈ keysD kvs ∨ x ∈ ns
  | [], kvs => by simp [puts]
  | n :: ns, kvs => by
    show x ∈ keysD (puts h (putD kvs n (.str h)) ns) ↔ _
    rw [puts_keys ns, mem_put, List.mem_cons, or_assoc]
theorem puts_nodup {h : List Nat} : ∀ (ns : List (List Nat)) (kvs : Kvs), (keysD kvs).Nodup → (keysD (puts h kvs ns)).Nodup
  | [], kvs, k => k
  | n :: ns, kvs, k => puts_nodup ns (putD kvs n (.str h)) (nodup_put k)
theorem dict_nodup (size : Nat) (es : List Ent) : (keysD (dictOf size es)).Nodup := by
  have key : ∀ (es : List Ent) (kvs : Kvs), (keysD kvs).Nodup → (keysD (es.foldl (fun kvs e => puts e.2 kvs (nums size e.1)) kvs)).Nodup := by
    intro es
    induction es with
    | nil => intro kvs h; exact h
    | cons e es ih => intro kvs h; exact ih _ (puts_nodup _ _ h)
  exact key es [] (by simp [keysD])
theorem dict_keys {size : Nat} {x : List Nat} (es : List Ent) : x ∈ keysD (dictOf size es) ↔ ∃ e ∈ es, x ∈ nums size e.1 := by
  have key : ∀ (es : List Ent) (kvs : Kvs), x ∈ keysD (es.foldl (fun kvs e => puts e.2 kvs (nums size e.1)) kvs) ↔ x ∈ keysD kvs ∨ ∃ e ∈ es, x ∈ nums size e.1 := by
    intro es
    induction es with
    | nil => intro kvs; simp
    | cons e es ih =>
      intro kvs
      rw [List.foldl_cons, ih, puts_keys, or_assoc]
      simp
  have := key es []
  simpa [keysD, dictOf] using this
theorem key_len {size : Nat} {es : List Ent} {x : List Nat} (h : x ∈ keysD (dictOf size es)) : ∃ e ∈ es, x.length = e.1.length := by
  obtain ⟨e, he, hx⟩ := (dict_keys es).mp h
  exact ⟨e, he, (nums_ok size e.1).2 _ hx⟩
def isBeg (ks : List (List Nat)) (x : List Nat) : Prop := x = [] ∨ ∃ n ∈ ks, ∃ j, j < n.length ∧ x = n.take j
theorem i_beg (kvs : Kvs) (n : List Nat) (a : D) (s3 : Option Sl) (hn : n.length ≤ 6) (hl : kvs.length + 6 < 16777216) :
    ∃ kvs' s3', q2_find_beginnings [some (.fz a), some (.ow (.dic kvs)), some (.fz (.str n)), s3] = .nx [some (.fz a), some (.ow (.dic kvs')), some (.fz (.str n)), s3'] ∧ kvs'.length ≤ kvs.length + 6 ∧ ∀ x, x ∈ keysD kvs' ↔ x ∈ keysD kvs ∨ ∃ j, j < n.length ∧ x = n.take j := by
  obtain ⟨env', h1, kvs', s3', rfl, h2, h3⟩ := forD_cnt (T := .nm 3) (b := b1_find_beginnings) ((List.range n.length).map fun (i : Nat) => D.int (i : Int))
    (fun j env => ∃ kvs' s3', env = [some (.fz a), some (.ow (.dic kvs')), some (.fz (.str n)), s3'] ∧ kvs'.length ≤ kvs.length + j ∧ ∀ x, x ∈ keysD kvs' ↔ x ∈ keysD kvs ∨ ∃ i, i < j ∧ x = n.take i)
    [some (.fz a), some (.ow (.dic kvs)), some (.fz (.str n)), s3] ⟨kvs, s3, rfl, by simp, fun x => by simp⟩ (by
      rintro j x env hx ⟨kvs', s3', rfl, h2, h3⟩
      have hj : j < n.length := by
        have := (List.getElem?_eq_some_iff.mp hx).1
        simpa using this
      rw [List.getElem?_map, List.getElem?_range hj] at hx
      cases hx
      refine ⟨[some (.fz a), some (.ow (.dic kvs')), some (.fz (.str n)), some (.fz (.int (j : Int)))], rfl, [some (.fz a), some (.ow (.dic (putD kvs' (n.take j) (.bl true)))), some (.fz (.str n)), some (.fz (.int (j : Int)))], .inl ?_, _, _, rfl, ?_, ?_⟩
      · unfold b1_find_beginnings
        have hs : slD none (some (j : Int)) (.str n) = .ok (.str (n.take j)) := by
          show Res.ok (D.str (cutD _ _ _)) = _
          rw [cut_pre]
        simp [hs, show kvs'.length < 16777216 by omega]
      · have := put_len kvs' (n.take j) (.bl true); omega
      · intro x
        rw [mem_put, h3 x]
        constructor
        · rintro ((h | ⟨i, hi, e⟩) | e)
          · exact .inl h
          · exact .inr ⟨i, by omega, e⟩
          · exact .inr ⟨j, by omega, e⟩
        · rintro (h | ⟨i, hi, e⟩)
          · exact .inl (.inl h)
          · by_cases q : i = j
            · subst q; exact .inr e
            · exact .inl (.inr ⟨i, by omega, e⟩))
  refine ⟨kvs', s3', ?_, ?_, ?_⟩
  · unfold q2_find_beginnings
    simp [lenD, rng1_ok (show n.length ≤ 1000 by omega), h1]
  · simp at h2; omega
  · simpa using h3
theorem n_beg (kvs : Kvs) (h6 : ∀ k ∈ keysD kvs, k.length ≤ 6) (hl : kvs.length ≤ 400000) : ∃ B : Kvs, Fn_find_beginnings [.dic kvs] = .ok (.dic B) ∧ ∀ x, x ∈ keysD B ↔ isBeg (keysD kvs) x := by
  have e0 : Fn_find_beginnings [.dic kvs] = outOf (sv_find_beginnings [some (.fz (.dic kvs)), none, none, none]) := rfl
  have hkl : (keysD kvs).length = kvs.length := by simp [keysD]
  obtain ⟨env', h1, B, s2, s3, rfl, h2, h3⟩ := forD_seen (T := .nm 2) (b := b3_find_beginnings) D.str
    (fun pre env => ∃ B s2 s3, env = [some (.fz (.dic kvs)), some (.ow (.dic B)), s2, s3] ∧ B.length ≤ 1 + 6 * pre.length ∧ ∀ x, x ∈ keysD B ↔ isBeg pre x) (keysD kvs)
    [some (.fz (.dic kvs)), some (.ow (.dic [([], .bl true)])), none, none] ⟨_, _, _, rfl, by simp, fun x => by simp [isBeg, keysD]⟩ (by
      rintro pre n post env e ⟨B, s2, s3, rfl, h2, h3⟩
      have hn := h6 n (by rw [e]; simp)
      have hpl : pre.length < kvs.length := by rw [← hkl, e]; simp
      obtain ⟨B', s3', i1, i2, i3⟩ := i_beg B n (.dic kvs) s3 hn (by omega)
      refine ⟨[some (.fz (.dic kvs)), some (.ow (.dic B)), some (.fz (.str n)), s3], rfl, _, i1, B', _, _, rfl, ?_, ?_⟩
      · rw [List.length_append]; simp; omega
      · intro x
        rw [i3, h3]
        unfold isBeg
        constructor
        · rintro ((h | ⟨m, hm, q⟩) | q)
          · exact .inl h
          · exact .inr ⟨m, by simp [hm], q⟩
          · exact .inr ⟨n, by simp, q⟩
        · rintro (h | ⟨m, hm, q⟩)
          · exact .inl (.inl h)
          · rcases List.mem_append.mp hm with hm | hm
            · exact .inl (.inr ⟨m, hm, q⟩)
            · rw [List.mem_singleton] at hm
              subst hm
              exact .inr q)
  refine ⟨B, ?_, h3⟩
  rw [e0]
  unfold sv_find_beginnings q4_find_beginnings
  have hm : mergeD [] [([], D.bl true)] = [([], .bl true)] := rfl
  simp [hm, keys_map, h1]
def K (size : Nat) (es : List Ent) : List (List Nat) := keysD (dictOf size es)
theorem n_index {size : Nat} {es : List Ent} (h : OkP size es) : ∃ B : Kvs, Fn_find_index [plan size es] = .ok (.tup [.dic (dictOf size es), .dic B]) ∧ ∀ x, x ∈ keysD B ↔ isBeg (K size es) x := by
  have h2 := n_find (size := size) h.l8 fun e he => (h.short e he).1
  have hl := dictOf_len size es fun e he => (h.short e he).1
  have h8 := h.l8
  obtain ⟨B, hb, hB⟩ := n_beg (dictOf size es) (fun k hk => by
    obtain ⟨e, he, q⟩ := key_len hk
    have := (h.short e he).1
    omega) (by omega)
  refine ⟨B, ?_, hB⟩
  have e0 : Fn_find_index [plan size es] = outOf (sv_find_index [some (.fz (plan size es)), none]) := rfl
  rw [e0]
  unfold sv_find_index
  simp [h2, hb]
/-- the part's answer -/
def ans (ks : List (List Nat)) (x : List Nat) : D := if x ∈ ks then .str x else .non
/-- no key goes on beyond the part -/
def stop (ks : List (List Nat)) (r : List Nat) (i : Nat) : Bool := ks.all fun n => !(decide (i < n.length) && n.take i == r.take i)
theorem stop_beg {ks : List (List Nat)} {r : List Nat} {i : Nat} (h0 : 1 ≤ i) (hi : i ≤ r.length) : stop ks r i = true ↔ ¬ isBeg ks (r.take i) := by
  have hl : (r.take i).length = i := by rw [List.length_take]; omega
  unfold stop isBeg
  rw [List.all_eq_true]
  constructor
  · rintro h (e | ⟨n, hn, j, hj, e⟩)
    · rw [e] at hl; simp at hl; omega
    · have h2 : (n.take j).length = j := by rw [List.length_take]; omega
      have : i = j := by rw [← hl, e, h2]
      subst this
      have := h n hn
      simp [hj, e] at this
  · intro h n hn
    by_cases hj : i < n.length
    · have : ¬ n.take i = r.take i := fun e => h (.inr ⟨n, hn, i, hj, e.symm⟩)
      simp [hj, this]
    · simp [hj]
def szs (r : List Nat) : List Nat := (List.range r.length).map (· + 1)
/-- the first size where the reading stops -/
def fst1 (ks : List (List Nat)) (r : List Nat) : Option Nat := (szs r).find? (stop ks r)
def readA (ks : List (List Nat)) (r : List Nat) : D := match fst1 ks r with
  | some i => ans ks (r.take i)
  | none => ans ks r
def readN (ks : List (List Nat)) (r : List Nat) : Nat := match fst1 ks r with
  | some i => i
  | none => r.length
theorem sz_mem {r : List Nat} {i : Nat} (h : i ∈ szs r) : 1 ≤ i ∧ i ≤ r.length := by
  unfold szs at h
  simp only [List.mem_map, List.mem_range] at h
  omega
theorem sz_rng {r : List Nat} (h : r.length ≤ 1000) : rng2 (.int 1) (.int ((r.length : Int) + 1)) = .ok ((szs r).map fun i : Nat => D.int (i : Int)) := by
  have := rng2_ok (n := 1) (m := r.length + 1) (by decide) (by omega)
  rw [show (1 : Int) = ((1 : Nat) : Int) from rfl, show ((r.length : Int) + ((1 : Nat) : Int)) = ((r.length + 1 : Nat) : Int) from rfl, this]
  rw [Nat.add_sub_cancel]
  unfold szs
  rw [List.map_map]
  exact congrArg Res.ok (List.map_congr_left fun a _ => by simp [Nat.add_comm])
theorem sl_take (r : List Nat) (i : Nat) : slD none (some (i : Int)) (.str r) = .ok (.str (r.take i)) := by
  show Res.ok (D.str (cutD _ _ _)) = _
  rw [cut_pre]
theorem n_read (kvs B : Kvs) (r : List Nat) (hr : r.length ≤ 1000) (hB : ∀ x, x ∈ keysD B ↔ isBeg (keysD kvs) x) : Fn_read [.tup [.dic kvs, .dic B], .str r] = .ok (.tup [readA (keysD kvs) r, .int (readN (keysD kvs) r)]) := by
  have e0 : Fn_read [.tup [.dic kvs, .dic B], .str r] = outOf (sv_read [some (.fz (.tup [.dic kvs, .dic B])), some (.fz (.str r)), none, none, none, none]) := rfl
  have H := forD_first (T := .nm 4) (b := b2_read) (fun i : Nat => D.int (i : Int))
    (fun env => ∃ s4 s5, env = [some (.fz (.tup [.dic kvs, .dic B])), some (.fz (.str r)), some (.fz (.dic kvs)), some (.fz (.dic B)), s4, s5]) (stop (keysD kvs) r) (fun i => .tup [ans (keysD kvs) (r.take i), .int i]) (szs r)
    [some (.fz (.tup [.dic kvs, .dic B])), some (.fz (.str r)), some (.fz (.dic kvs)), some (.fz (.dic B)), none, none] ⟨_, _, rfl⟩ (by
      rintro i hi env ⟨s4, s5, rfl⟩
      obtain ⟨h1, h2⟩ := sz_mem hi
      refine ⟨[some (.fz (.tup [.dic kvs, .dic B])), some (.fz (.str r)), some (.fz (.dic kvs)), some (.fz (.dic B)), some (.fz (.int (i : Int))), s5], rfl, ?_⟩
      unfold b2_read q1_read
      have sb := stop_beg (ks := keysD kvs) h1 h2
      cases q : stop (keysD kvs) r i with
      | true =>
        refine .inl ⟨rfl, ?_⟩
        have nb : ¬ r.take i ∈ keysD B := fun h => sb.mp q ((hB _).mp h)
        by_cases hk : r.take i ∈ keysD kvs
        · simp [sl_take, nin_dic, in_dic, nb, hk, ans]
        · simp [sl_take, nin_dic, in_dic, nb, hk, ans]
      | false =>
        have nb : r.take i ∈ keysD B := (hB _).mpr (by
          apply Classical.byContradiction
          intro h
          have := sb.mpr h
          rw [q] at this
          cases this)
        exact .inr ⟨rfl, [some (.fz (.tup [.dic kvs, .dic B])), some (.fz (.str r)), some (.fz (.dic kvs)), some (.fz (.dic B)), some (.fz (.int (i : Int))), some (.fz (.str (r.take i)))], by simp [sl_take, nin_dic, nb], _, _, rfl⟩)
  rw [e0]
  unfold sv_read q3_read
  rcases H with ⟨i, h1, h2⟩ | ⟨h1, env', h2, s4, s5, rfl⟩
  · have a1 : readA (keysD kvs) r = ans (keysD kvs) (r.take i) := by unfold readA fst1; rw [h1]
    have a2 : readN (keysD kvs) r = i := by unfold readN fst1; rw [h1]
    rw [a1, a2]
    simp [lenD, sz_rng hr, h2]
  · have a1 : readA (keysD kvs) r = ans (keysD kvs) r := by unfold readA fst1; rw [h1]
    have a2 : readN (keysD kvs) r = r.length := by unfold readN fst1; rw [h1]
    rw [a1, a2]
    by_cases hk : r ∈ keysD kvs
    · simp [lenD, sz_rng hr, h2, in_dic, hk, ans]
    · simp [lenD, sz_rng hr, h2, in_dic, hk, ans]
theorem longer_ok (kvs : Kvs) (r : List Nat) (i : Nat) (s : Option Sl) : xLc (.nm 5) [5] (iKeys (rdV 0)) (tAn (tVal (xOp gtD (xU lenD (rdB 5)) (rdB 2))) (tVal (xOp eqD (xSl (rdB 5) none (some (rdV 2))) (rdB 3)))) (rdV 5)
    [some (.fz (.dic kvs)), some (.fz (.str r)), some (.fz (.int (i : Int))), some (.fz (.str (r.take i))), s, none] = .ok (.lst (((keysD kvs).filter fun n => decide (i < n.length) && n.take i == r.take i).map D.str)) := by
  refine xLc_ok D.str _ D.str (keysD kvs) (by simp [keys_map]) fun n _ => ⟨[some (.fz (.dic kvs)), some (.fz (.str r)), some (.fz (.int (i : Int))), some (.fz (.str (r.take i))), s, some (.fz (.str n))], rfl, ?_, fun _ => by simp⟩
  by_cases h : i < n.length
  · have h2 : (i : Int) < n.length := by omega
    simp [lenD, h, h2, sl_take, eq_str]
  · have h2 : ¬ (i : Int) < n.length := by omega
    simp [lenD, h, h2]
theorem stop_empty (ks : List (List Nat)) (r : List Nat) (i : Nat) : ((ks.filter fun n => decide (i < n.length) && n.take i == r.take i).map D.str).isEmpty = stop ks r i := by
  unfold stop
  induction ks with
  | nil => rfl
  | cons k ks ih =>
    rw [List.filter_cons, List.all_cons, ← ih]
    split
    · rename_i h; rw [h]; simp
    · rename_i h; rw [Bool.not_eq_true] at h; rw [h]; simp
end Pv.W54

namespace Pv.W54
theorem sz_pw (r : List Nat) : (szs r).Pairwise (· < ·) := by
  unfold szs
  rw [List.pairwise_map]
  exact List.pairwise_lt_range.imp fun h => by omega
end Pv.W54

namespace Pv.W54
def kst : Nat → List Nat
  | 0 => [108, 111, 115, 116]
  | 1 => [115, 119, 97, 112]
  | 2 => [116, 119, 105, 99, 101]
  | _ => [119, 114, 111, 110, 103]
def slI (size : Nat) (n : List Nat) (κ : Nat) (i : Nat) : List (List Nat) := match κ with
  | 0 => [n.take i ++ n.drop (i + 1)]
  | 1 => if i + 1 < n.length ∧ n.getD (i + 1) 0 ≠ n.getD i 0 then [n.take i ++ [n.getD (i + 1) 0] ++ [n.getD i 0] ++ n.drop (i + 2)] else []
  | 2 => [n.take i ++ [n.getD i 0] ++ [n.getD i 0] ++ n.drop (i + 1)]
  | _ => ((digs size).filter fun d => !(d == n.getD i 0)).map fun d => n.take i ++ [d] ++ n.drop (i + 1)
def slT (size : Nat) (n : List Nat) (κ j : Nat) : List (List Nat) := (List.range j).flatMap (slI size n κ)
def slL (size : Nat) (n : List Nat) (κ : Nat) : List (List Nat) := slT size n κ n.length
def slS (size : Nat) (n : List Nat) (κ : Nat) : List (List Nat) := srtS (distN [] (slL size n κ))
theorem slT_succ (size : Nat) (n : List Nat) (κ j : Nat) : slT size n κ (j + 1) = slT size n κ j ++ slI size n κ j := by
  unfold slT
  rw [List.range_succ, List.flatMap_append]
  simp
theorem slI_len (size : Nat) (n : List Nat) (κ i : Nat) : (slI size n κ i).length ≤ 6 := by
  unfold slI
  split
  · simp
  · split <;> simp
  · simp
  · rw [List.length_map]
    exact Nat.le_trans (List.length_filter_le _ _) (digs_len size)
theorem slT_len (size : Nat) (n : List Nat) (κ : Nat) : ∀ j, (slT size n κ j).length ≤ 6 * j
  | 0 => by simp [slT]
  | j + 1 => by
    rw [slT_succ, List.length_append]
    have := slT_len size n κ j
    have := slI_len size n κ j
    omega
theorem nch {n : List Nat} {j : Nat} {x : D} (h : (enumD 0 (n.map ch))[j]? = some x) : j < n.length ∧ x = .tup [.int (j : Int), ch (n.getD j 0)] := by
  rw [enum_at, List.getElem?_map] at h
  cases q : n[j]? with
  | none => rw [q] at h; cases h
  | some c =>
    rw [q] at h
    obtain ⟨hl, e⟩ := List.getElem?_eq_some_iff.mp q
    refine ⟨hl, ?_⟩
    rw [getD_at hl, e]
    simp at h
    exact h.symm
theorem zp_str (n : List Nat) : zpD (.str n) = .ok (n.map ch) := rfl
theorem head_drop {n : List Nat} {i : Nat} (h : i < n.length) : n.drop i = n.getD i 0 :: n.drop (i + 1) := by
  rw [List.drop_eq_getElem_cons h, getD_at h]
theorem kst_ne {κ κ' : Nat} (h : κ < 4) (h' : κ' < 4) : (kst κ == kst κ') = (κ == κ') := by
  have : κ = 0 ∨ κ = 1 ∨ κ = 2 ∨ κ = 3 := by omega
  have : κ' = 0 ∨ κ' = 1 ∨ κ' = 2 ∨ κ' = 3 := by omega
  rcases ‹κ = 0 ∨ _› with rfl | rfl | rfl | rfl <;> rcases ‹κ' = 0 ∨ _› with rfl | rfl | rfl | rfl <;> rfl
end Pv.W54

namespace Pv.W54
theorem slI0 (size : Nat) (n : List Nat) (i : Nat) : slI size n 0 i = [n.take i ++ n.drop (i + 1)] := rfl
theorem slI1 (size : Nat) (n : List Nat) (i : Nat) : slI size n 1 i = if i + 1 < n.length ∧ n.getD (i + 1) 0 ≠ n.getD i 0 then [n.take i ++ [n.getD (i + 1) 0] ++ [n.getD i 0] ++ n.drop (i + 2)] else [] := rfl
theorem slI2 (size : Nat) (n : List Nat) (i : Nat) : slI size n 2 i = [n.take i ++ [n.getD i 0] ++ [n.getD i 0] ++ n.drop (i + 1)] := rfl
theorem slI3 (size : Nat) (n : List Nat) (i : Nat) : slI size n 3 i = ((digs size).filter fun d => !(d == n.getD i 0)).map fun d => n.take i ++ [d] ++ n.drop (i + 1) := rfl
theorem n_wrong (size : Nat) (n : List Nat) (hn : n.length ≤ 6) : Fn_wrong_rows [.str n, .str (digs size)] = .ok (lstS (slL size n 3)) := by
  have e0 : Fn_wrong_rows [.str n, .str (digs size)] = outOf (sv_wrong_rows [some (.fz (.str n)), some (.fz (.str (digs size))), none, none, none, none]) := rfl
  obtain ⟨env', hL, s3, s4, rfl⟩ := forD_cnt (T := .tp [3, 4]) (b := b1_wrong_rows) (enumD 0 (n.map ch)) (fun j env => ∃ s3 s4, env = [some (.fz (.str n)), some (.fz (.str (digs size))), some (.ow (lstS (slT size n 3 j))), s3, s4, none])
    [some (.fz (.str n)), some (.fz (.str (digs size))), some (.ow (.lst [])), none, none, none] ⟨_, _, rfl⟩ (by
      rintro j x env hx ⟨s3, s4, rfl⟩
      obtain ⟨hj, rfl⟩ := nch hx
      refine ⟨[some (.fz (.str n)), some (.fz (.str (digs size))), some (.ow (lstS (slT size n 3 j))), some (.fz (.int (j : Int))), some (.fz (ch (n.getD j 0))), none], rfl, [some (.fz (.str n)), some (.fz (.str (digs size))), some (.ow (lstS (slT size n 3 (j + 1)))), some (.fz (.int (j : Int))), some (.fz (ch (n.getD j 0))), none], .inl ?_, _, _, rfl⟩
      have hT := slT_len size n 3 j
      have htk : (n.take j).length ≤ 6 := by rw [List.length_take]; omega
      have hdr : (n.drop (j + 1)).length ≤ 6 := by rw [List.length_drop]; omega
      have s1 := sl_pre n j
      have s2 := sl_pos1 n j
      have hI := slI_len size n 3 j
      rw [slT_succ]
      rw [slI3] at hI ⊢
      generalize n.getD j 0 = c at hI
      generalize slT size n 3 j = L at hT
      generalize n.take j = bf at htk s1 hI
      generalize n.drop (j + 1) = af at hdr s2 hI
      unfold b1_wrong_rows
      have hlc : xLc (.nm 5) [5] (iSeq (rdB 1)) (tVal (xOp neD (rdB 5) (rdB 4))) (xOp addD (xOp addD (xSl (rdB 0) none (some (rdV 3))) (rdB 5)) (xSl (rdB 0) (some (xOp addD (rdB 3) (xC (.int 1)))) none)) [some (.fz (.str n)), some (.fz (.str (digs size))), some (.ow (lstS L)), some (.fz (.int (j : Int))), some (.fz (ch c)), none] = .ok (.lst (((digs size).filter fun d => !(d == c)).map fun d => D.str (bf ++ [d] ++ af))) :=
        xLc_ok ch (fun d => !(d == c)) (fun d => D.str (bf ++ [d] ++ af)) (digs size) (by simp [zp_str]) fun d _ => ⟨[some (.fz (.str n)), some (.fz (.str (digs size))), some (.ow (lstS L)), some (.fz (.int (j : Int))), some (.fz (ch c)), some (.fz (ch d))], rfl, by simp [ne_ch], fun _ => by
          have a1 : addD (.str bf) (ch d) = .ok (.str (bf ++ [d])) := add_str (by simp; omega)
          have a2 : addD (.str (bf ++ [d])) (.str af) = .ok (.str (bf ++ [d] ++ af)) := add_str (by simp; omega)
          simp only [v_xOp, v_xSl, v_oIs, v_oIn, v_rdB, v_rdV, v_gtS, v_gt0, v_ok, v_asI, v_xC, v_addI, s1, s2, v_cok, a1, a2]⟩
      exact ext_str (M := ((digs size).filter fun d => !(d == c)).map fun d => bf ++ [d] ++ af) rfl (by rw [hlc]; unfold lstS; rw [List.map_map]; rfl) (by omega))
  rw [enum_len, List.length_map] at hL
  rw [e0]
  unfold sv_wrong_rows q2_wrong_rows
  simp only [v_sSeq, v_sOwn, v_oL, v_aNil, v_ok, v_oNil, List.length_nil, Nat.zero_le, if_true, v_fok, v_psS, v_ps0, v_ptS, v_pt0, v_sFor, v_iEnum, v_rdV, v_gtS, v_gt0, zp_str, hL, v_sFrz, v_frz, v_sRet, v_outr]
  rfl
theorem slL_swap (size : Nat) (n : List Nat) : slL size n 1 = slT size n 1 (n.length - 1) := by
  unfold slL
  cases h : n.length with
  | zero => rfl
  | succ m =>
    rw [slT_succ, Nat.add_sub_cancel]
    rw [slI1, if_neg (by omega), List.append_nil]
theorem rng_sub {m : Nat} (h : m ≤ 1000) : rng1 (.int ((m : Int) - 1)) = .ok ((List.range (m - 1)).map fun (i : Nat) => D.int (i : Int)) := by
  simp only [rng1]
  rw [if_pos ⟨by omega, by omega, by simp; omega⟩]
  unfold rngD
  rw [show ((m : Int) - 1).toNat = m - 1 by omega]
  simp
theorem n_swapped (size : Nat) (n : List Nat) (hn : n.length ≤ 6) : Fn_swapped_rows [.str n] = .ok (lstS (slL size n 1)) := by
  have e0 : Fn_swapped_rows [.str n] = outOf (sv_swapped_rows [some (.fz (.str n)), none, none, none, none]) := rfl
  obtain ⟨env', hL, s2, s3, s4, rfl⟩ := forD_cnt (T := .nm 2) (b := b2_swapped_rows) ((List.range (n.length - 1)).map fun (i : Nat) => D.int (i : Int)) (fun j env => ∃ s2 s3 s4, env = [some (.fz (.str n)), some (.ow (lstS (slT size n 1 j))), s2, s3, s4])
    [some (.fz (.str n)), some (.ow (.lst [])), none, none, none] ⟨_, _, _, rfl⟩ (by
      rintro j x env hx ⟨s2, s3, s4, rfl⟩
      have hj : j < n.length - 1 := by
        have := (List.getElem?_eq_some_iff.mp hx).1
        simpa using this
      rw [List.getElem?_map, List.getElem?_range hj] at hx
      cases hx
      have hT := slT_len size n 1 j
      have x1 := ix_get (r := n) (i := j) (by omega)
      have x2 : ixD (.str n) (.int ((j : Int) + 1)) = .ok (ch (n.getD (j + 1) 0)) := ix_get (r := n) (i := j + 1) (by omega)
      have htk : (n.take j).length ≤ 6 := by rw [List.length_take]; omega
      have hd2 : (n.drop (j + 2)).length ≤ 6 := by rw [List.length_drop]; omega
      have sl1 := sl_pre n j
      have sl2 := sl_pos2 n j
      refine ⟨[some (.fz (.str n)), some (.ow (lstS (slT size n 1 j))), some (.fz (.int (j : Int))), s3, s4], rfl, [some (.fz (.str n)), some (.ow (lstS (slT size n 1 (j + 1)))), some (.fz (.int (j : Int))), some (.fz (ch (n.getD j 0))), some (.fz (ch (n.getD (j + 1) 0)))], .inl ?_, _, _, _, rfl⟩
      rw [slT_succ, slI1]
      generalize n.getD j 0 = c at x1
      generalize n.getD (j + 1) 0 = c2 at x2
      generalize slT size n 1 j = L at hT
      generalize n.take j = bf at htk sl1
      generalize n.drop (j + 2) = af at hd2 sl2
      unfold b2_swapped_rows q1_swapped_rows
      have o1 : sOwn [3, 4] (oF (xOp ixD (rdB 0) (rdB 2)) (oF (xOp ixD (rdB 0) (xOp addD (rdB 2) (xC (.int 1)))) oNil)) [some (.fz (.str n)), some (.ow (lstS L)), some (.fz (.int (j : Int))), s3, s4] = .nx [some (.fz (.str n)), some (.ow (lstS L)), some (.fz (.int (j : Int))), some (.fz (ch c)), some (.fz (ch c2))] := by
        simp [x1, x2]
      rw [seq_nx o1]
      have hne : neD (ch c) (ch c2) = .ok (.bl (!(c == c2))) := ne_ch _ _
      by_cases hq : c2 = c
      · rw [if_neg (fun z => z.2 hq), List.append_nil]
        rw [show (!(c == c2)) = false by simp [hq]] at hne
        exact if_skip (by simp [hne])
      · rw [if_pos ⟨by omega, hq⟩]
        rw [show (!(c == c2)) = true by simp; exact fun e => hq e.symm] at hne
        have a1 : addD (.str bf) (ch c2) = .ok (.str (bf ++ [c2])) := add_str (by simp; omega)
        have a2 : addD (.str (bf ++ [c2])) (ch c) = .ok (.str (bf ++ [c2] ++ [c])) := add_str (by simp; omega)
        have a3 : addD (.str (bf ++ [c2] ++ [c])) (.str af) = .ok (.str (bf ++ [c2] ++ [c] ++ af)) := add_str (by simp; omega)
        refine (if_take (by simp [hne])).trans (app_str (w := bf ++ [c2] ++ [c] ++ af) rfl ?_ (by omega))
        simp only [v_xOp, v_xSl, v_oIs, v_oIn, v_rdB, v_rdV, v_gtS, v_gt0, v_ok, v_asI, v_xC, v_addI, sl1, sl2, v_cok, a1, a2, a3])
  rw [List.length_map, List.length_range] at hL
  rw [e0, slL_swap]
  unfold sv_swapped_rows q3_swapped_rows
  have hr := rng_sub (m := n.length) (by omega)
  simp only [v_sSeq, v_sOwn, v_oL, v_aNil, v_ok, v_oNil, List.length_nil, Nat.zero_le, if_true, v_fok, v_psS, v_ps0, v_ptS, v_pt0, v_sFor, v_iR1, v_xOp, v_xU, lenD, v_xC, v_subI, v_cok, v_rdB, v_rdV, v_gtS, v_gt0, hr, hL, v_sFrz, v_frz, v_sRet, v_outr]
theorem row_at {n : List Nat} {i : Nat} (hi : i < n.length) (d : Nat) (m : Nat) : (n.take i ++ [d] ++ n.drop (i + 1)).getD m 0 = if m = i then d else n.getD m 0 := by
  have hl : (n.take i).length = i := by rw [List.length_take]; omega
  simp only [List.getD_eq_getElem?_getD, List.append_assoc]
  by_cases h1 : m < i
  · rw [List.getElem?_append_left (by omega), if_neg (by omega), List.getElem?_take, if_pos h1]
  · rw [List.getElem?_append_right (by omega), hl]
    by_cases h2 : m = i
    · subst h2; simp
    · rw [if_neg h2]
      have : m - i = (m - i - 1) + 1 := by omega
      rw [this]
      simp only [List.singleton_append, List.getElem?_cons_succ, List.getElem?_drop]
      congr 2
      omega
theorem digs_nodup (size : Nat) : (digs size).Nodup := by
  unfold digs
  exact (show [48, 49, 50, 51, 52, 53].Nodup by decide).sublist (List.take_sublist _ _)
theorem wrong_nodup (size : Nat) (n : List Nat) : (slL size n 3).Nodup := by
  unfold slL
  have key : ∀ j, j ≤ n.length → (slT size n 3 j).Nodup ∧ ∀ w ∈ slT size n 3 j, ∃ i, i < j ∧ w.getD i 0 ≠ n.getD i 0 ∧ ∀ m, m ≠ i → w.getD m 0 = n.getD m 0 := by
    intro j
    induction j with
    | zero => intro _; simp [slT]
    | succ j ih =>
      intro hj
      obtain ⟨h1, h2⟩ := ih (by omega)
      rw [slT_succ]
      have hI : ∀ w ∈ slI size n 3 j, w.getD j 0 ≠ n.getD j 0 ∧ ∀ m, m ≠ j → w.getD m 0 = n.getD m 0 := by
        intro w hw
        rw [slI3] at hw
        obtain ⟨d, hd, rfl⟩ := List.mem_map.mp hw
        have hd2 := (List.mem_filter.mp hd).2
        refine ⟨?_, fun m hm => ?_⟩
        · rw [row_at (by omega), if_pos rfl]; simpa using hd2
        · rw [row_at (by omega), if_neg hm]
      refine ⟨?_, ?_⟩
      · rw [List.nodup_append]
        refine ⟨h1, ?_, ?_⟩
        · rw [slI3]
          refine List.Pairwise.map _ ?_ ((digs_nodup size).sublist List.filter_sublist)
          intro a b hab e
          apply hab
          have := congrArg (fun l => List.getD l j 0) e
          rw [row_at (by omega), row_at (by omega), if_pos rfl, if_pos rfl] at this
          exact this
        · intro a ha b hb e
          subst e
          obtain ⟨i, hi, q1, q2⟩ := h2 a ha
          obtain ⟨p1, p2⟩ := hI a hb
          exact q1 (p2 i (by omega))
      · intro w hw
        rcases List.mem_append.mp hw with q | q
        · obtain ⟨i, hi, q1, q2⟩ := h2 w q
          exact ⟨i, by omega, q1, q2⟩
        · exact ⟨j, by omega, hI w q⟩
  exact (key n.length (Nat.le_refl _)).1
theorem slS_wrong (size : Nat) (n : List Nat) : srtS (slL size n 3) = slS size n 3 := by
  unfold slS
  exact srtS_set (wrong_nodup size n) (dist_nodup _ _ (by simp)) (fun x => by rw [dist_mem]; simp)
theorem lrn_ok {m : Nat} (h : m ≤ 1000) : lrnD (.int (m : Int)) = .ok (.lst ((List.range m).map fun (i : Nat) => D.int (i : Int))) := by
  unfold lrnD
  rw [rng1_ok h]
  rfl
theorem flat_one {α : Type} (f : Nat → α) : ∀ l : List Nat, l.flatMap (fun i => [f i]) = l.map f
  | [] => rfl
  | a :: l => by simp [flat_one f l]
theorem n_find_slips {size : Nat} {es : List Ent} (n : List Nat) (κ : Nat) (hκ : κ < 4) (hn : n.length ≤ 6) : Fn_find_slips [plan size es, .str n, .str (kst κ)] = .ok (lstS (slS size n κ)) := by
  have e0 : Fn_find_slips [plan size es, .str n, .str (kst κ)] = outOf (sv_find_slips [some (.fz (plan size es)), some (.fz (.str n)), some (.fz (.str (kst κ))), none, none]) := rfl
  have t0 : ∀ s3, tVal (xOp eqD (rdB 2) (xC (.str [108, 111, 115, 116]))) [some (.fz (plan size es)), some (.fz (.str n)), some (.fz (.str (kst κ))), s3, none] = .ok (κ == 0) := by
    intro s3
    have : eqD (.str (kst κ)) (.str [108, 111, 115, 116]) = .ok (.bl (κ == 0)) := by rw [eqS]; exact congrArg (fun b => Res.ok (D.bl b)) (kst_ne hκ (by decide : 0 < 4))
    simp [this]
  have t1 : tVal (xOp eqD (rdB 2) (xC (.str [115, 119, 97, 112]))) [some (.fz (plan size es)), some (.fz (.str n)), some (.fz (.str (kst κ))), none, none] = .ok (κ == 1) := by
    have : eqD (.str (kst κ)) (.str [115, 119, 97, 112]) = .ok (.bl (κ == 1)) := by rw [eqS]; exact congrArg (fun b => Res.ok (D.bl b)) (kst_ne hκ (by decide : 1 < 4))
    simp [this]
  have t3 : tVal (xOp eqD (rdB 2) (xC (.str [119, 114, 111, 110, 103]))) [some (.fz (plan size es)), some (.fz (.str n)), some (.fz (.str (kst κ))), none, none] = .ok (κ == 3) := by
    have : eqD (.str (kst κ)) (.str [119, 114, 111, 110, 103]) = .ok (.bl (κ == 3)) := by rw [eqS]; exact congrArg (fun b => Res.ok (D.bl b)) (kst_ne hκ (by decide : 3 < 4))
    simp [this]
  have hlen : ∀ κ', (slL size n κ').length ≤ 4000 := fun κ' => by have := slT_len size n κ' n.length; unfold slL; omega
  rw [e0]
  unfold sv_find_slips q1_find_slips q2_find_slips q3_find_slips
  have : κ = 0 ∨ κ = 1 ∨ κ = 2 ∨ κ = 3 := by omega
  rcases this with rfl | rfl | rfl | rfl
  · rw [seq_nx (if_skip t3), seq_nx (if_skip t1), seq_nx (asg_nm (d := .lst ((List.range n.length).map fun (i : Nat) => D.int (i : Int))) (by simp [lenD, lrn_ok (show n.length ≤ 1000 by omega)]))]
    simp only [v_ptS, v_pt0]
    rw [v_sSeq, if_take (t0 _)]
    have hlc : xLc (.nm 4) [4] (iSeq (rdB 3)) tYs (xOp addD (xSl (rdB 1) none (some (rdV 4))) (xSl (rdB 1) (some (xOp addD (rdB 4) (xC (.int 1)))) none)) [some (.fz (plan size es)), some (.fz (.str n)), some (.fz (.str (kst 0))), some (.fz (.lst ((List.range n.length).map fun (i : Nat) => D.int (i : Int)))), none] = .ok (.lst ((List.range n.length).map fun i => D.str (n.take i ++ n.drop (i + 1)))) :=
      xLc_map (fun (i : Nat) => D.int (i : Int)) (fun i => D.str (n.take i ++ n.drop (i + 1))) (List.range n.length) (by simp [zpD]) fun i hi => ⟨[some (.fz (plan size es)), some (.fz (.str n)), some (.fz (.str (kst 0))), some (.fz (.lst ((List.range n.length).map fun (i : Nat) => D.int (i : Int)))), some (.fz (.int (i : Int)))], rfl, by
        have a1 : addD (.str (n.take i)) (.str (n.drop (i + 1))) = .ok (.str (n.take i ++ n.drop (i + 1))) := add_str (by rw [List.length_take, List.length_drop]; omega)
        simp only [v_xOp, v_xSl, v_oIs, v_oIn, v_rdB, v_rdV, v_gtS, v_gt0, v_ok, v_asI, v_xC, v_addI, sl_pre, sl_pos1, v_cok, a1]⟩
    have hL : (.lst ((List.range n.length).map fun i => D.str (n.take i ++ n.drop (i + 1)))) = D.lst ((slL size n 0).map D.str) := by
      unfold slL slT
      rw [show slI size n 0 = fun i => [n.take i ++ n.drop (i + 1)] from rfl, flat_one, List.map_map]
      rfl
    rw [ret_ok (d := lstS (slS size n 0)) (by rw [v_xU, hlc, v_ok, hL, sset_ok (hlen 0)]; rfl)]
    rfl
  · rw [seq_nx (if_skip t3), v_sSeq, if_take t1, ret_ok (d := lstS (slS size n 1)) (by
      have h1 := n_swapped size n hn
      rw [v_xU, v_xCall]
      simp only [v_aCons, v_aNil, v_rdV, v_gtS, v_gt0, v_ok, h1]
      unfold lstS
      rw [sset_ok (hlen 1)]
      rfl)]
    rfl
  · rw [seq_nx (if_skip t3), seq_nx (if_skip t1), seq_nx (asg_nm (d := .lst ((List.range n.length).map fun (i : Nat) => D.int (i : Int))) (by simp [lenD, lrn_ok (show n.length ≤ 1000 by omega)]))]
    simp only [v_ptS, v_pt0]
    rw [seq_nx (if_skip (t0 _))]
    have hlc : xLc (.nm 4) [4] (iSeq (rdB 3)) tYs (xOp addD (xOp addD (xSl (rdB 1) none (some (rdV 4))) (xOp ixD (rdB 1) (rdB 4))) (xSl (rdB 1) (some (rdV 4)) none)) [some (.fz (plan size es)), some (.fz (.str n)), some (.fz (.str (kst 2))), some (.fz (.lst ((List.range n.length).map fun (i : Nat) => D.int (i : Int)))), none] = .ok (.lst ((List.range n.length).map fun i => D.str (n.take i ++ [n.getD i 0] ++ [n.getD i 0] ++ n.drop (i + 1)))) :=
      xLc_map (fun (i : Nat) => D.int (i : Int)) (fun i => D.str (n.take i ++ [n.getD i 0] ++ [n.getD i 0] ++ n.drop (i + 1))) (List.range n.length) (by simp [zpD]) fun i hi => ⟨[some (.fz (plan size es)), some (.fz (.str n)), some (.fz (.str (kst 2))), some (.fz (.lst ((List.range n.length).map fun (i : Nat) => D.int (i : Int)))), some (.fz (.int (i : Int)))], rfl, by
        have hi' : i < n.length := by simpa using hi
        have x1 := ix_get hi'
        have hd := head_drop hi'
        have sp := sl_pos n i
        rw [hd] at sp
        have hk : (n.take i).length ≤ 6 ∧ (n.drop (i + 1)).length ≤ 6 := by rw [List.length_take, List.length_drop]; omega
        generalize n.getD i 0 = c at x1 sp
        have a1 : addD (.str (n.take i)) (ch c) = .ok (.str (n.take i ++ [c])) := add_str (by simp; omega)
        have a2 : addD (.str (n.take i ++ [c])) (.str (c :: n.drop (i + 1))) = .ok (.str (n.take i ++ [c] ++ [c] ++ n.drop (i + 1))) := by
          rw [add_str (by simp; omega)]
          simp
        simp only [v_xOp, v_xSl, v_oIs, v_oIn, v_rdB, v_rdV, v_gtS, v_gt0, v_ok, v_asI, v_xC, x1, sl_pre, sp, v_cok, a1, a2]⟩
    have hL : (.lst ((List.range n.length).map fun i => D.str (n.take i ++ [n.getD i 0] ++ [n.getD i 0] ++ n.drop (i + 1)))) = D.lst ((slL size n 2).map D.str) := by
      unfold slL slT
      rw [show slI size n 2 = fun i => [n.take i ++ [n.getD i 0] ++ [n.getD i 0] ++ n.drop (i + 1)] from rfl, flat_one, List.map_map]
      rfl
    rw [ret_ok (d := lstS (slS size n 2)) (by rw [v_xU, hlc, v_ok, hL, sset_ok (hlen 2)]; rfl)]
    rfl
  · rw [v_sSeq, if_take t3, ret_ok (d := lstS (slS size n 3)) (by
      have h1 := n_wrong size n hn
      have h2 := n_digits size es
      rw [v_xU, v_xCall]
      simp only [v_aCons, v_aNil, v_rdV, v_gtS, v_gt0, v_ok, v_xCall, h2, h1]
      unfold lstS
      rw [sort_strs, slS_wrong]
      rfl)]
    rfl
end Pv.W54

namespace Pv.W54
theorem sl_rows {size : Nat} {n : List Nat} {κ : Nat} {w : List Nat} (h : w ∈ slS size n κ) : w ∈ slL size n κ := by
  unfold slS at h
  have := (srtS_perm _).mem_iff.mp h
  rw [dist_mem] at this
  simpa using this
theorem sl_len {size : Nat} {n : List Nat} {κ : Nat} {w : List Nat} (h : w ∈ slS size n κ) : w.length ≤ n.length + 1 := by
  have h := sl_rows h
  unfold slL slT at h
  obtain ⟨i, hi, hw⟩ := List.mem_flatMap.mp h
  have hi' : i < n.length := by simpa using hi
  have ht : (n.take i).length = i := by rw [List.length_take]; omega
  match κ, hw with
  | 0, hw => rw [slI0, List.mem_singleton] at hw; rw [hw, List.length_append, List.length_drop, ht]; omega
  | 1, hw =>
    rw [slI1] at hw
    split at hw
    · rename_i q
      rw [List.mem_singleton] at hw
      rw [hw]
      simp only [List.length_append, List.length_drop, ht, List.length_cons, List.length_nil]
      omega
    · simp at hw
  | 2, hw => rw [slI2, List.mem_singleton] at hw; rw [hw]; simp only [List.length_append, List.length_drop, ht, List.length_cons, List.length_nil]; omega
  | k + 3, hw =>
    obtain ⟨d, _, rfl⟩ := List.mem_map.mp hw
    simp only [List.length_append, List.length_drop, ht, List.length_cons, List.length_nil]
    omega
theorem dist_len : ∀ (ls acc : List (List Nat)), (distN acc ls).length ≤ acc.length + ls.length
  | [], acc => by simp [distN]
  | l :: ls, acc => by
    rw [distN]
    have := dist_len ls (if l ∈ acc then acc else l :: acc)
    have h2 : (if l ∈ acc then acc else l :: acc).length ≤ acc.length + 1 := by split <;> simp
    rw [List.length_cons]
    omega
theorem slS_len (size : Nat) (n : List Nat) (κ : Nat) (hn : n.length ≤ 6) : (slS size n κ).length ≤ 36 := by
  unfold slS
  rw [(srtS_perm _).length_eq]
  have h1 := dist_len (slL size n κ) []
  have h2 := slT_len size n κ n.length
  unfold slL at h1 ⊢
  simp only [List.length_nil] at h1
  omega
def astray : List Nat := [97, 115, 116, 114, 97, 121]
def same : List Nat := [115, 97, 109, 101]
def noticed : List Nat := [110, 111, 116, 105, 99, 101, 100]
def hv (kvs : Kvs) (k : List Nat) : D := (lookD kvs k).getD .non
def strV (kvs : Kvs) : Prop := ∀ kv ∈ kvs, ∃ s, kv.2 = D.str s
def fateS (kvs : Kvs) (n r : List Nat) : List Nat := match readA (keysD kvs) r with
  | .str o => if deq (hv kvs o) (hv kvs n) = true then same else astray
  | _ => noticed
theorem readA_cases (ks : List (List Nat)) (r : List Nat) : readA ks r = .non ∨ ∃ n ∈ ks, readA ks r = .str n := by
  have a : ∀ x, ans ks x = .non ∨ ∃ n ∈ ks, ans ks x = .str n := by
    intro x
    unfold ans
    split
    · rename_i h; exact .inr ⟨x, h, rfl⟩
    · exact .inl rfl
  unfold readA
  split <;> exact a _
theorem look_some {kvs : Kvs} {k : List Nat} (h : k ∈ keysD kvs) : ∃ d, lookD kvs k = some d := by
  unfold keysD at h
  obtain ⟨kv, hkv, rfl⟩ := List.mem_map.mp h
  unfold lookD
  cases q : kvs.find? (fun x => decide (x.1 = kv.1)) with
  | none =>
    have := List.find?_eq_none.mp q kv hkv
    simp at this
  | some y => exact ⟨_, rfl⟩
theorem ix_key {kvs : Kvs} {k : List Nat} (h : k ∈ keysD kvs) : ixD (.dic kvs) (.str k) = .ok (hv kvs k) := by
  obtain ⟨d, hd⟩ := look_some h
  simp [ixD, hv, hd]
theorem hv_str {kvs : Kvs} (hs : strV kvs) {k : List Nat} (h : k ∈ keysD kvs) : ∃ s, hv kvs k = .str s := by
  unfold keysD at h
  obtain ⟨kv, hkv, rfl⟩ := List.mem_map.mp h
  unfold hv lookD
  cases q : kvs.find? (fun x => decide (x.1 = kv.1)) with
  | none =>
    have := List.find?_eq_none.mp q kv hkv
    simp at this
  | some y =>
    obtain ⟨s, e⟩ := hs y (List.mem_of_find?_eq_some q)
    exact ⟨s, e⟩
theorem eq_hv {kvs : Kvs} (hs : strV kvs) {a b : List Nat} (ha : a ∈ keysD kvs) (hb : b ∈ keysD kvs) : eqD (hv kvs a) (hv kvs b) = .ok (.bl (deq (hv kvs a) (hv kvs b))) ∧ neD (hv kvs a) (hv kvs b) = .ok (.bl (!deq (hv kvs a) (hv kvs b))) := by
  obtain ⟨s, e1⟩ := hv_str hs ha
  obtain ⟨t, e2⟩ := hv_str hs hb
  rw [e1, e2, eqS, neS]
  exact ⟨rfl, rfl⟩
theorem dict_strV (size : Nat) (es : List Ent) : strV (dictOf size es) := by
  intro kv h
  obtain ⟨e, _, _, q⟩ := dict_mem h
  exact ⟨_, q⟩
theorem ix2 (a b : D) : ixD (.tup [a, b]) (.int 0) = .ok a := ix_tup (at0 _ _)
theorem n_find_fate {kvs B : Kvs} (hs : strV kvs) {n r : List Nat} (hn : n ∈ keysD kvs) (hr : r.length ≤ 1000) (hB : ∀ x, x ∈ keysD B ↔ isBeg (keysD kvs) x) : Fn_find_fate [.tup [.dic kvs, .dic B], .str n, .str r] = .ok (.str (fateS kvs n r)) := by
  have e0 : Fn_find_fate [.tup [.dic kvs, .dic B], .str n, .str r] = outOf (sv_find_fate [some (.fz (.tup [.dic kvs, .dic B])), some (.fz (.str n)), some (.fz (.str r)), none]) := rfl
  have h1 := n_read kvs B r hr hB
  rw [e0]
  unfold sv_find_fate q1_find_fate fateS
  rcases readA_cases (keysD kvs) r with e | ⟨o, ho, e⟩
  · rw [e] at h1 ⊢
    simp [h1, ix2, isD, isNon, noticed]
  · rw [e] at h1 ⊢
    have hq := (eq_hv hs ho hn).1
    cases hd : deq (hv kvs o) (hv kvs n) with
    | true => rw [hd] at hq; simp [h1, ix2, isD, isNon, ix_key ho, ix_key hn, hq, hd, same]
    | false => rw [hd] at hq; simp [h1, ix2, isD, isNon, ix_key ho, ix_key hn, hq, hd, astray]
theorem fate_in (kvs : Kvs) (n r : List Nat) : fateS kvs n r ∈ [astray, same, noticed] := by
  unfold fateS
  split
  · split <;> simp
  · simp
def isS (kvs : Kvs) (n r : List Nat) : Bool := fateS kvs n r == astray
def tri (kvs : Kvs) (n r : List Nat) : D := .tup [.str n, .str r, readA (keysD kvs) r]
def str1 (size : Nat) (kvs : Kvs) (κ : Nat) (n : List Nat) : List D := ((slS size n κ).filter (isS kvs n)).map (tri kvs n)
def strT (size : Nat) (kvs : Kvs) (κ : Nat) (pre : List (List Nat)) : List D := pre.flatMap (str1 size kvs κ)
def strL (size : Nat) (kvs : Kvs) (κ : Nat) : List D := strT size kvs κ (srtS (keysD kvs))
theorem strT_len (size : Nat) (kvs : Kvs) (κ : Nat) : ∀ pre : List (List Nat), (∀ n ∈ pre, n.length ≤ 6) → (strT size kvs κ pre).length ≤ 36 * pre.length
  | [], _ => by simp [strT]
  | n :: pre, h => by
    have ih := strT_len size kvs κ pre fun m hm => h m (List.mem_cons_of_mem _ hm)
    have h1 : (str1 size kvs κ n).length ≤ 36 := by
      unfold str1
      rw [List.length_map]
      exact Nat.le_trans (List.length_filter_le _ _) (slS_len size n κ (h n List.mem_cons_self))
    have e : strT size kvs κ (n :: pre) = str1 size kvs κ n ++ strT size kvs κ pre := by simp [strT]
    rw [e, List.length_append, List.length_cons]
    omega
theorem i_strays {size : Nat} {es : List Ent} {kvs B : Kvs} (hs : strV kvs) (hB : ∀ x, x ∈ keysD B ↔ isBeg (keysD kvs) x) (κ : Nat) (hκ : κ < 4) {n : List Nat} (hn : n ∈ keysD kvs) (hl : n.length ≤ 6) (A : List D) (hA : A.length ≤ 1000000) (s5 : Option Sl) :
    ∃ s5', q3_find_strays [some (.fz (plan size es)), some (.fz (.str (kst κ))), some (.fz (.tup [.dic kvs, .dic B])), some (.ow (.lst A)), some (.fz (.str n)), s5] = .nx [some (.fz (plan size es)), some (.fz (.str (kst κ))), some (.fz (.tup [.dic kvs, .dic B])), some (.ow (.lst (A ++ str1 size kvs κ n))), some (.fz (.str n)), s5'] := by
  have hsl := slS_len size n κ hl
  obtain ⟨env', h1, s5', rfl⟩ := forD_seen (T := .nm 5) (b := b2_find_strays) D.str
    (fun pre env => ∃ s5', env = [some (.fz (plan size es)), some (.fz (.str (kst κ))), some (.fz (.tup [.dic kvs, .dic B])), some (.ow (.lst (A ++ (pre.filter (isS kvs n)).map (tri kvs n)))), some (.fz (.str n)), s5']) (slS size n κ)
    [some (.fz (plan size es)), some (.fz (.str (kst κ))), some (.fz (.tup [.dic kvs, .dic B])), some (.ow (.lst A)), some (.fz (.str n)), s5] ⟨s5, by simp⟩ (by
      rintro pre r post env e ⟨s5', rfl⟩
      have hr : r.length ≤ 1000 := by have := sl_len (size := size) (n := n) (κ := κ) (w := r) (by rw [e]; simp); omega
      have hf := n_find_fate (B := B) hs hn hr hB
      have hrd := n_read kvs B r hr hB
      have heq : eqD (.str (fateS kvs n r)) (.str [97, 115, 116, 114, 97, 121]) = .ok (.bl (isS kvs n r)) := eqS _ _
      have hpl : pre.length ≤ 36 := by have : pre.length ≤ (slS size n κ).length := by rw [e]; simp
                                       omega
      refine ⟨[some (.fz (plan size es)), some (.fz (.str (kst κ))), some (.fz (.tup [.dic kvs, .dic B])), some (.ow (.lst (A ++ (pre.filter (isS kvs n)).map (tri kvs n)))), some (.fz (.str n)), some (.fz (.str r))], rfl, [some (.fz (plan size es)), some (.fz (.str (kst κ))), some (.fz (.tup [.dic kvs, .dic B])), some (.ow (.lst (A ++ ((pre ++ [r]).filter (isS kvs n)).map (tri kvs n)))), some (.fz (.str n)), some (.fz (.str r))], ?_, _, rfl⟩
      have hlen : (A ++ (pre.filter (isS kvs n)).map (tri kvs n)).length < LIM := by
        rw [List.length_append, List.length_map]
        have := List.length_filter_le (isS kvs n) pre
        show _ < 16777216
        omega
      rw [List.filter_append]
      generalize hM : (pre.filter (isS kvs n)).map (tri kvs n) = M at hlen
      rw [List.map_append, hM]
      unfold b2_find_strays q1_find_strays
      cases hq : isS kvs n r with
      | false =>
        rw [hq] at heq
        rw [show [r].filter (isS kvs n) = [] by simp [hq]]
        rw [if_skip (by simp [hf, heq])]
        simp
      | true =>
        rw [hq] at heq
        rw [show [r].filter (isS kvs n) = [r] by simp [hq]]
        rw [if_take (by simp [hf, heq]), v_sApp]
        simp only [v_gtS, v_gt0]
        have ht : xTup (aCons (rdV 4) (aCons (rdV 5) (aCons (xOp ixD (xCall Fn_read (aCons (rdV 2) (aCons (rdV 5) aNil))) (xC (.int 0))) aNil))) [some (.fz (plan size es)), some (.fz (.str (kst κ))), some (.fz (.tup [.dic kvs, .dic B])), some (.ow (.lst (A ++ M))), some (.fz (.str n)), some (.fz (.str r))] = .ok (tri kvs n r) := by
          unfold tri
          simp [hrd, ix2]
        rw [ht, v_fok, if_pos hlen]
        simp [List.append_assoc])
  refine ⟨s5', ?_⟩
  unfold q3_find_strays
  have hsl2 := n_find_slips (size := size) (es := es) n κ hκ hl
  simp only [v_sFor, v_iSeq, v_xCall, v_aCons, v_aNil, v_rdV, v_gtS, v_gt0, v_ok, hsl2, zp_lstS, v_fok]
  exact h1
theorem keys_cnt {size : Nat} {es : List Ent} : (srtS (keysD (dictOf size es))).length = (dictOf size es).length := by rw [(srtS_perm _).length_eq]; simp [keysD]
theorem key6 {size : Nat} {es : List Ent} (h : OkP size es) : ∀ n ∈ keysD (dictOf size es), n.length ≤ 6 := fun n hn => by
  obtain ⟨e, he, q⟩ := key_len hn
  have := (h.short e he).1
  omega
theorem srt_mem {ks : List (List Nat)} {n : List Nat} : n ∈ srtS ks ↔ n ∈ ks := (srtS_perm _).mem_iff
theorem n_find_strays {size : Nat} {es : List Ent} (h : OkP size es) (hd : (dictOf size es).length ≤ 2000) (κ : Nat) (hκ : κ < 4) : Fn_find_strays [plan size es, .str (kst κ)] = .ok (.lst (strL size (dictOf size es) κ)) := by
  have e0 : Fn_find_strays [plan size es, .str (kst κ)] = outOf (sv_find_strays [some (.fz (plan size es)), some (.fz (.str (kst κ))), none, none, none, none]) := rfl
  obtain ⟨B, hi, hB⟩ := n_index h
  obtain ⟨env', h1, s4, s5, rfl⟩ := forD_seen (T := .nm 4) (b := b4_find_strays) D.str
    (fun pre env => ∃ s4 s5, env = [some (.fz (plan size es)), some (.fz (.str (kst κ))), some (.fz (.tup [.dic (dictOf size es), .dic B])), some (.ow (.lst (strT size (dictOf size es) κ pre))), s4, s5]) (srtS (keysD (dictOf size es)))
    [some (.fz (plan size es)), some (.fz (.str (kst κ))), some (.fz (.tup [.dic (dictOf size es), .dic B])), some (.ow (.lst [])), none, none] ⟨_, _, rfl⟩ (by
      rintro pre n post env e ⟨s4, s5, rfl⟩
      have hn : n ∈ keysD (dictOf size es) := srt_mem.mp (by rw [e]; simp)
      have hpl : pre.length ≤ 2000 := by
        have h2 := keys_cnt (size := size) (es := es)
        have h3 : pre.length ≤ (srtS (keysD (dictOf size es))).length := by rw [e]; simp
        omega
      have hT := strT_len size (dictOf size es) κ pre fun m hm => key6 h m (srt_mem.mp (by rw [e]; simp [hm]))
      obtain ⟨s5', hq⟩ := i_strays (size := size) (es := es) (dict_strV size es) hB κ hκ hn (key6 h n hn) (strT size (dictOf size es) κ pre) (by omega) s5
      refine ⟨_, rfl, _, hq, some (.fz (.str n)), s5', ?_⟩
      have : strT size (dictOf size es) κ (pre ++ [n]) = strT size (dictOf size es) κ pre ++ str1 size (dictOf size es) κ n := by simp [strT]
      rw [this])
  rw [e0]
  unfold sv_find_strays q5_find_strays
  have hsd : sortD (.dic (dictOf size es)) = .ok (lstS (srtS (keysD (dictOf size es)))) := sort_dicS _
  simp only [v_sSeq, v_sOwn, v_oF, v_oL, v_aNil, v_ok, v_oNil, v_xCall, v_aCons, v_rdV, v_gtS, v_gt0, hi, List.length_nil, Nat.zero_le, if_true, v_fok, v_psS, v_ps0, v_ptS, v_pt0, v_sFor, v_iSeq, v_xU, v_xOp, v_rdB, v_xC, ix2, v_cok, hsd, zp_lstS, h1, v_sFrz, v_frz, v_sRet, v_outr]
  rfl
end Pv.W54

namespace Pv.W54

end Pv.W54

namespace Pv.W54
theorem n_reached {size : Nat} {es : List Ent} (h : OkP size es) {r : List Nat} (hr : wordB r (digs size) 0 12 = true) (hl : r.length ≤ 1000) : Fn_reached [plan size es, .str r] = .ok (readA (K size es) r) := by
  have e0 : Fn_reached [plan size es, .str r] = outOf (sv_reached [some (.fz (plan size es)), some (.fz (.str r))]) := rfl
  rw [e0]
  unfold sv_reached
  have h1 := n_check_row h (r := .str r) (by rw [n_has_row, hr])
  obtain ⟨B, h2, h3⟩ := n_index h
  simp [h1, h2, n_read _ B r hl h3, ix_tup (at0 _ _), K]
end Pv.W54

namespace Pv.W54
/-! ### reading on -/
theorem szs_snoc (x : List Nat) (d : Nat) : szs (x ++ [d]) = szs x ++ [x.length + 1] := by
  unfold szs
  rw [List.length_append]
  simp [List.range_succ]
theorem stop_congr {ks : List (List Nat)} {r r' : List Nat} {i : Nat} (h : r.take i = r'.take i) : stop ks r i = stop ks r' i := by
  unfold stop
  rw [h]
theorem fst1_snoc {ks : List (List Nat)} {x : List Nat} {d i : Nat} (h1 : 1 ≤ i) (h2 : i ≤ x.length) (hb : ¬ isBeg ks (x.take i)) : ∃ j, j ≤ x.length ∧ fst1 ks (x ++ [d]) = some j ∧ fst1 ks x = some j := by
  have st : stop ks x i = true := (stop_beg h1 h2).mpr hb
  have hi : i ∈ szs x := by
    unfold szs
    rw [List.mem_map]
    exact ⟨i - 1, by simp; omega, by omega⟩
  obtain ⟨j, hj⟩ : ∃ j, (szs x).find? (stop ks x) = some j := by
    cases q : (szs x).find? (stop ks x) with
    | some j => exact ⟨j, rfl⟩
    | none => rw [List.find?_eq_none] at q; exact absurd st (q i hi)
  have hjm := List.mem_of_find?_eq_some hj
  have hjl := (sz_mem hjm).2
  have e : ∀ l : List Nat, (∀ a ∈ l, a ≤ x.length) → l.find? (stop ks (x ++ [d])) = l.find? (stop ks x) := by
    intro l
    induction l with
    | nil => intro _; rfl
    | cons a l ih =>
      intro hl
      have ha := hl a List.mem_cons_self
      have : stop ks (x ++ [d]) a = stop ks x a := stop_congr (by rw [List.take_append_of_le_length ha])
      rw [List.find?_cons, List.find?_cons, this, ih fun b hb => hl b (List.mem_cons_of_mem _ hb)]
  refine ⟨j, hjl, ?_, hj⟩
  unfold fst1
  rw [szs_snoc, List.find?_append, e (szs x) fun a ha => (sz_mem ha).2, hj]
  rfl
theorem readA_snoc {ks : List (List Nat)} {x : List Nat} {d i : Nat} (h1 : 1 ≤ i) (h2 : i ≤ x.length) (hb : ¬ isBeg ks (x.take i)) : readA ks (x ++ [d]) = readA ks x := by
  obtain ⟨j, h3, h4, h5⟩ := fst1_snoc (d := d) h1 h2 hb
  unfold readA
  rw [h4, h5]
  dsimp only
  rw [List.take_append_of_le_length h3]
/-! ### levels -/
def full (size : Nat) : Nat → List (List Nat)
  | 0 => [[]]
  | k + 1 => ext (digs size) (full size k)
def lvl (size : Nat) (op : List Nat → Bool) : Nat → List (List Nat)
  | 0 => [[]]
  | k + 1 => ext (digs size) ((lvl size op k).filter op)
/-- every proper beginning is open -/
def pc (op : List Nat → Bool) (w : List Nat) : Bool := (List.range w.length).all fun j => op (w.take j)
theorem pc_snoc (op : List Nat → Bool) (x : List Nat) (d : Nat) : pc op (x ++ [d]) = (pc op x && op x) := by
  unfold pc
  rw [List.length_append, show x.length + [d].length = x.length + 1 from rfl, List.range_succ, List.all_append]
  congr 1
  · rw [Bool.eq_iff_iff, List.all_eq_true, List.all_eq_true]
    constructor
    · intro h j hj
      have := h j hj
      rw [List.take_append_of_le_length (by simp at hj; omega)] at this
      exact this
    · intro h j hj
      rw [List.take_append_of_le_length (by simp at hj; omega)]
      exact h j hj
  · simp
theorem ext_filter (ds : List Nat) (op q : List Nat → Bool) (h : ∀ x d, q (x ++ [d]) = op x) : ∀ xs : List (List Nat), ext ds (xs.filter op) = (ext ds xs).filter q
  | [] => by simp [ext]
  | x :: xs => by
    have ih := ext_filter ds op q h xs
    have e : ext ds (x :: xs) = (ds.map fun d => x ++ [d]) ++ ext ds xs := by simp [ext]
    rw [e, List.filter_append, ← ih, List.filter_cons]
    have hq : (ds.map fun d => x ++ [d]).filter q = if op x = true then ds.map fun d => x ++ [d] else [] := by
      rw [List.filter_map]
      have : (q ∘ fun d => x ++ [d]) = fun _ => op x := by funext d; exact h x d
      rw [this]
      cases op x
      · simp
      · rw [if_pos rfl, List.filter_eq_self.mpr fun _ _ => rfl]
    rw [hq]
    split
    · simp [ext]
    · simp
theorem lvl_full (size : Nat) (op : List Nat → Bool) : ∀ k, lvl size op k = (full size k).filter (pc op)
  | 0 => by simp [lvl, full, pc]
  | k + 1 => by
    show ext (digs size) ((lvl size op k).filter op) = (ext (digs size) (full size k)).filter (pc op)
    rw [lvl_full size op k, List.filter_filter]
    exact ext_filter (digs size) _ _ (fun x d => by rw [pc_snoc, Bool.and_comm]) _
theorem full_len (size : Nat) : ∀ k, ∀ w ∈ full size k, w.length = k
  | 0, w, h => by simp [full] at h; simp [h]
  | k + 1, w, h => by
    obtain ⟨x, hx, d, hd, rfl⟩ := ext_mem h
    rw [List.length_append, full_len size k x hx]
    rfl
theorem full_mem (size : Nat) : ∀ (k : Nat) (w : List Nat), w.length = k → (∀ c ∈ w, c ∈ digs size) → w ∈ full size k := by
  intro k
  induction k with
  | zero => intro w h _; rw [List.length_eq_zero_iff] at h; simp [full, h]
  | succ k ih =>
    intro w h hc
    have hne : w ≠ [] := fun e => by rw [e] at h; simp at h
    have e := List.dropLast_concat_getLast hne
    show w ∈ ext (digs size) (full size k)
    unfold ext
    rw [List.mem_flatMap]
    refine ⟨w.dropLast, ih _ (by rw [List.length_dropLast]; omega) fun c hc' => hc c ((List.dropLast_sublist w).subset hc'), ?_⟩
    rw [List.mem_map]
    exact ⟨w.getLast hne, hc _ (List.getLast_mem hne), e⟩
theorem full_chars (size : Nat) : ∀ k, ∀ w ∈ full size k, ∀ c ∈ w, c ∈ digs size
  | 0, w, h => by simp [full] at h; simp [h]
  | k + 1, w, h => by
    obtain ⟨x, hx, d, hd, rfl⟩ := ext_mem h
    intro c hc
    rcases List.mem_append.mp hc with q | q
    · exact full_chars size k x hx c q
    · rw [List.mem_singleton] at q; rw [q]; exact hd
theorem full_cnt (size : Nat) : ∀ k, (full size k).length ≤ 6 ^ k
  | 0 => by simp [full]
  | k + 1 => by
    show (ext (digs size) (full size k)).length ≤ _
    rw [ext_len, Nat.pow_succ]
    exact Nat.mul_le_mul (full_cnt size k) (digs_len size)
/-! ### rows where two readings differ -/
section
variable {α : Type} (ks1 ks2 : List (List Nat)) (op : List Nat → Bool) (g1 g2 : D → α) (un : List Nat → Bool)
theorem rep (hop : ∀ x, op x = false → ¬ isBeg ks1 x ∧ ¬ isBeg ks2 x) (h0 : op [] = true) : ∀ (n : Nat) (r : List Nat), r.length = n → 1 ≤ n → ∃ j, 1 ≤ j ∧ j ≤ r.length ∧ pc op (r.take j) = true ∧ readA ks1 (r.take j) = readA ks1 r ∧ readA ks2 (r.take j) = readA ks2 r := by
  intro n
  induction n with
  | zero => intro r _ h; omega
  | succ n ih =>
    intro r hr _
    have hne : r ≠ [] := fun e => by rw [e] at hr; simp at hr
    have e := List.dropLast_concat_getLast hne
    generalize hx : r.dropLast = x at e
    generalize hd : r.getLast hne = d at e
    subst e
    clear hx hd
    have hxl : x.length = n := by simpa using hr
    cases hpc : pc op (x ++ [d]) with
    | true => exact ⟨(x ++ [d]).length, by simp, by simp, by rw [List.take_length]; exact hpc, by rw [List.take_length], by rw [List.take_length]⟩
    | false =>
      -- some proper beginning is not open
      have : ∃ i, i ≤ x.length ∧ op (x.take i) = false := by
        unfold pc at hpc
        rw [List.all_eq_false] at hpc
        obtain ⟨i, hi, q⟩ := hpc
        have hil : i ≤ x.length := by simp at hi; omega
        exact ⟨i, hil, by rw [List.take_append_of_le_length hil] at q; simpa using q⟩
      obtain ⟨i, hi, q⟩ := this
      have hi1 : 1 ≤ i := by
        rcases Nat.eq_zero_or_pos i with z | z
        · rw [z, List.take_zero, h0] at q; cases q
        · exact z
      obtain ⟨b1, b2⟩ := hop _ q
      have e1 := readA_snoc (d := d) hi1 hi b1
      have e2 := readA_snoc (d := d) hi1 hi b2
      obtain ⟨j, j1, j2, j3, j4, j5⟩ := ih x hxl (by omega)
      have et : (x ++ [d]).take j = x.take j := List.take_append_of_le_length j2
      exact ⟨j, j1, by rw [List.length_append]; omega, by rw [et]; exact j3, by rw [et, j4, e1], by rw [et, j5, e2]⟩
/-- the rows up to size n -/
def upTo (size n : Nat) : List (List Nat) := (List.range n).flatMap fun k => full size (k + 1)
theorem upTo_succ (size n : Nat) : upTo size (n + 1) = upTo size n ++ full size (n + 1) := by
  unfold upTo
  rw [List.range_succ, List.flatMap_append]
  simp
theorem upTo_mem {size n : Nat} {w : List Nat} : w ∈ upTo size n ↔ 1 ≤ w.length ∧ w.length ≤ n ∧ ∀ c ∈ w, c ∈ digs size := by
  unfold upTo
  rw [List.mem_flatMap]
  constructor
  · rintro ⟨k, hk, h⟩
    have := full_len size _ w h
    rw [List.mem_range] at hk
    exact ⟨by omega, by omega, full_chars size _ w h⟩
  · rintro ⟨h1, h2, h3⟩
    exact ⟨w.length - 1, by rw [List.mem_range]; omega, full_mem size _ w (by omega) h3⟩
theorem upTo_pw (size : Nat) : ∀ n, (upTo size n).Pairwise fun a b => a.length ≤ b.length
  | 0 => by simp [upTo]
  | n + 1 => by
    rw [upTo_succ, List.pairwise_append]
    refine ⟨upTo_pw size n, ?_, fun a ha b hb => ?_⟩
    · rw [List.pairwise_iff_forall_sublist]
      intro a b h
      have ha := full_len size _ a (h.subset (by simp))
      have hb := full_len size _ b (h.subset (by simp))
      omega
    · have := (upTo_mem.mp ha).2.1
      have hb := full_len size _ b hb
      omega
theorem head_pc {size n : Nat} (hop : ∀ x, op x = false → ¬ isBeg ks1 x ∧ ¬ isBeg ks2 x) (h0 : op [] = true) (hun : ∀ a b, readA ks1 a = readA ks1 b → readA ks2 a = readA ks2 b → un a = un b) :
    ((upTo size n).filter fun r => pc op r && un r).head? = ((upTo size n).filter un).head? := by
  have split2 : ((upTo size n).filter fun r => pc op r && un r) = ((upTo size n).filter un).filter (pc op) := by rw [List.filter_filter]
  rw [split2]
  have pw : ((upTo size n).filter un).Pairwise fun a b => a.length ≤ b.length := (upTo_pw size n).sublist List.filter_sublist
  have hmem : ∀ r ∈ (upTo size n).filter un, ∃ r' ∈ (upTo size n).filter un, pc op r' = true ∧ (r' = r ∨ r'.length < r.length) := by
    intro r hr
    obtain ⟨h1, h2⟩ := List.mem_filter.mp hr
    obtain ⟨q1, q2, q3⟩ := upTo_mem.mp h1
    obtain ⟨j, j1, j2, j3, j4, j5⟩ := rep ks1 ks2 op hop h0 r.length r rfl q1
    have hl : (r.take j).length = j := by rw [List.length_take]; omega
    refine ⟨r.take j, List.mem_filter.mpr ⟨upTo_mem.mpr ⟨by omega, by omega, fun c hc => q3 c (List.mem_of_mem_take hc)⟩, by rw [hun _ _ j4 j5]; exact h2⟩, j3, ?_⟩
    by_cases z : j = r.length
    · left; rw [z, List.take_length]
    · right; omega
  generalize (upTo size n).filter un = L at pw hmem
  cases L with
  | nil => rfl
  | cons r L =>
    have : pc op r = true := by
      obtain ⟨r', h1, h2, h3⟩ := hmem r List.mem_cons_self
      rcases h3 with rfl | h3
      · exact h2
      · rcases List.mem_cons.mp h1 with rfl | h1
        · omega
        · have := (List.pairwise_cons.mp pw).1 r' h1
          omega
    rw [List.filter_cons, if_pos this]
    rfl
theorem all_pc {size n : Nat} (hop : ∀ x, op x = false → ¬ isBeg ks1 x ∧ ¬ isBeg ks2 x) (h0 : op [] = true) (hun : ∀ a b, readA ks1 a = readA ks1 b → readA ks2 a = readA ks2 b → un a = un b) (p : List Nat → Bool) (hp : ∀ a b, readA ks1 a = readA ks1 b → p a = p b) :
    ((upTo size n).filter fun r => pc op r && un r).all p = !((upTo size n).any fun r => un r && !p r) := by
  rw [Bool.eq_iff_iff, List.all_eq_true, Bool.not_eq_true', List.any_eq_false]
  constructor
  · intro h r hr
    obtain ⟨q1, q2, q3⟩ := upTo_mem.mp hr
    obtain ⟨j, j1, j2, j3, j4, j5⟩ := rep ks1 ks2 op hop h0 r.length r rfl q1
    have hl : (r.take j).length = j := by rw [List.length_take]; omega
    cases hu : un r with
    | false => simp
    | true =>
      have := h (r.take j) (List.mem_filter.mpr ⟨upTo_mem.mpr ⟨by omega, by omega, fun c hc => q3 c (List.mem_of_mem_take hc)⟩, by rw [j3, hun _ _ j4 j5, hu]; rfl⟩)
      rw [hp _ _ j4] at this
      simp [this]
  · intro h r hr
    obtain ⟨h1, h2⟩ := List.mem_filter.mp hr
    rw [Bool.and_eq_true] at h2
    have := h r h1
    rw [h2.2] at this
    simpa using this
end
end Pv.W54

namespace Pv.W54
/-- the holder that is reached -/
def hr (kvs : Kvs) (r : List Nat) : D := match readA (keysD kvs) r with
  | .str n => (lookD kvs n).getD .non
  | _ => .non
theorem hr_congr {kvs : Kvs} {a b : List Nat} (h : readA (keysD kvs) a = readA (keysD kvs) b) : hr kvs a = hr kvs b := by
  unfold hr
  rw [h]
theorem n_hreached (kvs B : Kvs) (r : List Nat) (hr' : r.length ≤ 1000) (hB : ∀ x, x ∈ keysD B ↔ isBeg (keysD kvs) x) : Fn_holder_reached [.tup [.dic kvs, .dic B], .str r] = .ok (hr kvs r) := by
  have e0 : Fn_holder_reached [.tup [.dic kvs, .dic B], .str r] = outOf (sv_holder_reached [some (.fz (.tup [.dic kvs, .dic B])), some (.fz (.str r)), none]) := rfl
  rw [e0]
  unfold sv_holder_reached hr
  have h1 := n_read kvs B r hr' hB
  have x0 : ∀ a b : D, ixD (.tup [a, b]) (.int 0) = .ok a := fun a b => ix_tup (at0 _ _)
  rcases readA_cases (keysD kvs) r with e | ⟨n, hn, e⟩
  · rw [e] at h1 ⊢
    simp [h1, x0, isnD, isD, isNon]
  · rw [e] at h1 ⊢
    obtain ⟨d, hd⟩ := look_some hn
    have hx : ixD (.dic kvs) (.str n) = .ok d := by simp [ixD, hd]
    simp [h1, x0, isnD, isD, isNon, hx, hd]
theorem hr_cases {kvs : Kvs} (h : strV kvs) (r : List Nat) : hr kvs r = .non ∨ ∃ s, hr kvs r = .str s := by
  unfold hr
  rcases readA_cases (keysD kvs) r with e | ⟨n, hn, e⟩
  · rw [e]; exact .inl rfl
  · rw [e]
    dsimp only
    unfold lookD
    cases q : kvs.find? (fun x => decide (x.1 = n)) with
    | none => exact .inl rfl
    | some y =>
      obtain ⟨s, hs⟩ := h y (List.mem_of_find?_eq_some q)
      exact .inr ⟨s, hs⟩
theorem hr_plain {kvs : Kvs} (h : strV kvs) (r : List Nat) : plain (hr kvs r) = true ∧ dep (hr kvs r) = 0 := by
  rcases hr_cases h r with e | ⟨s, e⟩ <;> rw [e] <;> exact ⟨rfl, by simp [dep]⟩
def unl (k1 k2 : Kvs) (r : List Nat) : Bool := !deq (hr k1 r) (hr k2 r)
theorem ne_hr {k1 k2 : Kvs} (h1 : strV k1) (h2 : strV k2) (r : List Nat) : neD (hr k1 r) (hr k2 r) = .ok (.bl (unl k1 k2 r)) := by
  obtain ⟨a1, a2⟩ := hr_plain h1 r
  obtain ⟨b1, b2⟩ := hr_plain h2 r
  unfold neD
  rw [if_pos ⟨a1, b1, by omega⟩]
  rfl
theorem lvl_cnt (size : Nat) (op : List Nat → Bool) : ∀ k, (lvl size op k).length ≤ 6 ^ k := by
  intro k
  rw [lvl_full]
  exact Nat.le_trans (List.length_filter_le _ _) (full_cnt size k)
theorem lvl_len {size : Nat} {op : List Nat → Bool} {k : Nat} {w : List Nat} (h : w ∈ lvl size op k) : w.length = k := by
  rw [lvl_full] at h
  exact full_len size k w (List.mem_filter.mp h).1
theorem i_open (size : Nat) (es : List Ent) (a b c f : Option Sl) (l : List (List Nat)) (g : Option Sl) (s7 : Option Sl) (hl : l.length ≤ 100000) (hw : ∀ w ∈ l, w.length ≤ 100) :
    ∃ s7', q2_open_rows [some (.fz (plan size es)), a, b, c, f, some (.fz (.lst (l.map D.str))), g, s7, some (.ow (.lst [])), none] = .nx [some (.fz (plan size es)), a, b, c, f, some (.fz (.lst (l.map D.str))), g, s7', some (.ow (.lst ((ext (digs size) l).map D.str))), none] := by
  obtain ⟨env', h1, s7', rfl⟩ := forD_seen (T := .nm 7) (b := b1_open_rows) D.str
    (fun pre env => ∃ s7', env = [some (.fz (plan size es)), a, b, c, f, some (.fz (.lst (l.map D.str))), g, s7', some (.ow (.lst ((ext (digs size) pre).map D.str))), none]) l
    [some (.fz (plan size es)), a, b, c, f, some (.fz (.lst (l.map D.str))), g, s7, some (.ow (.lst [])), none] ⟨_, rfl⟩ (by
      rintro pre n post env e ⟨s7', rfl⟩
      refine ⟨[some (.fz (plan size es)), a, b, c, f, some (.fz (.lst (l.map D.str))), g, some (.fz (.str n)), some (.ow (.lst ((ext (digs size) pre).map D.str))), none], rfl,
        [some (.fz (plan size es)), a, b, c, f, some (.fz (.lst (l.map D.str))), g, some (.fz (.str n)), some (.ow (.lst ((ext (digs size) (pre ++ [n])).map D.str))), none], ?_, _, rfl⟩
      have hnl := hw n (by rw [e]; simp)
      have hpl : pre.length ≤ 100000 := by
        have : pre.length ≤ l.length := by rw [e]; simp
        omega
      unfold b1_open_rows
      have hlc := xLc_map (T := .nm 9) (own := [9]) (iv := iSeq (xCall Fn_digits_of (aCons (rdV 0) aNil))) (e := xOp addD (rdB 7) (rdB 9)) (env := [some (.fz (plan size es)), a, b, c, f, some (.fz (.lst (l.map D.str))), g, some (.fz (.str n)), some (.ow (.lst ((ext (digs size) pre).map D.str))), none])
        ch (fun d => .str (n ++ [d])) (digs size) (by simp [n_digits, zpD, ch]) (fun d _ => ⟨_, rfl, by simp [-v_addS, add_ch d hnl]⟩)
      have hlen : ((ext (digs size) pre).map D.str).length + ((digs size).map fun d => D.str (n ++ [d])).length ≤ 16777216 := by
        rw [List.length_map, List.length_map, ext_len]
        have := Nat.mul_le_mul hpl (digs_len size)
        have := digs_len size
        omega
      rw [v_sExt]
      simp only [v_gtS, v_gt0, hlc, v_fok, exD, v_LIM, if_pos hlen]
      simp [ext_snoc])
  refine ⟨s7', ?_⟩
  unfold q2_open_rows
  have hz : zpD (.lst (l.map D.str)) = .ok (l.map D.str) := rfl
  simp [hz, h1]
def opB (B1 B2 : Kvs) (x : List Nat) : Bool := decide (x ∈ keysD B1) || decide (x ∈ keysD B2)
def lst1 (l : List (List Nat)) : D := .lst (l.map D.str)
theorem n_open {size : Nat} {es1 es2 : List Ent} (h1 : OkP size es1) (h2 : OkP size es2) {B1 B2 : Kvs} (hi1 : Fn_find_index [plan size es1] = .ok (.tup [.dic (dictOf size es1), .dic B1])) (hi2 : Fn_find_index [plan size es2] = .ok (.tup [.dic (dictOf size es2), .dic B2])) :
    Fn_open_rows [plan size es1, plan size es2] = .ok (.lst ((List.range 6).map fun k => lst1 (lvl size (opB B1 B2) (k + 1)))) := by
  have e0 : Fn_open_rows [plan size es1, plan size es2] = outOf (sv_open_rows [some (.fz (plan size es1)), some (.fz (plan size es2)), none, none, none, none, none, none, none, none]) := rfl
  obtain ⟨env', hL, s6, s7, s8, rfl⟩ := forD_cnt (T := .nm 6) (b := b3_open_rows) ((List.range 6).map fun (i : Nat) => D.int (i : Int))
    (fun j env => ∃ s6 s7 s8, env = [some (.fz (plan size es1)), some (.fz (plan size es2)), some (.fz (.tup [.dic (dictOf size es1), .dic B1])), some (.fz (.tup [.dic (dictOf size es2), .dic B2])), some (.ow (.lst ((List.range j).map fun k => lst1 (lvl size (opB B1 B2) (k + 1))))), some (.fz (lst1 (lvl size (opB B1 B2) j))), s6, s7, s8, none])
    [some (.fz (plan size es1)), some (.fz (plan size es2)), some (.fz (.tup [.dic (dictOf size es1), .dic B1])), some (.fz (.tup [.dic (dictOf size es2), .dic B2])), some (.ow (.lst [])), some (.fz (.lst [.str []])), none, none, none, none] ⟨_, _, _, rfl⟩ (by
      rintro j x env hx ⟨s6, s7, s8, rfl⟩
      have hj : j < 6 := by
        have := (List.getElem?_eq_some_iff.mp hx).1
        simpa using this
      rw [List.getElem?_map, List.getElem?_range hj] at hx
      cases hx
      have hpow : 6 ^ j ≤ 6 ^ 6 := Nat.pow_le_pow_right (by decide) (by omega)
      have hlj := lvl_cnt size (opB B1 B2) j
      have hfl : ((lvl size (opB B1 B2) j).filter (opB B1 B2)).length ≤ 100000 := Nat.le_trans (List.length_filter_le _ _) (by omega)
      have hfw : ∀ w ∈ (lvl size (opB B1 B2) j).filter (opB B1 B2), w.length ≤ 100 := fun w hw => by have := lvl_len (List.mem_filter.mp hw).1; omega
      obtain ⟨s7', hi⟩ := i_open size es1 (some (.fz (plan size es2))) (some (.fz (.tup [.dic (dictOf size es1), .dic B1]))) (some (.fz (.tup [.dic (dictOf size es2), .dic B2]))) (some (.ow (.lst ((List.range j).map fun k => lst1 (lvl size (opB B1 B2) (k + 1)))))) ((lvl size (opB B1 B2) j).filter (opB B1 B2)) (some (.fz (.int (j : Int)))) s7 hfl hfw
      refine ⟨[some (.fz (plan size es1)), some (.fz (plan size es2)), some (.fz (.tup [.dic (dictOf size es1), .dic B1])), some (.fz (.tup [.dic (dictOf size es2), .dic B2])), some (.ow (.lst ((List.range j).map fun k => lst1 (lvl size (opB B1 B2) (k + 1))))), some (.fz (lst1 (lvl size (opB B1 B2) j))), some (.fz (.int (j : Int))), s7, s8, none], rfl,
        [some (.fz (plan size es1)), some (.fz (plan size es2)), some (.fz (.tup [.dic (dictOf size es1), .dic B1])), some (.fz (.tup [.dic (dictOf size es2), .dic B2])), some (.ow (.lst ((List.range (j + 1)).map fun k => lst1 (lvl size (opB B1 B2) (k + 1))))), some (.fz (lst1 (lvl size (opB B1 B2) (j + 1)))), some (.fz (.int (j : Int))), s7', some (.fz (lst1 (lvl size (opB B1 B2) (j + 1)))), none], .inl ?_, _, _, _, rfl⟩
      unfold b3_open_rows
      have x1 : ∀ a b : D, ixD (.tup [a, b]) (.int 1) = .ok b := fun a b => ix_tup (at1 _ _ _)
      have hlc : xLc (.nm 7) [7] (iSeq (rdB 5)) (tOr' (tVal (xOp inD (rdB 7) (xOp ixD (rdB 2) (xC (.int 1))))) (tVal (xOp inD (rdB 7) (xOp ixD (rdB 3) (xC (.int 1)))))) (rdV 7)
          [some (.fz (plan size es1)), some (.fz (plan size es2)), some (.fz (.tup [.dic (dictOf size es1), .dic B1])), some (.fz (.tup [.dic (dictOf size es2), .dic B2])), some (.ow (.lst ((List.range j).map fun k => lst1 (lvl size (opB B1 B2) (k + 1))))), some (.fz (lst1 (lvl size (opB B1 B2) j))), some (.fz (.int (j : Int))), s7, s8, none] = .ok (.lst (((lvl size (opB B1 B2) j).filter (opB B1 B2)).map D.str)) :=
        xLc_ok D.str (opB B1 B2) D.str _ (by simp [lst1, zpD]) fun w _ => ⟨[some (.fz (plan size es1)), some (.fz (plan size es2)), some (.fz (.tup [.dic (dictOf size es1), .dic B1])), some (.fz (.tup [.dic (dictOf size es2), .dic B2])), some (.ow (.lst ((List.range j).map fun k => lst1 (lvl size (opB B1 B2) (k + 1))))), some (.fz (lst1 (lvl size (opB B1 B2) j))), some (.fz (.int (j : Int))), some (.fz (.str w)), s8, none], rfl, by
          unfold opB
          by_cases q : w ∈ keysD B1
          · simp [x1, in_dic, q]
          · simp [x1, in_dic, q], fun _ => by simp⟩
      rw [v_sSeq, v_sAsg, hlc]
      simp only [v_fok, v_stn, v_ptS, v_pt0]
      rw [v_sSeq, v_sOwn]
      simp only [v_oL, v_aNil, v_ok, v_oNil, List.length_nil, Nat.zero_le, if_true, v_fok, v_psS, v_ps0, v_ptS, v_pt0]
      rw [v_sSeq, hi]
      have hll : ((List.range j).map fun k => lst1 (lvl size (opB B1 B2) (k + 1))).length < 16777216 := by simp; omega
      have hlx : lst1 (lvl size (opB B1 B2) (j + 1)) = .lst ((ext (digs size) ((lvl size (opB B1 B2) j).filter (opB B1 B2))).map D.str) := rfl
      simp only [v_sSeq, v_sFrz, v_frz, v_gtS, v_gt0, v_ptS, v_pt0, v_sApp, v_rdV, v_fok, v_LIM, if_pos hll, v_sAsg, v_stn]
      rw [List.range_succ, List.map_append, hlx]
      rfl)
  rw [e0]
  unfold sv_open_rows q4_open_rows
  have hr6 : rng1 (.int 6) = .ok ((List.range 6).map fun (i : Nat) => D.int (i : Int)) := rng1_ok (n := 6) (by decide)
  rw [show ((List.range 6).map fun (i : Nat) => D.int (i : Int)).length = 6 from by simp] at hL
  simp only [v_sSeq, v_sOwn, v_oF, v_oL, v_oNil, v_xCall, v_aCons, v_aNil, v_rdV, v_gtS, v_gt0, v_ok, hi1, hi2, v_fok, v_psS, v_ps0, v_ptS, v_pt0, v_xLst, v_xC, List.length_nil, List.length_cons, Nat.zero_le, if_true, show (0 + 1 ≤ LIM) = True from by simp, v_sFor, v_iR1, hr6, hL, v_sFrz, v_frz, v_sRet, v_outr]
theorem n_unlike {size : Nat} {es1 es2 : List Ent} (h1 : OkP size es1) (h2 : OkP size es2) {B1 B2 : Kvs} (hi1 : Fn_find_index [plan size es1] = .ok (.tup [.dic (dictOf size es1), .dic B1])) (hi2 : Fn_find_index [plan size es2] = .ok (.tup [.dic (dictOf size es2), .dic B2]))
    (hb1 : ∀ x, x ∈ keysD B1 ↔ isBeg (K size es1) x) (hb2 : ∀ x, x ∈ keysD B2 ↔ isBeg (K size es2) x) :
    Fn_find_unlike [plan size es1, plan size es2] = .ok (lst1 ((List.range 6).flatMap fun k => (lvl size (opB B1 B2) (k + 1)).filter (unl (dictOf size es1) (dictOf size es2)))) := by
  have e0 : Fn_find_unlike [plan size es1, plan size es2] = outOf (sv_find_unlike [some (.fz (plan size es1)), some (.fz (plan size es2)), none, none, none, none, none]) := rfl
  obtain ⟨env', hL, s5, rfl⟩ := forD_cnt (T := .nm 5) (b := b1_find_unlike) ((List.range 6).map fun k => lst1 (lvl size (opB B1 B2) (k + 1)))
    (fun j env => ∃ s5, env = [some (.fz (plan size es1)), some (.fz (plan size es2)), some (.fz (.tup [.dic (dictOf size es1), .dic B1])), some (.fz (.tup [.dic (dictOf size es2), .dic B2])), some (.ow (lst1 ((List.range j).flatMap fun k => (lvl size (opB B1 B2) (k + 1)).filter (unl (dictOf size es1) (dictOf size es2))))), s5, none])
    [some (.fz (plan size es1)), some (.fz (plan size es2)), some (.fz (.tup [.dic (dictOf size es1), .dic B1])), some (.fz (.tup [.dic (dictOf size es2), .dic B2])), some (.ow (.lst [])), none, none] ⟨_, rfl⟩ (by
      rintro j x env hx ⟨s5, rfl⟩
      have hj : j < 6 := by
        have := (List.getElem?_eq_some_iff.mp hx).1
        simpa using this
      rw [List.getElem?_map, List.getElem?_range hj] at hx
      cases hx
      have hpow : 6 ^ (j + 1) ≤ 6 ^ 6 := Nat.pow_le_pow_right (by decide) (by omega)
      have hlj := lvl_cnt size (opB B1 B2) (j + 1)
      have hlc : xLc (.nm 6) [6] (iSeq (rdB 5)) (tVal (xOp neD (xCall Fn_holder_reached (aCons (rdV 2) (aCons (rdV 6) aNil))) (xCall Fn_holder_reached (aCons (rdV 3) (aCons (rdV 6) aNil))))) (rdV 6)
          [some (.fz (plan size es1)), some (.fz (plan size es2)), some (.fz (.tup [.dic (dictOf size es1), .dic B1])), some (.fz (.tup [.dic (dictOf size es2), .dic B2])), some (.ow (lst1 ((List.range j).flatMap fun k => (lvl size (opB B1 B2) (k + 1)).filter (unl (dictOf size es1) (dictOf size es2))))), some (.fz (lst1 (lvl size (opB B1 B2) (j + 1)))), none] = .ok (.lst (((lvl size (opB B1 B2) (j + 1)).filter (unl (dictOf size es1) (dictOf size es2))).map D.str)) :=
        xLc_ok D.str (unl (dictOf size es1) (dictOf size es2)) D.str _ (by simp [lst1, zpD]) fun w hw => ⟨[some (.fz (plan size es1)), some (.fz (plan size es2)), some (.fz (.tup [.dic (dictOf size es1), .dic B1])), some (.fz (.tup [.dic (dictOf size es2), .dic B2])), some (.ow (lst1 ((List.range j).flatMap fun k => (lvl size (opB B1 B2) (k + 1)).filter (unl (dictOf size es1) (dictOf size es2))))), some (.fz (lst1 (lvl size (opB B1 B2) (j + 1)))), some (.fz (.str w))], rfl, by
          have hwl := lvl_len hw
          have g1 := n_hreached (dictOf size es1) B1 w (by omega) hb1
          have g2 := n_hreached (dictOf size es2) B2 w (by omega) hb2
          simp [g1, g2, ne_hr (dict_strV size es1) (dict_strV size es2)], fun _ => by simp⟩
      refine ⟨[some (.fz (plan size es1)), some (.fz (plan size es2)), some (.fz (.tup [.dic (dictOf size es1), .dic B1])), some (.fz (.tup [.dic (dictOf size es2), .dic B2])), some (.ow (lst1 ((List.range j).flatMap fun k => (lvl size (opB B1 B2) (k + 1)).filter (unl (dictOf size es1) (dictOf size es2))))), some (.fz (lst1 (lvl size (opB B1 B2) (j + 1)))), none], rfl,
        [some (.fz (plan size es1)), some (.fz (plan size es2)), some (.fz (.tup [.dic (dictOf size es1), .dic B1])), some (.fz (.tup [.dic (dictOf size es2), .dic B2])), some (.ow (lst1 ((List.range (j + 1)).flatMap fun k => (lvl size (opB B1 B2) (k + 1)).filter (unl (dictOf size es1) (dictOf size es2))))), some (.fz (lst1 (lvl size (opB B1 B2) (j + 1)))), none], .inl ?_, _, rfl⟩
      have hA : ((List.range j).flatMap fun k => (lvl size (opB B1 B2) (k + 1)).filter (unl (dictOf size es1) (dictOf size es2))).length ≤ 46656 * j := by
        clear hlc
        induction j with
        | zero => simp
        | succ j ih =>
          rw [List.range_succ, List.flatMap_append, List.length_append]
          have hpow' : 6 ^ (j + 1) ≤ 6 ^ 6 := Nat.pow_le_pow_right (by decide) (by omega)
          have h1' := ih (by omega) hpow' (lvl_cnt size (opB B1 B2) (j + 1))
          have h2' : ((lvl size (opB B1 B2) (j + 1)).filter (unl (dictOf size es1) (dictOf size es2))).length ≤ 46656 := Nat.le_trans (List.length_filter_le _ _) (Nat.le_trans (lvl_cnt size (opB B1 B2) (j + 1)) (Nat.le_trans hpow' (by decide)))
          simp only [List.flatMap_cons, List.flatMap_nil, List.append_nil]
          omega
      have hB' : ((lvl size (opB B1 B2) (j + 1)).filter (unl (dictOf size es1) (dictOf size es2))).length ≤ 46656 := Nat.le_trans (List.length_filter_le _ _) (Nat.le_trans hlj (Nat.le_trans hpow (by decide)))
      unfold b1_find_unlike
      rw [v_sExt]
      simp only [lst1] at hlc
      simp only [v_gtS, v_gt0, lst1, hlc, v_fok, exD]
      rw [if_pos (by simp only [List.length_map]; show _ ≤ 16777216; omega)]
      rw [List.range_succ, List.flatMap_append]
      simp)
  rw [e0]
  unfold sv_find_unlike q2_find_unlike
  have hop := n_open h1 h2 hi1 hi2
  have hz : ∀ l, zpD (.lst l) = .ok l := fun _ => rfl
  rw [show ((List.range 6).map fun k => lst1 (lvl size (opB B1 B2) (k + 1))).length = 6 from by simp] at hL
  simp only [v_sSeq, v_sOwn, v_oF, v_oL, v_oNil, v_xCall, v_aCons, v_aNil, v_rdV, v_gtS, v_gt0, v_ok, hi1, hi2, v_fok, v_psS, v_ps0, v_ptS, v_pt0, List.length_nil, Nat.zero_le, if_true, v_sFor, v_iSeq, hop, hz, hL, v_sFrz, v_frz, v_sRet, v_outr]
end Pv.W54

namespace Pv.W54
structure Pg (size : Nat) (es : List Ent) : Prop where
  ok : OkP size es
  k3 : ∀ e ∈ es, 1 ≤ e.1.length ∧ e.1.length ≤ 3
theorem Pg.keys {size : Nat} {es : List Ent} (h : Pg size es) : ∀ k ∈ K size es, 1 ≤ k.length ∧ k.length ≤ 3 := by
  intro k hk
  obtain ⟨e, he, q⟩ := key_len hk
  have := h.k3 e he
  omega
theorem Pg.nil {size : Nat} {es : List Ent} (h : Pg size es) : [] ∉ keysD (dictOf size es) := fun q => by have := h.keys [] q; simp at this
def optD : Option (List Nat) → D
  | some r => .str r
  | none => .non
/-- rows of two plans up to three digits that reach different holders -/
def diffs (size : Nat) (es1 es2 : List Ent) : List (List Nat) := (upTo size 3).filter (unl (dictOf size es1) (dictOf size es2))
theorem upTo_cut {size : Nat} {q : List Nat → Bool} (h : ∀ w, q w = true → w.length ≤ 3) : (upTo size 6).filter q = (upTo size 3).filter q := by
  have z : ∀ k, 3 ≤ k → (full size (k + 1)).filter q = [] := by
    intro k hk
    rw [List.filter_eq_nil_iff]
    intro w hw e
    have := full_len size _ w hw
    have := h w e
    omega
  rw [upTo_succ, upTo_succ, upTo_succ, List.filter_append, List.filter_append, List.filter_append, z 3 (by decide), z 4 (by decide), z 5 (by decide)]
  simp
theorem unlikes {size : Nat} {es1 es2 : List Ent} (h1 : Pg size es1) (h2 : Pg size es2) {B1 B2 : Kvs} (hb1 : ∀ x, x ∈ keysD B1 ↔ isBeg (K size es1) x) (hb2 : ∀ x, x ∈ keysD B2 ↔ isBeg (K size es2) x) :
    ((List.range 6).flatMap fun k => (lvl size (opB B1 B2) (k + 1)).filter (unl (dictOf size es1) (dictOf size es2))) = (upTo size 3).filter fun r => pc (opB B1 B2) r && unl (dictOf size es1) (dictOf size es2) r := by
  rw [← upTo_cut]
  · unfold upTo
    rw [List.filter_flatMap]
    congr 1
    funext k
    rw [lvl_full, List.filter_filter]
    congr 1
    funext r
    rw [Bool.and_comm]
  · intro w hw
    rw [Bool.and_eq_true] at hw
    rcases Nat.lt_or_ge 3 w.length with q | q
    · exfalso
      have hp := hw.1
      unfold pc at hp
      rw [List.all_eq_true] at hp
      have h3 := hp 3 (by simp; omega)
      have hl : (w.take 3).length = 3 := by rw [List.length_take]; omega
      have nb : ∀ es, Pg size es → ¬ isBeg (K size es) (w.take 3) := by
        rintro es hp (e | ⟨n, hn, j, hj, e⟩)
        · rw [e] at hl; simp at hl
        · have := (hp.keys n hn).2
          rw [e, List.length_take] at hl
          omega
      unfold opB at h3
      rw [Bool.or_eq_true, decide_eq_true_eq, decide_eq_true_eq, hb1, hb2] at h3
      rcases h3 with h3 | h3
      · exact nb es1 h1 h3
      · exact nb es2 h2 h3
    · exact q
theorem op_facts {size : Nat} {es1 es2 : List Ent} {B1 B2 : Kvs} (hb1 : ∀ x, x ∈ keysD B1 ↔ isBeg (K size es1) x) (hb2 : ∀ x, x ∈ keysD B2 ↔ isBeg (K size es2) x) : (∀ x, opB B1 B2 x = false → ¬ isBeg (K size es1) x ∧ ¬ isBeg (K size es2) x) ∧ opB B1 B2 [] = true := by
  constructor
  · intro x h
    unfold opB at h
    rw [Bool.or_eq_false_iff, decide_eq_false_iff_not, decide_eq_false_iff_not, hb1, hb2] at h
    exact h
  · unfold opB
    rw [Bool.or_eq_true, decide_eq_true_eq, hb1]
    exact .inl (.inl rfl)
theorem un_congr {size : Nat} {es1 es2 : List Ent} (a b : List Nat) (h1 : readA (K size es1) a = readA (K size es1) b) (h2 : readA (K size es2) a = readA (K size es2) b) : unl (dictOf size es1) (dictOf size es2) a = unl (dictOf size es1) (dictOf size es2) b := by
  unfold unl
  rw [hr_congr h1, hr_congr h2]
theorem n_both {size : Nat} {es1 es2 : List Ent} (h1 : Pg size es1) (h2 : Pg size es2) : Fn_check_both [plan size es1, plan size es2] = .ok .non := by
  have e0 : Fn_check_both [plan size es1, plan size es2] = outOf (sv_check_both [some (.fz (plan size es1)), some (.fz (plan size es2))]) := rfl
  rw [e0]
  unfold sv_check_both q1_check_both
  have hx : ∀ es, ixD (plan size es) (.int 0) = .ok (.int size) := fun _ => ix_tup (at0 _ _)
  simp [n_check_plan h1.ok, n_check_plan h2.ok, hx, ne_int]
theorem ne_nil1 (l : List (List Nat)) : neD (lst1 l) (.lst []) = .ok (.bl (!l.isEmpty)) := by
  unfold neD lst1
  rw [if_pos ⟨(pl_strs l).1, by simp [plain, plains], by simp [dep, deps]⟩]
  cases l <;> simp [deq, deqs]
theorem eq_nil1 (l : List (List Nat)) : eqD (lst1 l) (.lst []) = .ok (.bl l.isEmpty) := by
  unfold eqD lst1
  rw [if_pos ⟨(pl_strs l).1, by simp [plain, plains], by simp [dep, deps]⟩]
  cases l <;> simp [deq, deqs]
theorem n_parting {size : Nat} {es1 es2 : List Ent} (h1 : Pg size es1) (h2 : Pg size es2) : Fn_parting_row [plan size es1, plan size es2] = .ok (optD (diffs size es1 es2).head?) := by
  have e0 : Fn_parting_row [plan size es1, plan size es2] = outOf (sv_parting_row [some (.fz (plan size es1)), some (.fz (plan size es2)), none]) := rfl
  obtain ⟨B1, hi1, hb1⟩ := n_index h1.ok
  obtain ⟨B2, hi2, hb2⟩ := n_index h2.ok
  obtain ⟨o1, o2⟩ := op_facts hb1 hb2
  have hu := n_unlike h1.ok h2.ok hi1 hi2 hb1 hb2
  rw [unlikes h1 h2 hb1 hb2] at hu
  have hh := head_pc (size := size) (n := 3) (K size es1) (K size es2) (opB B1 B2) (unl (dictOf size es1) (dictOf size es2)) o1 o2 un_congr
  rw [e0]
  unfold sv_parting_row
  unfold diffs
  rw [← hh]
  generalize ((upTo size 3).filter fun r => pc (opB B1 B2) r && unl (dictOf size es1) (dictOf size es2) r) = U at hu
  cases U with
  | nil => simp [n_both h1 h2, hu, ne_nil1, optD]
  | cons r U =>
    have x0 : ixD (lst1 (r :: U)) (.int 0) = .ok (.str r) := ix_lst (at0 _ _)
    simp [n_both h1 h2, hu, ne_nil1, optD, x0]
theorem is_non_hr {kvs : Kvs} (h : strV kvs) (r : List Nat) : isD (hr kvs r) .non = .ok (.bl (isNon (hr kvs r))) := by
  rcases hr_cases h r with e | ⟨s, e⟩ <;> rw [e] <;> rfl
end Pv.W54

namespace Pv
open Classical
/-! ### different tuples of ints and texts, and their order -/
theorem msN_congr {α : Type} {le le' : α → α → Bool} : ∀ (l : List α), (∀ a ∈ l, ∀ b ∈ l, le a b = le' a b) → l.mergeSort le = l.mergeSort le' := by
  intro l h
  have mg : ∀ (xs ys : List α), (∀ a ∈ xs, ∀ b ∈ ys, le a b = le' a b) → List.merge xs ys le = List.merge xs ys le' := by
    intro xs
    induction xs with
    | nil => intro ys _; simp
    | cons x xs ih =>
      intro ys
      induction ys with
      | nil => intro _; simp
      | cons y ys ih2 =>
        intro h
        rw [List.cons_merge_cons, List.cons_merge_cons, h x List.mem_cons_self y List.mem_cons_self]
        split
        · rw [ih (y :: ys) fun a ha b hb => h a (List.mem_cons_of_mem _ ha) b hb]
        · rw [ih2 fun a ha b hb => h a ha b (List.mem_cons_of_mem _ hb)]
  have key : ∀ (n : Nat) (l : List α), l.length ≤ n → (∀ a ∈ l, ∀ b ∈ l, le a b = le' a b) → l.mergeSort le = l.mergeSort le' := by
    intro n
    induction n with
    | zero =>
      intro l hl _
      have : l = [] := List.eq_nil_of_length_eq_zero (by omega)
      subst this
      simp
    | succ n ih =>
      intro l hl h
      match l, hl, h with
      | [], _, _ => simp
      | [a], _, _ => simp
      | a :: b :: xs, hl, h =>
        rw [List.mergeSort, List.mergeSort]
        have hs : ∀ {z : α}, z ∈ (List.MergeSort.Internal.splitInTwo ⟨a :: b :: xs, rfl⟩).1.1 → z ∈ a :: b :: xs := fun {z} hz => by
          rw [List.MergeSort.Internal.splitInTwo_fst] at hz
          exact List.mem_of_mem_take hz
        have hs2 : ∀ {z : α}, z ∈ (List.MergeSort.Internal.splitInTwo ⟨a :: b :: xs, rfl⟩).2.1 → z ∈ a :: b :: xs := fun {z} hz => by
          rw [List.MergeSort.Internal.splitInTwo_snd] at hz
          exact List.mem_of_mem_drop hz
        have l1 : (List.MergeSort.Internal.splitInTwo ⟨a :: b :: xs, rfl⟩).1.1.length ≤ n := by
          rw [List.MergeSort.Internal.splitInTwo_fst]
          simp only [List.length_take, List.length_cons] at hl ⊢
          omega
        have l2 : (List.MergeSort.Internal.splitInTwo ⟨a :: b :: xs, rfl⟩).2.1.length ≤ n := by
          rw [List.MergeSort.Internal.splitInTwo_snd]
          simp only [List.length_drop, List.length_cons] at hl ⊢
          omega
        show List.merge _ _ _ = List.merge _ _ _
        rw [ih _ l1 fun x hx y hy => h x (hs hx) y (hs hy), ih _ l2 fun x hx y hy => h x (hs2 hx) y (hs2 hy)]
        refine mg _ _ fun x hx y hy => h x (hs ?_) y (hs2 ?_)
        · exact (List.mergeSort_perm _ _).mem_iff.mp hx
        · exact (List.mergeSort_perm _ _).mem_iff.mp hy
  exact key l.length l (Nat.le_refl _) h
theorem alkN_mem {ds : List D} (h : alkAll ds = true) {a b : D} (ha : a ∈ ds) (hb : b ∈ ds) : alk a b = true := by
  unfold alkAll at h
  rw [List.all_eq_true] at h
  have := h a ha
  rw [List.all_eq_true] at this
  exact this b hb
theorem at_eq {a b : D} (ha : isAt a = true) (hb : isAt b = true) : deq a b = decide (a = b) := by
  rw [Bool.eq_iff_iff, decide_eq_true_eq]
  cases a <;> simp [isAt] at ha <;> cases b <;> simp [isAt] at hb <;> simp [deq]
theorem ats_eq : ∀ {as bs : List D}, as.all isAt = true → bs.all isAt = true → deqs as bs = decide (as = bs)
  | [], [], _, _ => by simp [deqs]
  | [], _ :: _, _, _ => by simp [deqs]
  | _ :: _, [], _, _ => by simp [deqs]
  | a :: as, b :: bs, ha, hb => by
    rw [List.all_cons, Bool.and_eq_true] at ha hb
    rw [deqs, at_eq ha.1 hb.1, ats_eq ha.2 hb.2]
    by_cases h : a = b <;> simp [h]
theorem tA_eq {a b : D} (ha : tupA a = true) (hb : tupA b = true) : deq a b = decide (a = b) := by
  cases a with
  | tup as =>
    cases b with
    | tup bs =>
      cases as with
      | nil => simp [tupA] at ha
      | cons x xs =>
        cases bs with
        | nil => simp [tupA] at hb
        | cons y ys =>
          rw [deq, ats_eq ha hb]
          simp
    | _ => simp [tupA] at hb
  | _ => simp [tupA] at ha
theorem distD_mem {xs : List D} : ∀ {acc : List D}, (∀ d ∈ xs, tupA d = true) → (∀ d ∈ acc, tupA d = true) → ∀ y, y ∈ distD acc xs ↔ y ∈ acc ∨ y ∈ xs := by
  induction xs with
  | nil => intro acc _ _ y; simp [distD]
  | cons x xs ih =>
    intro acc hx ha y
    have hx1 := hx x List.mem_cons_self
    have hany : (acc.any fun y => deq y x) = decide (x ∈ acc) := by
      rw [Bool.eq_iff_iff, List.any_eq_true, decide_eq_true_eq]
      constructor
      · rintro ⟨z, hz, e⟩
        rw [tA_eq (ha z hz) hx1, decide_eq_true_eq] at e
        exact e ▸ hz
      · intro h
        exact ⟨x, h, by rw [tA_eq hx1 hx1]; simp⟩
    rw [distD, hany, ih (fun d hd => hx d (List.mem_cons_of_mem _ hd))]
    · by_cases h : x ∈ acc
      · simp only [h, decide_true, if_true, List.mem_cons]
        constructor
        · rintro (q | q)
          · exact .inl q
          · exact .inr (.inr q)
        · rintro (q | rfl | q)
          · exact .inl q
          · exact .inl h
          · exact .inr q
      · simp only [h, decide_false, Bool.false_eq_true, if_false, List.mem_cons]
        constructor
        · rintro ((q | q) | q)
          · exact .inr (.inl q)
          · exact .inl q
          · exact .inr (.inr q)
        · rintro (q | q | q)
          · exact .inl (.inr q)
          · exact .inl (.inl q)
          · exact .inr q
    · intro d hd
      split at hd
      · exact ha d hd
      · rcases List.mem_cons.mp hd with rfl | hd
        · exact hx1
        · exact ha d hd
theorem distD_nodup {xs : List D} : ∀ {acc : List D}, (∀ d ∈ xs, tupA d = true) → (∀ d ∈ acc, tupA d = true) → acc.Nodup → (distD acc xs).Nodup := by
  induction xs with
  | nil => intro acc _ _ h; exact h
  | cons x xs ih =>
    intro acc hx ha nd
    have hx1 := hx x List.mem_cons_self
    rw [distD]
    refine ih (fun d hd => hx d (List.mem_cons_of_mem _ hd)) (fun d hd => ?_) ?_
    · split at hd
      · exact ha d hd
      · rcases List.mem_cons.mp hd with rfl | hd
        · exact hx1
        · exact ha d hd
    · split
      · exact nd
      · rename_i h
        refine List.nodup_cons.mpr ⟨fun hm => h ?_, nd⟩
        rw [List.any_eq_true]
        exact ⟨x, hm, by rw [tA_eq hx1 hx1]; simp⟩
theorem distD_len : ∀ (xs acc : List D), (distD acc xs).length ≤ acc.length + xs.length
  | [], acc => Nat.le_refl _
  | x :: xs, acc => by
    have := distD_len xs (if acc.any (fun y => deq y x) = true then acc else x :: acc)
    rw [distD]
    refine Nat.le_trans this ?_
    split <;> simp <;> omega
theorem permD : ∀ (ls ys : List D), ls.Nodup → (∀ x ∈ ls, x ∈ ys) → ys.length ≤ ls.length → ys.Perm ls
  | [], ys, _, _, hl => by
    have : ys = [] := List.eq_nil_of_length_eq_zero (by simpa using hl)
    subst this
    exact .refl _
  | x :: ls, ys, nd, hs, hl => by
    rw [List.nodup_cons] at nd
    obtain ⟨as, bs, rfl⟩ := List.append_of_mem (hs x List.mem_cons_self)
    have ih := permD ls (as ++ bs) nd.2 (fun y hy => by
      have ne : y ≠ x := fun e => nd.1 (e ▸ hy)
      have := hs y (List.mem_cons_of_mem _ hy)
      simp only [List.mem_append, List.mem_cons] at this ⊢
      rcases this with q | q | q
      · exact .inl q
      · exact absurd q ne
      · exact .inr q) (by simp only [List.length_append, List.length_cons] at hl ⊢; omega)
    exact List.perm_middle.trans (ih.cons x)
/-! ### the order of such tuples -/
theorem at_tri {a b : D} (h : alk a b = true) (ha : isAt a = true) (hb : isAt b = true) : dlt a b = true ∨ a = b ∨ dlt b a = true := by
  cases a <;> simp [isAt] at ha <;> cases b <;> simp [isAt] at hb <;> simp [alk] at h
  · rename_i i j
    simp only [dlt, decide_eq_true_eq, D.int.injEq]
    omega
  · rename_i x y
    simp only [dlt, decide_eq_true_eq, D.str.injEq]
    by_cases q : x < y
    · exact .inl q
    · by_cases z : y < x
      · exact .inr (.inr z)
      · exact .inr (.inl (List.le_antisymm (List.not_lt.mp z) (List.not_lt.mp q)))
theorem at_asym {a b : D} (h : dlt a b = true) (ha : isAt a = true) (hb : isAt b = true) : dlt b a = false := by
  cases a <;> simp [isAt] at ha <;> cases b <;> simp [isAt] at hb <;> simp [dlt] at h ⊢
  · omega
  · exact List.le_of_lt h
theorem at_trans {a b c : D} (h : dlt a b = true) (k : dlt b c = true) (ha : isAt a = true) (hb : isAt b = true) (hc : isAt c = true) : dlt a c = true := by
  cases a <;> simp [isAt] at ha <;> cases b <;> simp [isAt] at hb <;> cases c <;> simp [isAt] at hc <;> simp [dlt] at h k ⊢
  · omega
  · exact List.lt_trans h k
theorem ats_tri : ∀ {as bs : List D}, alks as bs = true → as.all isAt = true → bs.all isAt = true → dlts as bs = true ∨ as = bs ∨ dlts bs as = true
  | [], [], _, _, _ => .inr (.inl rfl)
  | [], _ :: _, _, _, _ => .inl (by simp [dlts])
  | _ :: _, [], _, _, _ => .inr (.inr (by simp [dlts]))
  | a :: as, b :: bs, h, ha, hb => by
    rw [List.all_cons, Bool.and_eq_true] at ha hb
    rw [alks, Bool.and_eq_true] at h
    rw [dlts, dlts, at_eq ha.1 hb.1, at_eq hb.1 ha.1]
    rcases at_tri h.1 ha.1 hb.1 with q | q | q
    · by_cases e : a = b
      · subst e
        rcases ats_tri h.2 ha.2 hb.2 with z | z | z
        · exact .inl (by simpa using z)
        · exact .inr (.inl (by rw [z]))
        · exact .inr (.inr (by simpa using z))
      · exact .inl (by simpa [e] using q)
    · subst q
      rcases ats_tri h.2 ha.2 hb.2 with z | z | z
      · exact .inl (by simpa using z)
      · exact .inr (.inl (by rw [z]))
      · exact .inr (.inr (by simpa using z))
    · by_cases e : b = a
      · subst e
        rcases ats_tri h.2 ha.2 hb.2 with z | z | z
        · exact .inl (by simpa using z)
        · exact .inr (.inl (by rw [z]))
        · exact .inr (.inr (by simpa using z))
      · exact .inr (.inr (by simpa [e] using q))
theorem ats_asym : ∀ {as bs : List D}, dlts as bs = true → as.all isAt = true → bs.all isAt = true → dlts bs as = false
  | [], [], h, _, _ => by simp [dlts] at h
  | [], _ :: _, _, _, _ => by simp [dlts]
  | _ :: _, [], h, _, _ => by simp [dlts] at h
  | a :: as, b :: bs, h, ha, hb => by
    rw [List.all_cons, Bool.and_eq_true] at ha hb
    rw [dlts, at_eq ha.1 hb.1] at h
    rw [dlts, at_eq hb.1 ha.1]
    by_cases e : a = b
    · subst e
      simp only [decide_true, if_true] at h ⊢
      exact ats_asym h ha.2 hb.2
    · have e2 : ¬ b = a := fun q => e q.symm
      simp only [e, e2, decide_false, Bool.false_eq_true, if_false] at h ⊢
      exact at_asym h ha.1 hb.1
theorem ats_trans : ∀ {as bs cs : List D}, dlts as bs = true → dlts bs cs = true → as.all isAt = true → bs.all isAt = true → cs.all isAt = true → dlts as cs = true
  | [], [], _, h, _, _, _, _ => by simp [dlts] at h
  | _, _ :: _, [], _, k, _, _, _ => by simp [dlts] at k
  | [], _ :: _, _ :: _, _, _, _, _, _ => by simp [dlts]
  | _ :: _, [], _, h, _, _, _, _ => by simp [dlts] at h
  | a :: as, b :: bs, c :: cs, h, k, ha, hb, hc => by
    rw [List.all_cons, Bool.and_eq_true] at ha hb hc
    rw [dlts, at_eq ha.1 hb.1] at h
    rw [dlts, at_eq hb.1 hc.1] at k
    rw [dlts, at_eq ha.1 hc.1]
    by_cases e : a = b
    · subst e
      simp only [decide_true, if_true] at h
      by_cases e2 : a = c
      · subst e2
        simp only [decide_true, if_true] at k ⊢
        exact ats_trans h k ha.2 hb.2 hc.2
      · simp only [e2, decide_false, Bool.false_eq_true, if_false] at k ⊢
        exact k
    · simp only [e, decide_false, Bool.false_eq_true, if_false] at h
      by_cases e2 : b = c
      · subst e2
        simp only [e, decide_false, Bool.false_eq_true, if_false]
        exact h
      · simp only [e2, decide_false, Bool.false_eq_true, if_false] at k
        have q := at_trans h k ha.1 hb.1 hc.1
        have e3 : ¬ a = c := fun z => by
          subst z
          have := at_asym h ha.1 hb.1
          rw [k] at this; cases this
        simp only [e3, decide_false, Bool.false_eq_true, if_false]
        exact q
theorem tA_tri {a b : D} (h : alk a b = true) (ha : tupA a = true) (hb : tupA b = true) : dlt a b = true ∨ a = b ∨ dlt b a = true := by
  cases a with
  | tup as =>
    cases b with
    | tup bs =>
      cases as with
      | nil => simp [tupA] at ha
      | cons x xs =>
        cases bs with
        | nil => simp [tupA] at hb
        | cons y ys =>
          rw [alk] at h
          rw [dlt, dlt]
          rcases ats_tri h ha hb with q | q | q
          · exact .inl q
          · exact .inr (.inl (by rw [q]))
          · exact .inr (.inr q)
    | _ => simp [tupA] at hb
  | _ => simp [tupA] at ha
theorem tA_asym {a b : D} (h : dlt a b = true) (ha : tupA a = true) (hb : tupA b = true) : dlt b a = false := by
  cases a with
  | tup as =>
    cases b with
    | tup bs =>
      cases as with
      | nil => simp [tupA] at ha
      | cons x xs =>
        cases bs with
        | nil => simp [tupA] at hb
        | cons y ys => rw [dlt] at h ⊢; exact ats_asym h ha hb
    | _ => simp [tupA] at hb
  | _ => simp [tupA] at ha
theorem tA_trans {a b c : D} (h : dlt a b = true) (k : dlt b c = true) (ha : tupA a = true) (hb : tupA b = true) (hc : tupA c = true) : dlt a c = true := by
  cases a with
  | tup as =>
    cases b with
    | tup bs =>
      cases c with
      | tup cs =>
        cases as with
        | nil => simp [tupA] at ha
        | cons x xs =>
          cases bs with
          | nil => simp [tupA] at hb
          | cons y ys =>
            cases cs with
            | nil => simp [tupA] at hc
            | cons z zs => rw [dlt] at h k ⊢; exact ats_trans h k ha hb hc
      | _ => simp [tupA] at hc
    | _ => simp [tupA] at hb
  | _ => simp [tupA] at ha
/-- the sorted list of different ones, whatever order they come in -/
theorem srtT_unique {ls ys : List D} (p : ys.Perm ls) (hA : ∀ d ∈ ls, tupA d = true) (hk : alkAll ls = true) : ys.mergeSort dle = ls.mergeSort dle := by
  have le_iff : ∀ a b : D, dle a b = true ↔ ¬ dlt b a = true := fun a b => by simp [dle]
  -- total on the elements: by restricting to them
  have key : ∀ l : List D, l.Perm ls → (l.mergeSort dle).Pairwise fun a b => dle a b = true := by
    intro l pl
    let le' : D → D → Bool := fun a b => if a ∈ ls ∧ b ∈ ls then dle a b else decide (b ∈ ls → a ∈ ls)
    have e : l.mergeSort dle = l.mergeSort le' := msN_congr l fun a ha b hb => by
      show dle a b = if a ∈ ls ∧ b ∈ ls then dle a b else _
      rw [if_pos ⟨pl.mem_iff.mp ha, pl.mem_iff.mp hb⟩]
    have tr : ∀ a b c, le' a b = true → le' b c = true → le' a c = true := by
      intro a b c h k
      show (if a ∈ ls ∧ c ∈ ls then dle a c else decide (c ∈ ls → a ∈ ls)) = true
      have h' : (if a ∈ ls ∧ b ∈ ls then dle a b else decide (b ∈ ls → a ∈ ls)) = true := h
      have k' : (if b ∈ ls ∧ c ∈ ls then dle b c else decide (c ∈ ls → b ∈ ls)) = true := k
      by_cases ha : a ∈ ls <;> by_cases hb : b ∈ ls <;> by_cases hc : c ∈ ls <;> simp [ha, hb, hc] at h' k' ⊢
      rw [le_iff] at h' k' ⊢
      intro q
      rcases tA_tri (alkN_mem hk hb hc) (hA b hb) (hA c hc) with z | z | z
      · exact h' (tA_trans z q (hA b hb) (hA c hc) (hA a ha))
      · subst z; exact h' q
      · exact k' z
    have tot : ∀ a b, (le' a b || le' b a) = true := by
      intro a b
      show ((if a ∈ ls ∧ b ∈ ls then dle a b else decide (b ∈ ls → a ∈ ls)) || (if b ∈ ls ∧ a ∈ ls then dle b a else decide (a ∈ ls → b ∈ ls))) = true
      by_cases ha : a ∈ ls <;> by_cases hb : b ∈ ls <;> simp [ha, hb]
      rw [le_iff, le_iff]
      by_cases z : dlt b a = true
      · exact .inr (by rw [tA_asym z (hA b hb) (hA a ha)]; simp)
      · exact .inl z
    have pw := List.pairwise_mergeSort tr tot l
    rw [e]
    refine List.Pairwise.imp_of_mem (fun {a b} ha hb h => ?_) pw
    have h' : (if a ∈ ls ∧ b ∈ ls then dle a b else decide (b ∈ ls → a ∈ ls)) = true := h
    rw [if_pos ⟨pl.mem_iff.mp ((List.mergeSort_perm _ _).mem_iff.mp ha), pl.mem_iff.mp ((List.mergeSort_perm _ _).mem_iff.mp hb)⟩] at h'
    exact h'
  refine List.Perm.eq_of_pairwise (le := fun a b => dle a b = true) (fun a b ha hb h k => ?_) (key ys p) (key ls (.refl _)) (((List.mergeSort_perm ys _).trans p).trans (List.mergeSort_perm ls _).symm)
  have ha' : a ∈ ls := p.mem_iff.mp ((List.mergeSort_perm _ _).mem_iff.mp ha)
  have hb' : b ∈ ls := (List.mergeSort_perm _ _).mem_iff.mp hb
  rw [le_iff] at h k
  rcases tA_tri (alkN_mem hk ha' hb') (hA a ha') (hA b hb') with z | z | z
  · exact absurd z k
  · exact z
  · exact absurd z h
/-- a rising list of such tuples is its own sorted set -/
theorem sset_self {ls : List D} (hA : ∀ d ∈ ls, tupA d = true) (hk : alkAll ls = true) (hp : ls.Pairwise fun a b => dlt a b = true) : (distD [] ls).mergeSort dle = ls := by
  have nd : ls.Nodup := List.Pairwise.imp_of_mem (fun {a b} ha hb h e => by
    subst e
    have := tA_asym h (hA _ ha) (hA _ ha)
    rw [h] at this; cases this) hp
  have dm := distD_mem (xs := ls) (acc := []) hA (fun d hd => nomatch hd)
  have pm : (distD [] ls).Perm ls := permD ls _ nd (fun x hx => (dm x).mpr (.inr hx)) (by simpa using distD_len ls [])
  rw [srtT_unique pm hA hk]
  exact List.mergeSort_of_pairwise (List.Pairwise.imp_of_mem (fun {a b} ha hb h => by
    show (!dlt b a) = true
    rw [tA_asym h (hA a ha) (hA b hb)]; rfl) hp)
theorem ssetT_self {ls : List D} (hA : ∀ d ∈ ls, tupA d = true) (hk : alkAll ls = true) (hp : ls.Pairwise fun a b => dlt a b = true) (hl : ls.length ≤ 4000) : ssetT (.lst ls) = .ok (.lst ls) := by
  unfold ssetT
  dsimp only
  rw [if_pos ⟨List.all_eq_true.mpr hA, hk, hl⟩, sset_self hA hk hp]
end Pv

namespace Pv.W54
def dk (L : List Ent) : Kvs := L.map fun e => (e.1, D.str e.2)
theorem dict_dk (size : Nat) (es : List Ent) : ∃ L : List Ent, dictOf size es = dk L := by
  have key : ∀ kvs : Kvs, (∀ kv ∈ kvs, ∃ s, kv.2 = D.str s) → ∃ L : List Ent, kvs = dk L := by
    intro kvs
    induction kvs with
    | nil => intro _; exact ⟨[], rfl⟩
    | cons kv kvs ih =>
      intro h
      obtain ⟨L, hL⟩ := ih fun x hx => h x (List.mem_cons_of_mem _ hx)
      obtain ⟨s, hs⟩ := h kv List.mem_cons_self
      refine ⟨(kv.1, s) :: L, ?_⟩
      rw [hL]
      show kv :: dk L = (kv.1, D.str s) :: dk L
      rw [← hs]
  apply key
  intro kv h
  obtain ⟨e, _, _, q⟩ := dict_mem h
  exact ⟨_, q⟩
def nos (L : List Ent) : List (List Nat) := L.map (·.1)
theorem dk_keys (L : List Ent) : keysD (dk L) = nos L := by simp [keysD, dk, nos]
theorem dk_map (L : List Ent) : ((dk L).map fun kv => D.str kv.1) = (nos L).map D.str := by simp [dk, nos]
theorem look_dk {L : List Ent} (hn : (nos L).Nodup) {e : Ent} (he : e ∈ L) : lookD (dk L) e.1 = some (.str e.2) := by
  induction L with
  | nil => simp at he
  | cons a L ih =>
    have hc : (a.1 :: nos L).Nodup := hn
    rw [List.nodup_cons] at hc
    unfold lookD dk
    rw [List.map_cons, List.find?_cons]
    rcases List.mem_cons.mp he with rfl | h
    · simp
    · have hne : a.1 ≠ e.1 := fun q => hc.1 (by rw [q]; exact List.mem_map.mpr ⟨e, h, rfl⟩)
      rw [decide_eq_false hne]
      exact ih hc.2 h
theorem ix_dk {L : List Ent} (hn : (nos L).Nodup) {e : Ent} (he : e ∈ L) : ixD (.dic (dk L)) (.str e.1) = .ok (.str e.2) := by simp [ixD, look_dk hn he]
end Pv.W54

namespace Pv
open Classical
/-! ### min(xs) of such tuples; the first of a sorted set -/
theorem argB_in (ds : List D) : ∀ k, k < ds.length → argB ds k < ds.length ∧ argB ds k ≤ k
  | 0, h => ⟨h, Nat.le_refl _⟩
  | k + 1, h => by
    obtain ⟨h1, h2⟩ := argB_in ds k (by omega)
    unfold argB
    split
    · exact ⟨h, Nat.le_refl _⟩
    · exact ⟨h1, by omega⟩
theorem tup_pl {d : D} (h : tupA d = true) : plain d = true ∧ dep d ≤ 1 ∧ isNon d = false := by
  cases d with
  | tup ds =>
    cases ds with
    | nil => simp [tupA] at h
    | cons e es =>
      simp only [tupA] at h
      have key : ∀ l : List D, l.all isAt = true → plains l = true ∧ deps l = 0 := by
        intro l
        induction l with
        | nil => intro _; simp [plains, deps]
        | cons x xs ih =>
          intro hl
          rw [List.all_cons, Bool.and_eq_true] at hl
          obtain ⟨i1, i2⟩ := ih hl.2
          have hx := hl.1
          cases x <;> simp [isAt] at hx <;> simp [plains, deps, plain, dep, i1, i2]
      obtain ⟨k1, k2⟩ := key _ h
      exact ⟨by rw [plain]; exact k1, by rw [dep, k2]; decide, rfl⟩
  | _ => simp [tupA] at h
theorem tups_pl : ∀ {ds : List D}, (∀ d ∈ ds, tupA d = true) → plains ds = true ∧ deps ds ≤ 1
  | [], _ => by simp [plains, deps]
  | d :: ds, h => by
    obtain ⟨h1, h2⟩ := tups_pl fun x hx => h x (List.mem_cons_of_mem _ hx)
    obtain ⟨k1, k2, _⟩ := tup_pl (h d List.mem_cons_self)
    rw [plains, deps, k1, h1]
    exact ⟨rfl, by omega⟩
theorem srt_tups {ds : List D} (hA : ∀ d ∈ ds, tupA d = true) (hk : alkAll ds = true) : srtOk ds = true := by
  obtain ⟨h1, h2⟩ := tups_pl hA
  unfold srtOk
  rw [h1, hk, decide_eq_true (show deps ds ≤ 60 by omega)]
  simp only [Bool.true_and, Bool.or_eq_true, List.all_eq_true]
  refine .inl fun d hd => ?_
  have := hA d hd
  cases d with
  | tup es => cases es <;> simp [tupA] at this <;> rfl
  | _ => simp [tupA] at this
/-- min: one of them, none less -/
theorem min_spec {ds : List D} (hA : ∀ d ∈ ds, tupA d = true) (hk : alkAll ds = true) (hne : ds ≠ []) : ∃ d ∈ ds, minT (.lst ds) = .ok d ∧ ∀ e ∈ ds, dlt e d = false := by
  have hp : 0 < ds.length := List.length_pos_iff.mpr hne
  have at_ : ∀ i, i < ds.length → ds.getD i .non ∈ ds := fun i hi => by
    rw [List.getD_eq_getElem?_getD, List.getElem?_eq_getElem hi]
    exact List.getElem_mem hi
  have key : ∀ k, k < ds.length → ∀ j, j ≤ k → dlt (ds.getD j .non) (ds.getD (argB ds k) .non) = false := by
    intro k
    induction k with
    | zero =>
      intro hk0 j hj
      obtain rfl : j = 0 := by omega
      show dlt (ds.getD 0 .non) (ds.getD 0 .non) = false
      have hA0 := hA _ (at_ 0 hk0)
      cases z : dlt (ds.getD 0 .non) (ds.getD 0 .non) with
      | false => rfl
      | true => have := tA_asym z hA0 hA0; rw [z] at this; exact this
    | succ k ih =>
      intro hk1 j hj
      have ih := ih (by omega)
      obtain ⟨a1, a2⟩ := argB_in ds k (by omega)
      unfold argB
      split
      · rename_i z
        by_cases hj' : j = k + 1
        · subst hj'
          have hA0 := hA _ (at_ (k + 1) hk1)
          cases y : dlt (ds.getD (k + 1) .non) (ds.getD (k + 1) .non) with
          | false => rfl
          | true => have := tA_asym y hA0 hA0; rw [y] at this; exact this
        · have h1 := ih j (by omega)
          cases y : dlt (ds.getD j .non) (ds.getD (k + 1) .non) with
          | false => rfl
          | true =>
            have := tA_trans y z (hA _ (at_ j (by omega))) (hA _ (at_ (k + 1) hk1)) (hA _ (at_ _ a1))
            rw [h1] at this
            cases this
      · rename_i z
        by_cases hj' : j = k + 1
        · subst hj'
          exact Bool.eq_false_iff.mpr z
        · exact ih j (by omega)
  obtain ⟨a1, a2⟩ := argB_in ds (ds.length - 1) (by omega)
  refine ⟨ds.getD (argB ds (ds.length - 1)) .non, at_ _ a1, ?_, fun e he => ?_⟩
  · show (if srtOk ds = true ∧ ds.isEmpty = false then Res.ok (ds.getD (argB ds (ds.length - 1)) .non) else Res.bad) = _
    rw [if_pos ⟨srt_tups hA hk, by cases ds <;> simp_all⟩]
  · obtain ⟨j, hj, e1⟩ := List.getElem_of_mem he
    have := key (ds.length - 1) (by omega) j (by omega)
    rw [List.getD_eq_getElem?_getD, List.getElem?_eq_getElem hj, Option.getD_some, e1] at this
    exact this
/-- two least ones are the same -/
theorem min_uni {a b : D} (hk : alk a b = true) (ha : tupA a = true) (hb : tupA b = true) (h1 : dlt a b = false) (h2 : dlt b a = false) : a = b := by
  rcases tA_tri hk ha hb with q | q | q
  · rw [h1] at q; cases q
  · exact q
  · rw [h2] at q; cases q
/-- rows by length, then by signs -/
def rowL (w : List Nat) : D := .tup [.int (w.length : Int), .str w]
theorem rowL_A (w : List Nat) : tupA (rowL w) = true := rfl
theorem rowL_inj {a b : List Nat} (h : rowL a = rowL b) : a = b := by
  unfold rowL at h
  simp only [D.tup.injEq, List.cons.injEq, D.str.injEq, and_true] at h
  exact h.2
theorem rowL_alk (ls : List (List Nat)) : alkAll (ls.map rowL) = true := by
  unfold alkAll
  rw [List.all_eq_true]
  intro x hx
  rw [List.all_eq_true]
  intro y hy
  obtain ⟨a, _, rfl⟩ := List.mem_map.mp hx
  obtain ⟨b, _, rfl⟩ := List.mem_map.mp hy
  rfl
/-- the shorter ones first, then in order, each once -/
def rls (ls : List (List Nat)) : List D := (distD [] (ls.map rowL)).mergeSort dle
theorem rls_mem (ls : List (List Nat)) (d : D) : d ∈ rls ls ↔ ∃ w ∈ ls, d = rowL w := by
  unfold rls
  rw [(List.mergeSort_perm _ _).mem_iff, distD_mem (xs := ls.map rowL) (acc := []) (fun d hd => by
    obtain ⟨w, _, rfl⟩ := List.mem_map.mp hd
    rfl) (fun d hd => nomatch hd)]
  simp only [List.not_mem_nil, false_or, List.mem_map]
  constructor
  · rintro ⟨w, hw, rfl⟩; exact ⟨w, hw, rfl⟩
  · rintro ⟨w, hw, rfl⟩; exact ⟨w, hw, rfl⟩
def unL : D → List Nat
  | .tup [_, .str w] => w
  | _ => []
def rlS (ls : List (List Nat)) : List (List Nat) := (rls ls).map unL
theorem rlS_row (ls : List (List Nat)) : (rlS ls).map rowL = rls ls := by
  unfold rlS
  rw [List.map_map]
  have : (rls ls).map (rowL ∘ unL) = (rls ls).map id := List.map_congr_left fun d hd => by
    obtain ⟨w, _, rfl⟩ := (rls_mem ls d).mp hd
    rfl
  rw [this, List.map_id]
theorem rlS_mem (ls : List (List Nat)) (w : List Nat) : w ∈ rlS ls ↔ w ∈ ls := by
  constructor
  · intro h
    have : rowL w ∈ rls ls := by rw [← rlS_row]; exact List.mem_map.mpr ⟨w, h, rfl⟩
    obtain ⟨v, hv, e⟩ := (rls_mem ls _).mp this
    rw [rowL_inj e]; exact hv
  · intro h
    have : rowL w ∈ rls ls := (rls_mem ls _).mpr ⟨w, h, rfl⟩
    rw [← rlS_row] at this
    obtain ⟨v, hv, e⟩ := List.mem_map.mp this
    rw [← rowL_inj e]; exact hv
theorem rls_pw (ls : List (List Nat)) : (rls ls).Pairwise fun a b => dlt b a = false := by
  have nd : (distD [] (ls.map rowL)).Nodup := distD_nodup (fun d hd => by
    obtain ⟨w, _, rfl⟩ := List.mem_map.mp hd
    rfl) (fun d hd => nomatch hd) List.nodup_nil
  have hm : ∀ d ∈ distD [] (ls.map rowL), ∃ w, d = rowL w := fun d hd => by
    have := (List.mergeSort_perm (distD [] (ls.map rowL)) dle).mem_iff.mpr hd
    obtain ⟨w, _, e⟩ := (rls_mem ls d).mp this
    exact ⟨w, e⟩
  let le' : D → D → Bool := fun a b => if tupA a = true ∧ tupA b = true ∧ alk a b = true then dle a b else true
  unfold rls
  obtain ⟨ws, hws⟩ : ∃ ws : List (List Nat), distD [] (ls.map rowL) = ws.map rowL := by
    have key : ∀ l : List D, (∀ d ∈ l, ∃ w, d = rowL w) → ∃ ws : List (List Nat), l = ws.map rowL := by
      intro l
      induction l with
      | nil => intro _; exact ⟨[], rfl⟩
      | cons d l ih =>
        intro h
        obtain ⟨w, rfl⟩ := h d List.mem_cons_self
        obtain ⟨ws, rfl⟩ := ih fun x hx => h x (List.mem_cons_of_mem _ hx)
        exact ⟨w :: ws, rfl⟩
    exact key _ hm
  rw [hws, ← List.map_mergeSort (r := fun a b => dle (rowL a) (rowL b)) (s := dle) (f := rowL) (fun a _ b _ => rfl), List.pairwise_map]
  have tr : ∀ a b c : List Nat, dle (rowL a) (rowL b) = true → dle (rowL b) (rowL c) = true → dle (rowL a) (rowL c) = true := by
    intro a b c h k
    unfold dle at h k ⊢
    rw [Bool.not_eq_true'] at h k ⊢
    cases z : dlt (rowL c) (rowL a) with
    | false => rfl
    | true =>
      rcases tA_tri (a := rowL b) (b := rowL c) rfl rfl rfl with q | q | q
      · have := tA_trans q z rfl rfl rfl
        rw [h] at this; cases this
      · rw [q] at h; rw [h] at z; cases z
      · rw [k] at q; cases q
  have tot : ∀ a b : List Nat, (dle (rowL a) (rowL b) || dle (rowL b) (rowL a)) = true := by
    intro a b
    unfold dle
    rw [Bool.or_eq_true, Bool.not_eq_true', Bool.not_eq_true']
    cases z : dlt (rowL b) (rowL a) with
    | false => exact .inl rfl
    | true => exact .inr (tA_asym z rfl rfl)
  refine (List.pairwise_mergeSort tr tot ws).imp fun {a b} h => ?_
  unfold dle at h
  rw [Bool.not_eq_true'] at h
  exact h
/-- the first good one is the least good one -/
theorem rlS_first {ls : List (List Nat)} {p : List Nat → Bool} {w : List Nat} (h : (rlS ls).find? p = some w) : w ∈ ls ∧ p w = true ∧ ∀ v ∈ ls, p v = true → dlt (rowL v) (rowL w) = false := by
  have hw := List.find?_some h
  have hm := List.mem_of_find?_eq_some h
  refine ⟨(rlS_mem ls w).mp hm, hw, fun v hv pv => ?_⟩
  have hv' := (rlS_mem ls v).mpr hv
  have pw := rls_pw ls
  rw [← rlS_row, List.pairwise_map] at pw
  obtain ⟨as, bs, e, hno⟩ := List.find?_eq_some_iff_append.mp h |>.2
  rw [e] at pw hv'
  rcases List.mem_append.mp hv' with q | q
  · have := hno v q
    rw [pv] at this
    simp at this
  · rcases List.mem_cons.mp q with q | q
    · subst q
      cases z : dlt (rowL v) (rowL v) with
      | false => rfl
      | true => have := tA_asym z rfl rfl; rw [z] at this; exact this
    · exact (List.pairwise_cons.mp (List.pairwise_append.mp pw).2.1).1 v q
theorem rlS_none {ls : List (List Nat)} {p : List Nat → Bool} (h : (rlS ls).find? p = none) : ∀ v ∈ ls, p v = false := fun v hv => by
  have := List.find?_eq_none.mp h v ((rlS_mem ls v).mpr hv)
  exact Bool.eq_false_iff.mpr this
theorem ssetT_rows {ls : List (List Nat)} (h : ls.length ≤ 4000) : ssetT (.lst (ls.map rowL)) = .ok (.lst ((rlS ls).map rowL)) := by
  unfold ssetT
  dsimp only
  rw [if_pos ⟨List.all_eq_true.mpr fun d hd => by
    obtain ⟨w, _, rfl⟩ := List.mem_map.mp hd
    rfl, rowL_alk ls, by simpa using h⟩, rlS_row]
  rfl
end Pv

namespace Pv.W54
theorem lt_int (i j : Int) : ltD (.int i) (.int j) = .ok (.bl (decide (i < j))) := by simp [ltD, plain, alk, isNon, dep, dlt]
theorem eqN (a b : Nat) : eqD (.int (a : Int)) (.int (b : Int)) = .ok (.bl (decide (a = b))) := by
  rw [eq_int]
  congr 2
  rw [Bool.eq_iff_iff, beq_iff_eq, decide_eq_true_eq]
  omega
theorem len_str (l : List Nat) : lenD (.str l) = .ok (.int (l.length : Nat)) := rfl
theorem n_is_left (r n : List Nat) (hr : r.length ≤ 1000) : Fn_is_left [.str r, .str n] = .ok (.bl (r.isSublist n)) := by
  have e0 : Fn_is_left [.str r, .str n] = outOf (sv_is_left [some (.fz (.str r)), some (.fz (.str n)), none, none]) := rfl
  obtain ⟨env', h1, j, s3, rfl, hj, he⟩ := forD_seen (T := .nm 3) (b := b2_is_left) ch
    (fun pre env => ∃ (j : Nat) (s3 : Option Sl), env = [some (.fz (.str r)), some (.fz (.str n)), some (.fz (.int (j : Int))), s3] ∧ j ≤ r.length ∧ ∀ post, n = pre ++ post → r.isSublist n = (r.drop j).isSublist post) n
    [some (.fz (.str r)), some (.fz (.str n)), some (.fz (.int 0)), none] ⟨0, none, rfl, Nat.zero_le _, fun post e => by rw [e]; simp⟩ (by
      rintro pre c post env e ⟨j, s3, rfl, hj, he⟩
      have h0 := he _ e
      refine ⟨[some (.fz (.str r)), some (.fz (.str n)), some (.fz (.int (j : Int))), some (.fz (ch c))], rfl, ?_⟩
      by_cases hl : j < r.length
      · have hx := ix_get hl
        have hd := List.drop_eq_getElem_cons hl
        have hg : r.getD j 0 = r[j] := getD_at hl
        by_cases hc : r[j] = c
        · refine ⟨[some (.fz (.str r)), some (.fz (.str n)), some (.fz (.int ((j + 1 : Nat) : Int))), some (.fz (ch c))], ?_, j + 1, _, rfl, by omega, fun post' e' => ?_⟩
          · unfold b2_is_left q1_is_left
            rw [if_take (by simp [len_str, lt_int, hl, hx, eq_ch, hg, hc])]
            simp
          · have : post' = post := by rw [e'] at e; simpa using e
            subst this
            rw [h0, hd, List.isSublist, hc]
            simp
        · refine ⟨[some (.fz (.str r)), some (.fz (.str n)), some (.fz (.int (j : Int))), some (.fz (ch c))], ?_, j, _, rfl, hj, fun post' e' => ?_⟩
          · unfold b2_is_left q1_is_left
            refine if_skip ?_
            have : (r[j] == c) = false := beq_eq_false_iff_ne.mpr hc
            simp [len_str, lt_int, hl, hx, eq_ch, hg, this]
          · have : post' = post := by rw [e'] at e; simpa using e
            subst this
            have hb : (r[j] == c) = false := beq_eq_false_iff_ne.mpr hc
            rw [h0, hd, List.isSublist, hb]
            simp
      · refine ⟨[some (.fz (.str r)), some (.fz (.str n)), some (.fz (.int (j : Int))), some (.fz (ch c))], ?_, j, _, rfl, hj, fun post' e' => ?_⟩
        · unfold b2_is_left q1_is_left
          exact if_skip (by simp [len_str, lt_int, hl])
        · have : r.drop j = [] := List.drop_eq_nil_of_le (by omega)
          rw [h0, this]
          simp [List.isSublist])
  rw [e0]
  unfold sv_is_left
  rw [seq_nx (asg_nm (d := .int 0) rfl)]
  simp only [v_ptS, v_pt0]
  rw [seq_nx (env' := [some (.fz (.str r)), some (.fz (.str n)), some (.fz (.int (j : Int))), s3]) (by
    unfold q3_is_left
    simp only [v_sFor, v_iSeq, v_rdV, v_gtS, v_gt0, v_ok, v_fok, zpD]
    exact h1)]
  have := he [] (by simp)
  rw [ret_ok (d := .bl (r.isSublist n)) (by
    simp only [v_xOp, v_xU, v_rdB, v_gtS, v_gt0, v_ok, len_str, v_cok, eqN]
    rw [this]
    congr 2
    rw [Bool.eq_iff_iff, decide_eq_true_eq, List.isSublist_iff_sublist, List.sublist_nil, List.drop_eq_nil_iff]
    omega)]
  rfl
/-- the numbers that fit, with their holders -/
def HR (L : List Ent) (r : List Nat) : List Ent := L.filter fun e => r.isSublist e.1
theorem HR_nodup {L : List Ent} (hn : (nos L).Nodup) (r : List Nat) : (nos (HR L r)).Nodup := by
  unfold nos HR
  exact List.Nodup.sublist (List.Sublist.map _ (List.filter_sublist (l := L))) hn
theorem HR_len (L : List Ent) (r : List Nat) : (HR L r).length ≤ L.length := List.length_filter_le _ _
theorem merge_dk {acc F : List Ent} (hn : (nos (acc ++ F)).Nodup) : mergeD (dk acc) (dk F) = dk (acc ++ F) := by
  induction F generalizing acc with
  | nil => simp [mergeD, dk]
  | cons e F ih =>
    have e1 : mergeD (dk acc) (dk (e :: F)) = mergeD (putD (dk acc) e.1 (.str e.2)) (dk F) := rfl
    have hk : e.1 ∉ keysD (dk acc) := by
      rw [dk_keys]
      unfold nos at hn ⊢
      rw [List.map_append, List.nodup_append] at hn
      intro h
      exact hn.2.2 _ h _ (by simp) rfl
    have e2 : putD (dk acc) e.1 (.str e.2) = dk (acc ++ [e]) := by
      unfold putD
      rw [keys_any, if_neg (by simpa using hk)]
      simp [dk]
    rw [e1, e2, ih (by simpa using hn)]
    simp
theorem asPr_dk (F : List Ent) : asPr (F.map fun e => .tup [.str e.1, .str e.2]) = some (dk F) := by
  induction F with
  | nil => rfl
  | cons e F ih =>
    rw [List.map_cons, asPr, ih]
    rfl
theorem n_find_hearing {L : List Ent} (hn : (nos L).Nodup) {r : List Nat} (hr : r.length ≤ 1000) : Fn_find_hearing [.dic (dk L), .str r] = .ok (.dic (dk (HR L r))) := by
  have e0 : Fn_find_hearing [.dic (dk L), .str r] = outOf (sv_find_hearing [some (.fz (.dic (dk L))), some (.fz (.str r)), none]) := rfl
  have hlc : xLc (.nm 2) [2] (iKeys (rdV 0)) (tVal (xCall Fn_is_left (aCons (rdV 1) (aCons (rdV 2) aNil)))) (xTup (aCons (rdV 2) (aCons (xOp ixD (rdB 0) (rdB 2)) aNil))) [some (.fz (.dic (dk L))), some (.fz (.str r)), none] =
      .ok (.lst ((HR L r).map fun e => .tup [.str e.1, .str e.2])) := by
    refine xLc_ok (α := Ent) (fun e => D.str e.1) (fun e => r.isSublist e.1) (fun e => .tup [.str e.1, .str e.2]) L (by simp [dk]) ?_
    intro e he
    refine ⟨_, rfl, ?_, fun _ => ?_⟩
    · simp [n_is_left r e.1 hr]
    · simp [ix_dk hn he]
  rw [e0]
  unfold sv_find_hearing
  have hd : dctD (.lst ((HR L r).map fun e => .tup [.str e.1, .str e.2])) = .ok (.dic (dk (HR L r))) := by
    unfold dctD
    dsimp only
    rw [asPr_dk]
    have := merge_dk (acc := []) (F := HR L r) (by simpa using HR_nodup hn r)
    simp only [List.nil_append] at this
    rw [show dk [] = [] from rfl] at this
    dsimp only
    rw [this]
  rw [ret_ok (d := .dic (dk (HR L r))) (by rw [v_xU, hlc, v_ok, hd]; rfl)]
  rfl
/-- a plan and its numbers, as a list -/
structure Hc (size : Nat) (es L : List Ent) : Prop where
  ok : OkP size es
  eq : dictOf size es = dk L
  nd : (nos L).Nodup
  le : L.length ≤ 200
  k3 : ∀ n ∈ nos L, 1 ≤ n.length ∧ n.length ≤ 3 ∧ ∀ c ∈ n, c ∈ digs size
section
variable {size : Nat} {es L : List Ent}
theorem Hc.mem (O : Hc size es L) {n : List Nat} : n ∈ keysD (dictOf size es) ↔ n ∈ nos L := by rw [O.eq, dk_keys]
theorem Hc.find (O : Hc size es L) : Fn_find_holders [plan size es] = .ok (.dic (dk L)) := by
  rw [n_find (size := size) (es := es) O.ok.l8 fun e he => (O.ok.short e he).1, O.eq]
theorem Hc.hear (O : Hc size es L) {r : List Nat} (hr : wordB r (digs size) 0 12 = true) (hl : r.length ≤ 1000) : Fn_hearing [plan size es, .str r] = .ok (lstS (srtS (nos (HR L r)))) := by
  have e0 : Fn_hearing [plan size es, .str r] = outOf (sv_hearing [some (.fz (plan size es)), some (.fz (.str r))]) := rfl
  have hc := n_check_row O.ok (r := .str r) (by rw [n_has_row, hr])
  have hf := O.find
  have hh := n_find_hearing O.nd hl
  rw [e0]
  unfold sv_hearing
  simp [hc, hf, hh, sort_dicS, dk_keys]
end
end Pv.W54

namespace Pv.W54
/-! ### reading, by listing -/
theorem n_listed (kvs : Kvs) (r : List Nat) (hr : r.length ≤ 1000) : Fn_listed_reached [.dic kvs, .str r] = .ok (readA (keysD kvs) r) := by
  have e0 : Fn_listed_reached [.dic kvs, .str r] = outOf (sv_listed_reached [some (.fz (.dic kvs)), some (.fz (.str r)), none, none, none, none]) := rfl
  have H := forD_first (T := .nm 2) (b := b2_listed_reached) (fun i : Nat => D.int (i : Int))
    (fun env => ∃ s2 s3 s4, env = [some (.fz (.dic kvs)), some (.fz (.str r)), s2, s3, s4, none]) (fun i => stop (keysD kvs) r i) (fun i => ans (keysD kvs) (r.take i)) (szs r)
    [some (.fz (.dic kvs)), some (.fz (.str r)), none, none, none, none] ⟨_, _, _, rfl⟩ (by
      rintro i hi env ⟨s2, s3, s4, rfl⟩
      refine ⟨[some (.fz (.dic kvs)), some (.fz (.str r)), some (.fz (.int (i : Int))), s3, s4, none], rfl, ?_⟩
      have hlo := longer_ok kvs r i s4
      have hse := stop_empty (keysD kvs) r i
      have hpl := plains_strs ((keysD kvs).filter fun n => decide (i < n.length) && n.take i == r.take i)
      have heq := eq_nil hpl
      rw [hse] at heq
      generalize hL : ((keysD kvs).filter fun n => decide (i < n.length) && n.take i == r.take i).map D.str = L at hlo heq
      unfold b2_listed_reached q1_listed_reached
      cases q : stop (keysD kvs) r i with
      | true =>
        rw [q] at heq
        refine .inl ⟨rfl, ?_⟩
        by_cases hk : r.take i ∈ keysD kvs
        · simp [sl_take, in_dic, hk, ans, hlo, heq, lenD]
        · simp [sl_take, in_dic, hk, ans, hlo, heq, lenD]
      | false =>
        rw [q] at heq
        exact .inr ⟨rfl, [some (.fz (.dic kvs)), some (.fz (.str r)), some (.fz (.int (i : Int))), some (.fz (.str (r.take i))), some (.fz (.lst L)), none], by simp [sl_take, in_dic, ans, hlo, heq, lenD], _, _, _, rfl⟩)
  rw [e0]
  unfold sv_listed_reached q3_listed_reached
  have hlr : lenD (.str r) = .ok (.int (r.length : Int)) := rfl
  unfold readA fst1
  rcases H with ⟨i, h1, h2⟩ | ⟨h1, env', h2, s2, s3, s4, rfl⟩
  · rw [h1]
    rw [seq_ret (d := ans (keysD kvs) (r.take i)) (by simp [hlr, sz_rng hr, h2])]
    rfl
  · rw [h1]
    rw [seq_nx (env' := [some (.fz (.dic kvs)), some (.fz (.str r)), s2, s3, s4, none]) (by simp [hlr, sz_rng hr, h2])]
    by_cases hk : r ∈ keysD kvs
    · simp [in_dic, hk, ans]
    · simp [in_dic, hk, ans]
theorem lshort (kvs : Kvs) (r : List Nat) (i : Nat) : xLc (.nm 3) [3] (iKeys (rdV 0)) (tAn (tVal (xOp gtD (xU lenD (rdB 3)) (rdB 2))) (tVal (xOp eqD (xSl (rdB 3) none (some (rdV 2))) (xSl (rdB 1) none (some (rdV 2)))))) (rdV 3)
    [some (.fz (.dic kvs)), some (.fz (.str r)), some (.fz (.int (i : Int))), none] = .ok (.lst (((keysD kvs).filter fun n => decide (i < n.length) && n.take i == r.take i).map D.str)) := by
  refine xLc_ok D.str _ D.str (keysD kvs) (by simp [keys_map]) fun n _ => ⟨[some (.fz (.dic kvs)), some (.fz (.str r)), some (.fz (.int (i : Int))), some (.fz (.str n))], rfl, ?_, fun _ => by simp⟩
  by_cases h : i < n.length
  · have h2 : (i : Int) < n.length := by omega
    simp [lenD, h, h2, sl_take, eq_str]
  · have h2 : ¬ (i : Int) < n.length := by omega
    simp [lenD, h, h2]
theorem n_lreach (kvs : Kvs) (r : List Nat) (hr : r.length ≤ 1000) : Fn__law_reach [.dic kvs, .str r] = .ok (readA (keysD kvs) r) := by
  have e0 : Fn__law_reach [.dic kvs, .str r] = outOf (sv__law_reach [some (.fz (.dic kvs)), some (.fz (.str r)), none, none]) := rfl
  have H := forD_first (T := .nm 2) (b := b2__law_reach) (fun i : Nat => D.int (i : Int))
    (fun env => ∃ s2, env = [some (.fz (.dic kvs)), some (.fz (.str r)), s2, none]) (fun i => stop (keysD kvs) r i) (fun i => ans (keysD kvs) (r.take i)) (szs r)
    [some (.fz (.dic kvs)), some (.fz (.str r)), none, none] ⟨_, rfl⟩ (by
      rintro i hi env ⟨s2, rfl⟩
      refine ⟨[some (.fz (.dic kvs)), some (.fz (.str r)), some (.fz (.int (i : Int))), none], rfl, ?_⟩
      have hlo := lshort kvs r i
      have hse := stop_empty (keysD kvs) r i
      have hpl := plains_strs ((keysD kvs).filter fun n => decide (i < n.length) && n.take i == r.take i)
      have heq := eq_nil hpl
      rw [hse] at heq
      generalize hL : ((keysD kvs).filter fun n => decide (i < n.length) && n.take i == r.take i).map D.str = L at hlo heq
      have ht : tVal (xOp eqD (xLc (.nm 3) [3] (iKeys (rdV 0)) (tAn (tVal (xOp gtD (xU lenD (rdB 3)) (rdB 2))) (tVal (xOp eqD (xSl (rdB 3) none (some (rdV 2))) (xSl (rdB 1) none (some (rdV 2)))))) (rdV 3)) (xLst aNil)) [some (.fz (.dic kvs)), some (.fz (.str r)), some (.fz (.int (i : Int))), none] = .ok (stop (keysD kvs) r i) := by
        rw [v_tVal, v_xOp, hlo, v_ok]
        simp only [v_xLst, v_aNil, v_ok, List.length_nil, Nat.zero_le, if_true, heq, v_cok, v_asB]
      unfold b2__law_reach q1__law_reach
      cases q : stop (keysD kvs) r i with
      | true =>
        rw [q] at ht
        refine .inl ⟨rfl, ?_⟩
        rw [if_take ht]
        by_cases hk : r.take i ∈ keysD kvs
        · simp [sl_take, in_dic, hk, ans]
        · simp [sl_take, in_dic, hk, ans]
      | false =>
        rw [q] at ht
        exact .inr ⟨rfl, _, if_skip ht, _, rfl⟩)
  rw [e0]
  unfold sv__law_reach q3__law_reach
  have hlr : lenD (.str r) = .ok (.int (r.length : Int)) := rfl
  unfold readA fst1
  rcases H with ⟨i, h1, h2⟩ | ⟨h1, env', h2, s2, rfl⟩
  · rw [h1]
    rw [seq_ret (d := ans (keysD kvs) (r.take i)) (by simp [hlr, sz_rng hr, h2])]
    rfl
  · rw [h1]
    rw [seq_nx (env' := [some (.fz (.dic kvs)), some (.fz (.str r)), s2, none]) (by simp [hlr, sz_rng hr, h2])]
    by_cases hk : r ∈ keysD kvs
    · simp [in_dic, hk, ans]
    · simp [in_dic, hk, ans]
theorem n_nreached {size : Nat} {es : List Ent} (h : OkP size es) {r : List Nat} (hr : wordB r (digs size) 0 12 = true) (hl : r.length ≤ 1000) : Fn_naive_reached [plan size es, .str r] = .ok (readA (keysD (dictOf size es)) r) := by
  have e0 : Fn_naive_reached [plan size es, .str r] = outOf (sv_naive_reached [some (.fz (plan size es)), some (.fz (.str r))]) := rfl
  have hc := n_check_row h (r := .str r) (by rw [n_has_row, hr])
  have hf := n_find (size := size) (es := es) h.l8 fun e he => (h.short e he).1
  rw [e0]
  unfold sv_naive_reached
  simp [hc, hf, n_listed _ r hl]
/-! ### what is left of a number -/
def lft (n : List Nat) : Kvs := n.foldl (fun kvs c => mergeD kvs ((keysD kvs).map fun w => (w ++ [c], D.bl true))) [([], .bl true)]
theorem lft_snoc (n : List Nat) (c : Nat) : lft (n ++ [c]) = mergeD (lft n) ((keysD (lft n)).map fun w => (w ++ [c], D.bl true)) := by simp [lft]
theorem merge_keys {x : List Nat} : ∀ (ps acc : Kvs), x ∈ keysD (mergeD acc ps) ↔ x ∈ keysD acc ∨ x ∈ keysD ps
  | [], acc => by simp [mergeD, keysD]
  | p :: ps, acc => by
    show x ∈ keysD (mergeD (putD acc p.1 p.2) ps) ↔ _
    rw [merge_keys ps, mem_put]
    simp [keysD, or_assoc]
theorem merge_len : ∀ (ps acc : Kvs), (mergeD acc ps).length ≤ acc.length + ps.length
  | [], acc => by simp [mergeD]
  | p :: ps, acc => by
    have := merge_len ps (putD acc p.1 p.2)
    have h2 := put_len acc p.1 p.2
    show (mergeD (putD acc p.1 p.2) ps).length ≤ _
    simp only [List.length_cons]
    omega
theorem lft_all : ∀ (k : Nat) (n : List Nat), n.length = k → (lft n).length ≤ 2 ^ k ∧ ∀ x, x ∈ keysD (lft n) ↔ x.Sublist n := by
  intro k
  induction k with
  | zero =>
    intro n hn
    have : n = [] := List.eq_nil_of_length_eq_zero hn
    subst this
    exact ⟨by decide, fun x => by simp [lft, keysD]⟩
  | succ k ih =>
    intro n hn
    obtain ⟨n', c, rfl⟩ : ∃ n' c, n = n' ++ [c] := ⟨n.dropLast, n.getLast (by intro q; rw [q] at hn; cases hn), (List.dropLast_concat_getLast _).symm⟩
    obtain ⟨i1, i2⟩ := ih n' (by simp at hn; exact hn)
    rw [lft_snoc]
    constructor
    · have := merge_len ((keysD (lft n')).map fun w => (w ++ [c], D.bl true)) (lft n')
      have h2 : (keysD (lft n')).length = (lft n').length := by simp [keysD]
      rw [List.length_map, h2] at this
      rw [Nat.pow_succ]
      omega
    · intro x
      rw [merge_keys, i2, List.sublist_append_iff]
      constructor
      · rintro (h | h)
        · exact ⟨x, [], by simp, h, List.nil_sublist _⟩
        · simp only [keysD, List.map_map, List.mem_map, Function.comp] at h
          obtain ⟨w, hw, rfl⟩ := h
          exact ⟨w.1, [c], rfl, (i2 w.1).mp (List.mem_map.mpr ⟨w, hw, rfl⟩), List.Sublist.refl _⟩
      · rintro ⟨l1, l2, rfl, h1, h2⟩
        rcases l2 with _ | ⟨y, l2⟩
        · exact .inl (by simpa using h1)
        · have : y :: l2 = [c] := by
            cases h2 with
            | cons _ h => cases h
            | cons_cons _ h => rw [List.sublist_nil.mp h]
          rw [this]
          refine .inr ?_
          have := (i2 l1).mpr h1
          simp only [keysD, List.map_map, List.mem_map, Function.comp] at this ⊢
          obtain ⟨w, hw, rfl⟩ := this
          exact ⟨w, hw, rfl⟩
theorem asPr_map (c : Nat) : ∀ l : List (List Nat), asPr (l.map fun w => .tup [.str (w ++ [c]), .bl true]) = some (l.map fun w => (w ++ [c], D.bl true))
  | [] => rfl
  | w :: l => by
    rw [List.map_cons, asPr, asPr_map c l]
    rfl
theorem n_left (n : List Nat) (hn : n.length ≤ 6) : Fn_all_left [.str n] = .ok (.dic (lft n)) := by
  have e0 : Fn_all_left [.str n] = outOf (sv_all_left [some (.fz (.str n)), none, none, none]) := rfl
  obtain ⟨env', h1, s2, rfl⟩ := forD_seen (T := .nm 2) (b := b1_all_left) ch
    (fun pre env => ∃ s2, env = [some (.fz (.str n)), some (.ow (.dic (lft pre))), s2, none]) n
    [some (.fz (.str n)), some (.ow (.dic (lft []))), none, none] ⟨_, rfl⟩ (by
      rintro pre c post env eq ⟨s2, rfl⟩
      have hpl : pre.length ≤ 6 := by have := congrArg List.length eq; simp at this; omega
      obtain ⟨l1, l2⟩ := lft_all _ pre rfl
      have hp : 2 ^ pre.length ≤ 64 := Nat.le_trans (Nat.pow_le_pow_right (by decide) hpl) (by decide)
      refine ⟨[some (.fz (.str n)), some (.ow (.dic (lft pre))), some (.fz (ch c)), none], rfl, [some (.fz (.str n)), some (.ow (.dic (lft (pre ++ [c])))), some (.fz (ch c)), none], ?_, _, rfl⟩
      have hk : (keysD (lft pre)).length = (lft pre).length := by simp [keysD]
      have hlc : xLc (.nm 3) [3] (iSeq (xU lisK (rdB 1))) tYs (xTup (aCons (xOp addD (rdB 3) (rdB 2)) (aCons (xC (.bl true)) aNil))) [some (.fz (.str n)), some (.ow (.dic (lft pre))), some (.fz (ch c)), none] = .ok (.lst ((keysD (lft pre)).map fun w => .tup [.str (w ++ [c]), .bl true])) := by
        refine xLc_map (α := List Nat) D.str _ (keysD (lft pre)) (by
          simp only [v_iSeq, v_xU, v_rdB, v_gtS, v_gt0, v_ok, lisK, v_cok, zpD]
          simp [keysD]) ?_
        intro w hw
        refine ⟨[some (.fz (.str n)), some (.ow (.dic (lft pre))), some (.fz (ch c)), some (.fz (.str w))], rfl, ?_⟩
        have hwl : w.length ≤ 100 := by have := ((l2 w).mp hw).length_le; omega
        simp only [v_xTup, v_aCons, v_aNil, v_xOp, v_rdB, v_gtS, v_gt0, v_ok, add_ch c hwl, v_cok, v_xC, List.length_cons, List.length_nil, show (0 + 1 + 1 ≤ LIM) = True from by simp, if_true]
      unfold b1_all_left sUpd
      simp only [v_gtS, v_gt0, hlc, v_fok]
      rw [asPr_map]
      dsimp only
      rw [if_pos (by rw [List.length_map, hk]; show _ ≤ 16777216; omega), ← lft_snoc]
      rfl)
  rw [e0]
  unfold sv_all_left
  rw [seq_nx (env' := [some (.fz (.str n)), some (.ow (.dic (lft []))), none, none]) (by simp [lft, prD, mergeD, putD])]
  rw [seq_nx (env' := [some (.fz (.str n)), some (.ow (.dic (lft n))), s2, none]) (by
    unfold q2_all_left
    simp only [v_sFor, v_iSeq, v_rdV, v_gtS, v_gt0, v_ok, zpD, v_fok]
    exact h1)]
  simp
theorem n_nhearing {size : Nat} {es : List Ent} (h : OkP size es) {r : List Nat} (hr : wordB r (digs size) 0 12 = true) : Fn_naive_hearing [plan size es, .str r] = .ok (lstS (srtS ((keysD (dictOf size es)).filter fun n => r.isSublist n))) := by
  have e0 : Fn_naive_hearing [plan size es, .str r] = outOf (sv_naive_hearing [some (.fz (plan size es)), some (.fz (.str r)), none]) := rfl
  have hc := n_check_row h (r := .str r) (by rw [n_has_row, hr])
  have hf := n_find (size := size) (es := es) h.l8 fun e he => (h.short e he).1
  have k6 := key6 h
  rw [e0]
  unfold sv_naive_hearing
  rw [seq_nx (env' := [some (.fz (plan size es)), some (.fz (.str r)), none]) (by simp [hc])]
  have hlc : xLc (.nm 2) [2] (iKeys (xCall Fn_find_holders (aCons (rdV 0) aNil))) (tVal (xOp inD (rdB 1) (xCall Fn_all_left (aCons (rdV 2) aNil)))) (rdV 2) [some (.fz (plan size es)), some (.fz (.str r)), none] = .ok (.lst (((keysD (dictOf size es)).filter fun n => r.isSublist n).map D.str)) := by
    refine xLc_ok (α := List Nat) D.str (fun n => r.isSublist n) D.str (keysD (dictOf size es)) (by simp [hf, keysD]) ?_
    intro n hn
    refine ⟨[some (.fz (plan size es)), some (.fz (.str r)), some (.fz (.str n))], rfl, ?_, fun _ => rfl⟩
    have hl := n_left n (k6 n hn)
    have hin := in_dic r (lft n)
    simp only [v_tVal, v_xOp, v_xCall, v_aCons, v_aNil, v_rdV, v_rdB, v_gtS, v_gt0, v_ok, hl, hin, v_cok, v_asB]
    congr 1
    rw [Bool.eq_iff_iff, decide_eq_true_eq, (lft_all _ n rfl).2, List.isSublist_iff_sublist]
  rw [ret_ok (d := lstS (srtS ((keysD (dictOf size es)).filter fun n => r.isSublist n))) (by
    rw [v_xU, hlc, v_ok, sort_strs]
    rfl)]
  rfl
end Pv.W54

namespace Pv.W54
/-! ### heard, the law's way -/
theorem sub_any (a : Nat) (r : List Nat) : ∀ n : List Nat, (a :: r).isSublist n = (List.range n.length).any fun (k : Nat) => (n.getD k 0 == a) && r.isSublist (n.drop (k + 1))
  | [] => by simp [List.isSublist]
  | b :: n => by
    have ih := sub_any a r n
    rw [List.length_cons, List.range_succ_eq_map, List.any_cons, List.any_map]
    have e : ((fun (k : Nat) => ((b :: n).getD k 0 == a) && r.isSublist ((b :: n).drop (k + 1))) ∘ Nat.succ) = fun (k : Nat) => (n.getD k 0 == a) && r.isSublist (n.drop (k + 1)) := by
      funext k
      simp
    rw [e, ← ih]
    simp only [List.getD_cons_zero, List.drop_succ_cons, List.drop_zero]
    rw [Bool.eq_iff_iff, Bool.or_eq_true, Bool.and_eq_true, beq_iff_eq, List.isSublist_iff_sublist, List.isSublist_iff_sublist, List.isSublist_iff_sublist]
    constructor
    · intro h
      cases h with
      | cons _ h => exact .inr h
      | cons_cons _ h => exact .inl ⟨rfl, h⟩
    · rintro (⟨rfl, h⟩ | h)
      · exact h.cons_cons _
      · exact h.cons _
theorem n_heardR : ∀ (m : Nat) (r n : List Nat), r.length < m → n.length ≤ 1000 → FnR__law_heard m [.str n, .str r] = .ok (.bl (r.isSublist n))
  | 0, r, n, h, _ => absurd h (Nat.not_lt_zero _)
  | m + 1, r, n, h, hn => by
    have e0 : FnR__law_heard (m + 1) [.str n, .str r] = outOf (sv__law_heard (FnR__law_heard m) [some (.fz (.str n)), some (.fz (.str r)), none, none]) := rfl
    rw [e0]
    unfold sv__law_heard
    cases r with
    | nil =>
      rw [seq_ret (d := .bl true) (by
        unfold q1__law_heard
        rw [if_take (by simp [eqS])]
        rfl)]
      simp [List.isSublist]
    | cons a r =>
      rw [seq_nx (env' := [some (.fz (.str n)), some (.fz (.str (a :: r))), none, none]) (by
        unfold q1__law_heard
        exact if_skip (by simp [eqS]))]
      have hx : ixD (.str (a :: r)) (.int 0) = .ok (ch a) := ix_str (at0 _ _)
      have hl1 : xLc (.nm 3) [3] (iR1 (xU lenD (rdB 0))) (tVal (xOp eqD (xOp ixD (rdB 0) (rdB 3)) (xOp ixD (rdB 1) (xC (.int 0))))) (rdV 3) [some (.fz (.str n)), some (.fz (.str (a :: r))), none, none] = .ok (.lst (((List.range n.length).filter fun (k : Nat) => n.getD k 0 == a).map fun (k : Nat) => D.int (k : Int))) := by
        refine xLc_ok (α := Nat) (fun k => D.int (k : Int)) (fun (k : Nat) => n.getD k 0 == a) (fun k => D.int (k : Int)) (List.range n.length) (by simp [len_str, rng1_ok hn]) ?_
        intro k hk
        refine ⟨[some (.fz (.str n)), some (.fz (.str (a :: r))), none, some (.fz (.int (k : Int)))], rfl, ?_, fun _ => rfl⟩
        have hg := ix_get (List.mem_range.mp hk)
        have he := eq_ch (n.getD k 0) a
        simp only [v_tVal, v_xOp, v_rdB, v_gtS, v_gt0, v_ok, hg, hx, v_cok, v_xC, he, v_asB]
      rw [seq_nx (asg_nm hl1)]
      simp only [v_ptS, v_pt0]
      have hs1 : slD (some 1) none (.str (a :: r)) = .ok (.str r) := sl_pos (a :: r) 1
      generalize hX : ((List.range n.length).filter fun (k : Nat) => n.getD k 0 == a) = X
      have hl2 : xLc (.nm 3) [3] (iSeq (rdB 2)) (tVal (xCall (FnR__law_heard m) (aCons (xSl (rdB 0) (some (xOp addD (rdB 3) (xC (.int 1)))) none) (aCons (xSl (rdB 1) (some (xC (.int 1))) none) aNil)))) (rdV 3) [some (.fz (.str n)), some (.fz (.str (a :: r))), some (.fz (.lst (X.map fun (k : Nat) => D.int (k : Int)))), none] = .ok (.lst ((X.filter fun (k : Nat) => r.isSublist (n.drop (k + 1))).map fun (k : Nat) => D.int (k : Int))) := by
        refine xLc_ok (α := Nat) (fun k => D.int (k : Int)) (fun (k : Nat) => r.isSublist (n.drop (k + 1))) (fun k => D.int (k : Int)) X rfl ?_
        intro k hk
        refine ⟨[some (.fz (.str n)), some (.fz (.str (a :: r))), some (.fz (.lst (X.map fun (k : Nat) => D.int (k : Int)))), some (.fz (.int (k : Int)))], rfl, ?_, fun _ => rfl⟩
        have ih := n_heardR m r (n.drop (k + 1)) (by simp at h; omega) (by rw [List.length_drop]; omega)
        have hs2 := sl_pos1 n k
        simp only [v_tVal, v_xCall, v_aCons, v_aNil, v_xSl, v_oIn, v_oIs, v_xOp, v_rdB, v_gtS, v_gt0, v_ok, v_xC, v_addI, v_cok, show asI (.int ((k : Int) + 1)) = .ok ((k : Int) + 1) from rfl, show asI (.int 1) = .ok 1 from rfl, hs1, hs2, ih, v_asB]
      have hpl : plains ((X.filter fun (k : Nat) => r.isSublist (n.drop (k + 1))).map fun (k : Nat) => D.int (k : Int)) = true := plains_map (fun (k : Nat) => D.int (k : Int)) (fun _ => rfl) _
      have hne : neD (.lst ((X.filter fun (k : Nat) => r.isSublist (n.drop (k + 1))).map fun (k : Nat) => D.int (k : Int))) (.lst []) = .ok (.bl (!((X.filter fun (k : Nat) => r.isSublist (n.drop (k + 1))).map fun (k : Nat) => D.int (k : Int)).isEmpty)) := by
        have := eq_nil hpl
        unfold eqD at this
        unfold neD
        split at this
        · rename_i hc
          rw [if_pos hc]
          simp only [Res.ok.injEq, D.bl.injEq] at this
          rw [this]
        · cases this
      rw [ret_ok (d := .bl ((a :: r).isSublist n)) (by
        rw [v_xOp, hl2, v_ok]
        simp only [v_xLst, v_aNil, v_ok, List.length_nil, Nat.zero_le, if_true, hne, v_cok]
        have key : (!((X.filter fun (k : Nat) => r.isSublist (n.drop (k + 1))).map fun (k : Nat) => D.int (k : Int)).isEmpty) = (a :: r).isSublist n := by
          rw [sub_any, List.isEmpty_map, ← hX, Bool.eq_iff_iff, List.any_eq_true]
          constructor
          · intro q
            have q' : ((List.range n.length).filter fun (k : Nat) => n.getD k 0 == a).filter (fun (k : Nat) => r.isSublist (n.drop (k + 1))) ≠ [] := fun z => by rw [z] at q; cases q
            obtain ⟨k, hk⟩ := List.exists_mem_of_ne_nil _ q'
            obtain ⟨h1, h2⟩ := List.mem_filter.mp hk
            obtain ⟨h3, h4⟩ := List.mem_filter.mp h1
            exact ⟨k, h3, by rw [h4, h2]; rfl⟩
          · rintro ⟨k, hk, h2⟩
            rw [Bool.and_eq_true] at h2
            have : k ∈ ((List.range n.length).filter fun (k : Nat) => n.getD k 0 == a).filter (fun (k : Nat) => r.isSublist (n.drop (k + 1))) := List.mem_filter.mpr ⟨List.mem_filter.mpr ⟨hk, h2.1⟩, h2.2⟩
            cases z : ((List.range n.length).filter fun (k : Nat) => n.getD k 0 == a).filter (fun (k : Nat) => r.isSublist (n.drop (k + 1))) with
            | nil => rw [z] at this; cases this
            | cons => rfl
        rw [key])]
      rfl
theorem n_heard {r : List Nat} (n : List Nat) (h : r.length ≤ 7) (hn : n.length ≤ 1000) : Fn__law_heard [.str n, .str r] = .ok (.bl (r.isSublist n)) := n_heardR 8 r n (by omega) hn
/-! ### the law's own holders -/
theorem i_own (size : Nat) (es : List Ent) (f p h : Option Sl) (c : Nat) (s : List (List Nat)) (s7 s9 : Option Sl) (hs : s.length ≤ 100000) (hw : ∀ w ∈ s, w.length ≤ 100) :
    ∃ s7', forD (.nm 7) b1__law_owners (s.map D.str) [some (.fz (plan size es)), f, p, h, some (.fz (lstS s)), some (.fz (ch c)), some (.ow (lstS [])), s7, none, s9] =
      .nx [some (.fz (plan size es)), f, p, h, some (.fz (lstS s)), some (.fz (ch c)), some (.ow (lstS (ext (dsOf size c) s))), s7', none, s9] := by
  obtain ⟨env', h1, s7', rfl⟩ := forD_seen (T := .nm 7) (b := b1__law_owners) D.str (fun pre env => ∃ s7, env = [some (.fz (plan size es)), f, p, h, some (.fz (lstS s)), some (.fz (ch c)), some (.ow (lstS (ext (dsOf size c) pre))), s7, none, s9]) s
    [some (.fz (plan size es)), f, p, h, some (.fz (lstS s)), some (.fz (ch c)), some (.ow (lstS [])), s7, none, s9] ⟨s7, by simp [ext]⟩ (by
      rintro pre w post env eq ⟨s7, rfl⟩
      have hwl := hw w (by rw [eq]; simp)
      have hpl : pre.length ≤ 100000 := by have := congrArg List.length eq; simp at this; omega
      refine ⟨[some (.fz (plan size es)), f, p, h, some (.fz (lstS s)), some (.fz (ch c)), some (.ow (lstS (ext (dsOf size c) pre))), some (.fz (.str w)), none, s9], rfl, [some (.fz (plan size es)), f, p, h, some (.fz (lstS s)), some (.fz (ch c)), some (.ow (lstS (ext (dsOf size c) (pre ++ [w])))), some (.fz (.str w)), none, s9], ?_, _, rfl⟩
      have x0 : ixD (plan size es) (.int 0) = .ok (.int (size : Int)) := ix_tup (at0 _ _)
      have hi : iSeq (xIf (tVal (xOp eqD (rdB 5) (xC (.str [120])))) (xSl (xC (.str [48, 49, 50, 51, 52, 53])) none (some (xOp ixD (rdB 0) (xC (.int 0))))) (rdV 5)) [some (.fz (plan size es)), f, p, h, some (.fz (lstS s)), some (.fz (ch c)), some (.ow (lstS (ext (dsOf size c) pre))), some (.fz (.str w)), none, s9] = .ok ((dsOf size c).map ch) := by
        have e1 : eqD (ch c) (.str [120]) = .ok (.bl (c == 120)) := eq_ch c 120
        have hz : ∀ l, zpD (.str l) = .ok (l.map ch) := fun _ => rfl
        by_cases hc : c = 120
        · subst hc
          simp [e1, x0, sl_digs, hz, dsOf, show asI (.int (size : Int)) = .ok (size : Int) from rfl]
        · simp [e1, hc, dsOf]
          rfl
      have hl := xLc_map (T := .nm 8) (own := [8]) (e := xOp addD (rdB 7) (rdB 8)) ch (fun d => .str (w ++ [d])) (dsOf size c) hi (fun d _ => ⟨_, rfl, by simp [-v_addS, add_ch d hwl]⟩)
      rw [strs_ext] at hl
      unfold b1__law_owners
      rw [ext_str (L := ext (dsOf size c) pre) (M := (dsOf size c).map fun d => w ++ [d]) rfl hl (by
        have h1 := dsOf_len size c
        rw [ext_len, List.length_map]
        have := Nat.mul_le_mul hpl h1
        omega), ext_snoc]
      rfl)
  exact ⟨s7', h1⟩
theorem own_nums (size : Nat) (es : List Ent) (f h : Option Sl) (p : List Nat) (hp : p.length ≤ 6) (s5 s6 s7 s9 : Option Sl) :
    ∃ s5' s6' s7', forD (.nm 5) b3__law_owners (p.map ch) [some (.fz (plan size es)), f, some (.fz (.str p)), h, some (.fz (lstS [[]])), s5, s6, s7, none, s9] = .nx [some (.fz (plan size es)), f, some (.fz (.str p)), h, some (.fz (lstS (nums size p))), s5', s6', s7', none, s9] := by
  obtain ⟨env', h1, s5', s6', s7', rfl⟩ := forD_seen (T := .nm 5) (b := b3__law_owners) ch (fun pre env => ∃ s5 s6 s7, env = [some (.fz (plan size es)), f, some (.fz (.str p)), h, some (.fz (lstS (nums size pre))), s5, s6, s7, none, s9]) p
    [some (.fz (plan size es)), f, some (.fz (.str p)), h, some (.fz (lstS [[]])), s5, s6, s7, none, s9] ⟨_, _, _, rfl⟩ (by
      rintro pre c post env eq ⟨s5, s6, s7, rfl⟩
      have hpl : pre.length ≤ 6 := by have := congrArg List.length eq; simp at this; omega
      obtain ⟨k1, k2⟩ := nums_ok size pre
      have hpow : 6 ^ pre.length ≤ 6 ^ 6 := Nat.pow_le_pow_right (by decide) hpl
      obtain ⟨s7', hi⟩ := i_own size es f (some (.fz (.str p))) h c (nums size pre) s7 s9 (by omega) (fun w hw => by have := k2 w hw; omega)
      refine ⟨[some (.fz (plan size es)), f, some (.fz (.str p)), h, some (.fz (lstS (nums size pre))), some (.fz (ch c)), s6, s7, none, s9], rfl, [some (.fz (plan size es)), f, some (.fz (.str p)), h, some (.fz (lstS (nums size (pre ++ [c])))), some (.fz (ch c)), some (.fz (lstS (nums size (pre ++ [c])))), s7', none, s9], ?_, _, _, _, rfl⟩
      unfold b3__law_owners q2__law_owners
      rw [seq_nx (env' := [some (.fz (plan size es)), f, some (.fz (.str p)), h, some (.fz (lstS (nums size pre))), some (.fz (ch c)), some (.ow (lstS [])), s7, none, s9]) (by simp [lstS])]
      rw [seq_nx (env' := [some (.fz (plan size es)), f, some (.fz (.str p)), h, some (.fz (lstS (nums size pre))), some (.fz (ch c)), some (.ow (lstS (ext (dsOf size c) (nums size pre)))), s7', none, s9]) (by
        simp only [v_sFor, v_iSeq, v_rdV, v_gtS, v_gt0, v_ok, zp_lstS, v_fok]
        exact hi)]
      rw [nums_snoc]
      simp)
  exact ⟨s5', s6', s7', h1⟩
theorem own_puts (kvs : Kvs) (h : List Nat) (ns : List (List Nat)) (a b : Option Sl) (s5 s6 s7 s9 : Option Sl) (hl : kvs.length + ns.length ≤ 1000000) :
    ∃ s9', forD (.nm 9) b5__law_owners (ns.map D.str) [a, some (.ow (.dic kvs)), b, some (.fz (.str h)), some (.fz (lstS ns)), s5, s6, s7, none, s9] = .nx [a, some (.ow (.dic (puts h kvs ns))), b, some (.fz (.str h)), some (.fz (lstS ns)), s5, s6, s7, none, s9'] := by
  obtain ⟨env', h1, s9', rfl⟩ := forD_seen (T := .nm 9) (b := b5__law_owners) D.str (fun pre env => ∃ s9, env = [a, some (.ow (.dic (puts h kvs pre))), b, some (.fz (.str h)), some (.fz (lstS ns)), s5, s6, s7, none, s9]) ns
    [a, some (.ow (.dic kvs)), b, some (.fz (.str h)), some (.fz (lstS ns)), s5, s6, s7, none, s9] ⟨_, rfl⟩ (by
      rintro pre w post env eq ⟨s9, rfl⟩
      have hpl : pre.length ≤ ns.length := by have := congrArg List.length eq; simp at this; omega
      have hlt : (puts h kvs pre).length < 16777216 := by have := puts_len h pre kvs; omega
      refine ⟨[a, some (.ow (.dic (puts h kvs pre))), b, some (.fz (.str h)), some (.fz (lstS ns)), s5, s6, s7, none, some (.fz (.str w))], rfl, [a, some (.ow (.dic (puts h kvs (pre ++ [w])))), b, some (.fz (.str h)), some (.fz (lstS ns)), s5, s6, s7, none, some (.fz (.str w))], ?_, _, rfl⟩
      unfold b5__law_owners
      rw [puts_snoc]
      simp [hlt])
  exact ⟨s9', h1⟩
theorem n_owners {size : Nat} {es : List Ent} (hl : es.length ≤ 8) (h : ∀ e ∈ es, e.1.length ≤ 6) : Fn__law_owners [plan size es] = .ok (.dic (dictOf size es)) := by
  have e0 : Fn__law_owners [plan size es] = outOf (sv__law_owners [some (.fz (plan size es)), none, none, none, none, none, none, none, none, none]) := rfl
  obtain ⟨env', h1, s2, s3, s4, s5, s6, s7, s9, rfl⟩ := forD_seen (T := .tp [2, 3]) (b := b7__law_owners) ent (fun pre env => ∃ s2 s3 s4 s5 s6 s7 s9, env = [some (.fz (plan size es)), some (.ow (.dic (dictOf size pre))), s2, s3, s4, s5, s6, s7, none, s9]) es
    [some (.fz (plan size es)), some (.ow (.dic (dictOf size []))), none, none, none, none, none, none, none, none] ⟨_, _, _, _, _, _, _, rfl⟩ (by
      rintro pre e post env eq ⟨s2, s3, s4, s5, s6, s7, s9, rfl⟩
      have hm : e ∈ es := by rw [eq]; simp
      have hpl : pre.length ≤ 8 := by have := congrArg List.length eq; simp at this; omega
      have hd := dictOf_len size pre fun x hx => h x (by rw [eq]; exact List.mem_append_left _ hx)
      have hn := nums_len size (h e hm)
      obtain ⟨t5, t6, t7, hnu⟩ := own_nums size es (some (.ow (.dic (dictOf size pre)))) (some (.fz (.str e.2))) e.1 (h e hm) s5 s6 s7 s9
      obtain ⟨t9, hpu⟩ := own_puts (dictOf size pre) e.2 (nums size e.1) (some (.fz (plan size es))) (some (.fz (.str e.1))) t5 t6 t7 s9 (by omega)
      refine ⟨[some (.fz (plan size es)), some (.ow (.dic (dictOf size pre))), some (.fz (.str e.1)), some (.fz (.str e.2)), s4, s5, s6, s7, none, s9], rfl, [some (.fz (plan size es)), some (.ow (.dic (dictOf size (pre ++ [e])))), some (.fz (.str e.1)), some (.fz (.str e.2)), some (.fz (lstS (nums size e.1))), t5, t6, t7, none, t9], ?_, _, _, _, _, _, _, _, rfl⟩
      unfold b7__law_owners
      rw [seq_nx (asg_nm (d := lstS [[]]) (by simp [lstS]))]
      simp only [v_ptS, v_pt0]
      rw [seq_nx (env' := [some (.fz (plan size es)), some (.ow (.dic (dictOf size pre))), some (.fz (.str e.1)), some (.fz (.str e.2)), some (.fz (lstS (nums size e.1))), t5, t6, t7, none, s9]) (by
        unfold q4__law_owners
        simp only [v_sFor, v_iSeq, v_rdV, v_gtS, v_gt0, v_ok, zpD, v_fok]
        exact hnu)]
      unfold q6__law_owners
      rw [dictOf_snoc]
      simp only [v_sFor, v_iSeq, v_rdV, v_gtS, v_gt0, v_ok, zp_lstS, v_fok]
      exact hpu)
  rw [e0]
  unfold sv__law_owners
  rw [seq_nx (env' := [some (.fz (plan size es)), some (.ow (.dic (dictOf size []))), none, none, none, none, none, none, none, none]) (by simp [dictOf])]
  have x1 : ixD (plan size es) (.int 1) = .ok (.tup (es.map ent)) := ix_tup (at1 _ _ _)
  rw [seq_nx (env' := [some (.fz (plan size es)), some (.ow (.dic (dictOf size es))), s2, s3, s4, s5, s6, s7, none, s9]) (by
    unfold q8__law_owners
    simp only [v_sFor, v_iSeq, v_xOp, v_xC, v_rdB, v_gtS, v_gt0, v_ok, x1, v_cok, zpD, v_fok]
    exact h1)]
  simp
end Pv.W54

namespace Pv.W54
theorem n_check_kind (κ : Nat) (hκ : κ < 4) : Fn_check_kind [.str (kst κ)] = .ok .non := by
  have : κ = 0 ∨ κ = 1 ∨ κ = 2 ∨ κ = 3 := by omega
  rcases this with rfl | rfl | rfl | rfl <;> rfl
theorem n_strays {size : Nat} {es : List Ent} (h : OkP size es) (hd : (dictOf size es).length ≤ 2000) (κ : Nat) (hκ : κ < 4) : Fn_strays [plan size es, .str (kst κ)] = .ok (.lst (strL size (dictOf size es) κ)) := by
  have e0 : Fn_strays [plan size es, .str (kst κ)] = outOf (sv_strays [some (.fz (plan size es)), some (.fz (.str (kst κ)))]) := rfl
  rw [e0]
  unfold sv_strays
  simp [n_check_plan h, n_check_kind κ hκ, n_find_strays h hd κ hκ]
theorem readA_plain (ks : List (List Nat)) (r : List Nat) : plain (readA ks r) = true ∧ dep (readA ks r) = 0 := by
  rcases readA_cases ks r with e | ⟨n, _, e⟩ <;> rw [e] <;> exact ⟨rfl, by simp [dep]⟩
theorem tri_plain (kvs : Kvs) (n r : List Nat) : plain (tri kvs n r) = true ∧ dep (tri kvs n r) ≤ 1 := by
  obtain ⟨a, b⟩ := readA_plain (keysD kvs) r
  unfold tri
  exact ⟨by simp [plain, plains, a], by simp [dep, deps, b]⟩
theorem strL_plain (size : Nat) (kvs : Kvs) (κ : Nat) : plains (strL size kvs κ) = true ∧ deps (strL size kvs κ) ≤ 1 := by
  have key : ∀ l : List D, (∀ d ∈ l, plain d = true ∧ dep d ≤ 1) → plains l = true ∧ deps l ≤ 1 := by
    intro l
    induction l with
    | nil => intro _; exact ⟨by simp [plains], by simp [deps]⟩
    | cons d l ih =>
      intro h
      obtain ⟨a, b⟩ := ih fun x hx => h x (List.mem_cons_of_mem _ hx)
      obtain ⟨c, e⟩ := h d List.mem_cons_self
      exact ⟨by simp [plains, a, c], by rw [deps]; omega⟩
  apply key
  intro d hd
  unfold strL strT at hd
  obtain ⟨n, _, hd⟩ := List.mem_flatMap.mp hd
  unfold str1 at hd
  obtain ⟨r, _, rfl⟩ := List.mem_map.mp hd
  exact tri_plain kvs n r
theorem ne_nilD {l : List D} (h : plains l = true) : neD (.lst l) (.lst []) = .ok (.bl (!l.isEmpty)) := by
  unfold neD
  rw [if_pos ⟨by simpa [plain] using h, by simp [plain, plains], by simp [dep, deps]⟩]
  cases l <;> simp [deq, deqs]
end Pv.W54

namespace Pv.W54
theorem srtS_lt {ks : List (List Nat)} (h : ks.Nodup) : (srtS ks).Pairwise (· < ·) := by
  have nd : (srtS ks).Nodup := (srtS_perm ks).nodup_iff.mpr h
  refine List.Pairwise.imp (fun {a b} (h : a ≤ b ∧ a ≠ b) => ?_) ((srtS_pw ks).and nd)
  rcases sl_tri a b with q | q | q
  · exact q
  · exact absurd q h.2
  · exact absurd (List.le_antisymm h.1 (List.le_of_lt q)) h.2
theorem slS_lt (size : Nat) (n : List Nat) (κ : Nat) : (slS size n κ).Pairwise (· < ·) := srtS_lt (dist_nodup _ _ List.nodup_nil)
theorem isS_of {kvs : Kvs} {n r : List Nat} (h : isS kvs n r = true) : ∃ m ∈ keysD kvs, readA (keysD kvs) r = .str m ∧ deq (hv kvs m) (hv kvs n) = false := by
  unfold isS at h
  rw [beq_iff_eq] at h
  unfold fateS at h
  rcases readA_cases (keysD kvs) r with q | ⟨m, hm, q⟩
  · rw [q] at h; cases h
  · rw [q] at h
    refine ⟨m, hm, q, ?_⟩
    dsimp only at h
    cases z : deq (hv kvs m) (hv kvs n) with
    | false => rfl
    | true => rw [z, if_pos rfl] at h; cases h
theorem of_isS {kvs : Kvs} {n r m : List Nat} (h : readA (keysD kvs) r = .str m) (hd : deq (hv kvs m) (hv kvs n) = false) : isS kvs n r = true := by
  unfold isS fateS
  rw [h]
  dsimp only
  rw [hd]
  rfl
theorem str_mem {size : Nat} {kvs : Kvs} {κ : Nat} {d : D} : d ∈ strL size kvs κ ↔ ∃ n ∈ keysD kvs, ∃ r ∈ slS size n κ, isS kvs n r = true ∧ d = tri kvs n r := by
  unfold strL strT str1
  rw [List.mem_flatMap]
  constructor
  · rintro ⟨n, hn, h⟩
    obtain ⟨r, hr, rfl⟩ := List.mem_map.mp h
    rw [List.mem_filter] at hr
    exact ⟨n, srt_mem.mp hn, r, hr.1, hr.2, rfl⟩
  · rintro ⟨n, hn, r, hr, hs, rfl⟩
    exact ⟨n, srt_mem.mpr hn, List.mem_map.mpr ⟨r, List.mem_filter.mpr ⟨hr, hs⟩, rfl⟩⟩
theorem tri_S {kvs : Kvs} {n r : List Nat} (h : isS kvs n r = true) : ∃ m ∈ keysD kvs, tri kvs n r = .tup [.str n, .str r, .str m] ∧ readA (keysD kvs) r = .str m ∧ deq (hv kvs m) (hv kvs n) = false := by
  obtain ⟨m, hm, e, hd⟩ := isS_of h
  exact ⟨m, hm, by unfold tri; rw [e], e, hd⟩
theorem str_tupA {size : Nat} {kvs : Kvs} {κ : Nat} : ∀ d ∈ strL size kvs κ, ∃ n r m, d = .tup [.str n, .str r, .str m] := fun d hd => by
  obtain ⟨n, _, r, _, hs, rfl⟩ := str_mem.mp hd
  obtain ⟨m, _, e, _⟩ := tri_S hs
  exact ⟨n, r, m, e⟩
theorem tri_lt {a b c a' b' c' : List Nat} (h : a < a' ∨ (a = a' ∧ b < b')) : dlt (.tup [.str a, .str b, .str c]) (.tup [.str a', .str b', .str c']) = true := by
  rw [dlt, dlts, dlts]
  rcases h with h | ⟨rfl, h⟩
  · have hne : a ≠ a' := fun e => by subst e; exact List.lt_irrefl _ h
    simp [deq, dlt, hne, h]
  · have hne : b ≠ b' := fun e => by subst e; exact List.lt_irrefl _ h
    simp [deq, dlt, hne, h]
theorem str_rise (size : Nat) (kvs : Kvs) (κ : Nat) (hnd : (keysD kvs).Nodup) : (strL size kvs κ).Pairwise fun a b => dlt a b = true := by
  unfold strL strT
  rw [List.pairwise_flatMap]
  refine ⟨fun n _ => ?_, ?_⟩
  · unfold str1
    rw [List.pairwise_map]
    have := (slS_lt size n κ).filter (isS kvs n)
    refine List.Pairwise.imp_of_mem (fun {a b} ha hb h => ?_) this
    obtain ⟨m, _, e, _⟩ := tri_S (List.mem_filter.mp ha).2
    obtain ⟨m', _, e', _⟩ := tri_S (List.mem_filter.mp hb).2
    rw [e, e']
    exact tri_lt (.inr ⟨rfl, h⟩)
  · refine (srtS_lt hnd).imp fun {n n'} h x hx y hy => ?_
    unfold str1 at hx hy
    obtain ⟨a, ha, rfl⟩ := List.mem_map.mp hx
    obtain ⟨b, hb, rfl⟩ := List.mem_map.mp hy
    obtain ⟨m, _, e, _⟩ := tri_S (List.mem_filter.mp ha).2
    obtain ⟨m', _, e', _⟩ := tri_S (List.mem_filter.mp hb).2
    rw [e, e']
    exact tri_lt (.inl h)
theorem str_alk (size : Nat) (kvs : Kvs) (κ : Nat) : alkAll (strL size kvs κ) = true := by
  unfold alkAll
  rw [List.all_eq_true]
  intro x hx
  rw [List.all_eq_true]
  intro y hy
  obtain ⟨n, r, m, rfl⟩ := str_tupA x hx
  obtain ⟨n', r', m', rfl⟩ := str_tupA y hy
  simp [alk, alks]
end Pv.W54

namespace Pv.W54
theorem dg_at {size : Nat} (hs : size ≤ 6) {i : Int} (h0 : 0 ≤ i) (h1 : i < size) : ∃ c, c ∈ digs size ∧ ixD (.str [48, 49, 50, 51, 52, 53]) (.int i) = .ok (ch c) := by
  have hl : (digs size).length = size := by simp [digs]; omega
  have hi : i.toNat < (digs size).length := by omega
  refine ⟨(digs size)[i.toNat], List.getElem_mem hi, ix_str ?_⟩
  unfold atD
  rw [ixN_ok h0 (by simp; omega)]
  simp [digs]
theorem word_row {r : List Nat} {size most : Nat} (h1 : r.length ≤ most) (hm : most ≤ 12) (h2 : ∀ c ∈ r, c ∈ digs size) : wordB r (digs size) 0 12 = true := by
  unfold wordB
  rw [decide_eq_true (by omega), decide_eq_true (by omega)]
  simpa using h2
end Pv.W54

namespace Pv.W54
/-! ### rows -/
theorem i_rows (size : Nat) (es : List Ent) (a d : Option Sl) (s : List (List Nat)) (s5 : Option Sl) (hs : s.length ≤ 100000) (hw : ∀ w ∈ s, w.length ≤ 100) :
    ∃ s5', forD (.nm 5) b1_find_rows (s.map D.str) [some (.fz (plan size es)), a, some (.fz (lstS s)), d, some (.ow (lstS [])), s5, none] = .nx [some (.fz (plan size es)), a, some (.fz (lstS s)), d, some (.ow (lstS (ext (digs size) s))), s5', none] := by
  obtain ⟨env', h1, s5', rfl⟩ := forD_seen (T := .nm 5) (b := b1_find_rows) D.str (fun pre env => ∃ s5, env = [some (.fz (plan size es)), a, some (.fz (lstS s)), d, some (.ow (lstS (ext (digs size) pre))), s5, none]) s
    [some (.fz (plan size es)), a, some (.fz (lstS s)), d, some (.ow (lstS [])), s5, none] ⟨s5, by simp [ext]⟩ (by
      rintro pre w post env eq ⟨s5, rfl⟩
      have hwl := hw w (by rw [eq]; simp)
      have hpl : pre.length ≤ 100000 := by have := congrArg List.length eq; simp at this; omega
      refine ⟨[some (.fz (plan size es)), a, some (.fz (lstS s)), d, some (.ow (lstS (ext (digs size) pre))), some (.fz (.str w)), none], rfl, [some (.fz (plan size es)), a, some (.fz (lstS s)), d, some (.ow (lstS (ext (digs size) (pre ++ [w])))), some (.fz (.str w)), none], ?_, _, rfl⟩
      have hz : ∀ l, zpD (.str l) = .ok (l.map ch) := fun _ => rfl
      have hl := xLc_map (T := .nm 6) (own := [6]) (iv := iSeq (xCall Fn_digits_of (aCons (rdV 0) aNil))) (e := xOp addD (rdB 5) (rdB 6)) (env := [some (.fz (plan size es)), a, some (.fz (lstS s)), d, some (.ow (lstS (ext (digs size) pre))), some (.fz (.str w)), none]) ch (fun d => .str (w ++ [d])) (digs size) (by simp [n_digits, hz]) (fun d _ => ⟨_, rfl, by simp [-v_addS, add_ch d hwl]⟩)
      rw [strs_ext] at hl
      unfold b1_find_rows
      rw [ext_str (L := ext (digs size) pre) (M := (digs size).map fun d => w ++ [d]) rfl hl (by
        have h1 := digs_len size
        rw [ext_len, List.length_map]
        have := Nat.mul_le_mul hpl h1
        omega), ext_snoc]
      rfl)
  exact ⟨s5', h1⟩
theorem n_rows (size : Nat) (es : List Ent) (k : Nat) (hk : k ≤ 6) : Fn_find_rows [plan size es, .int (k : Int)] = .ok (lstS (full size k)) := by
  have e0 : Fn_find_rows [plan size es, .int (k : Int)] = outOf (sv_find_rows [some (.fz (plan size es)), some (.fz (.int (k : Int))), none, none, none, none, none]) := rfl
  obtain ⟨env', h1, s3, s4, s5, rfl⟩ := forD_seen (T := .nm 3) (b := b3_find_rows) (fun i : Nat => D.int (i : Int)) (fun pre env => ∃ s3 s4 s5, env = [some (.fz (plan size es)), some (.fz (.int (k : Int))), some (.fz (lstS (full size pre.length))), s3, s4, s5, none]) (List.range k)
    [some (.fz (plan size es)), some (.fz (.int (k : Int))), some (.fz (lstS [[]])), none, none, none, none] ⟨_, _, _, rfl⟩ (by
      rintro pre i post env eq ⟨s3, s4, s5, rfl⟩
      have hpl : pre.length < k := by have := congrArg List.length eq; simp at this; omega
      have hc := full_cnt size pre.length
      have hpow : 6 ^ pre.length ≤ 6 ^ 6 := Nat.pow_le_pow_right (by decide) (by omega)
      obtain ⟨s5', hi⟩ := i_rows size es (some (.fz (.int (k : Int)))) (some (.fz (.int (i : Int)))) (full size pre.length) s5 (by omega) (fun w hw => by have := full_len size _ w hw; omega)
      refine ⟨[some (.fz (plan size es)), some (.fz (.int (k : Int))), some (.fz (lstS (full size pre.length))), some (.fz (.int (i : Int))), s4, s5, none], rfl, [some (.fz (plan size es)), some (.fz (.int (k : Int))), some (.fz (lstS (full size (pre ++ [i]).length))), some (.fz (.int (i : Int))), some (.fz (lstS (full size (pre ++ [i]).length))), s5', none], ?_, _, _, _, rfl⟩
      unfold b3_find_rows q2_find_rows
      rw [seq_nx (env' := [some (.fz (plan size es)), some (.fz (.int (k : Int))), some (.fz (lstS (full size pre.length))), some (.fz (.int (i : Int))), some (.ow (lstS [])), s5, none]) (by simp [lstS])]
      rw [seq_nx (env' := [some (.fz (plan size es)), some (.fz (.int (k : Int))), some (.fz (lstS (full size pre.length))), some (.fz (.int (i : Int))), some (.ow (lstS (ext (digs size) (full size pre.length)))), s5', none]) (by
        simp only [v_sFor, v_iSeq, v_rdV, v_gtS, v_gt0, v_ok, zp_lstS, v_fok]
        exact hi)]
      rw [List.length_append, List.length_singleton]
      simp [full])
  rw [e0]
  unfold sv_find_rows
  rw [seq_nx (asg_nm (d := lstS [[]]) (by simp [lstS]))]
  simp only [v_ptS, v_pt0]
  rw [seq_nx (env' := [some (.fz (plan size es)), some (.fz (.int (k : Int))), some (.fz (lstS (full size k))), s3, s4, s5, none]) (by
    unfold q4_find_rows
    have hr := rng1_ok (n := k) (by omega)
    simp only [v_sFor, v_iR1, v_rdV, v_gtS, v_gt0, v_ok, hr, v_fok]
    rw [List.length_range] at h1
    exact h1)]
  rfl
theorem n_clen {size : Nat} (h3 : size ≤ 3) (es : List Ent) (k : Nat) (hk : k ≤ 6) : Fn_check_length [plan size es, .int (k : Int)] = .ok .non := by
  have e0 : Fn_check_length [plan size es, .int (k : Int)] = outOf (sv_check_length [some (.fz (plan size es)), some (.fz (.int (k : Int))), none, none]) := rfl
  have hii := n_is_int (k : Int) 0 6
  rw [decide_eq_true (show (0 : Int) ≤ k from by omega), decide_eq_true (show (k : Int) ≤ 6 from by omega)] at hii
  have x0 : ixD (plan size es) (.int 0) = .ok (.int (size : Int)) := ix_tup (at0 _ _)
  obtain ⟨env', h1, s3, rfl⟩ := forD_seen (T := .nm 3) (b := b2_check_length) (fun i : Nat => D.int (i : Int)) (fun pre env => ∃ s3, env = [some (.fz (plan size es)), some (.fz (.int (k : Int))), some (.fz (.int ((size ^ pre.length : Nat) : Int))), s3]) (List.range k)
    [some (.fz (plan size es)), some (.fz (.int (k : Int))), some (.fz (.int 1)), none] ⟨_, rfl⟩ (by
      rintro pre i post env eq ⟨s3, rfl⟩
      refine ⟨[some (.fz (plan size es)), some (.fz (.int (k : Int))), some (.fz (.int ((size ^ pre.length : Nat) : Int))), some (.fz (.int (i : Int)))], rfl, [some (.fz (plan size es)), some (.fz (.int (k : Int))), some (.fz (.int ((size ^ (pre ++ [i]).length : Nat) : Int))), some (.fz (.int (i : Int)))], ?_, _, rfl⟩
      unfold b2_check_length
      have hm : mulD (.int ((size ^ pre.length : Nat) : Int)) (.int (size : Int)) = .ok (.int ((size ^ (pre ++ [i]).length : Nat) : Int)) := by
        rw [v_mulI, if_pos (.inr ⟨by omega, by omega⟩), List.length_append, List.length_singleton, Nat.pow_succ]
        congr 2
      rw [asg_nm (d := .int ((size ^ (pre ++ [i]).length : Nat) : Int)) (by simp only [v_xOp, v_rdB, v_gtS, v_gt0, v_ok, v_xC, x0, v_cok, hm])]
      rfl)
  have hb : size ^ k ≤ 729 := Nat.le_trans (Nat.pow_le_pow_left h3 k) (Nat.le_trans (Nat.pow_le_pow_right (by decide) hk) (by decide))
  rw [e0]
  unfold sv_check_length
  rw [seq_nx (env' := [some (.fz (plan size es)), some (.fz (.int (k : Int))), none, none]) (by
    unfold q1_check_length
    refine if_skip ?_
    simp [hii])]
  rw [seq_nx (asg_nm (d := .int 1) rfl)]
  simp only [v_ptS, v_pt0]
  rw [seq_nx (env' := [some (.fz (plan size es)), some (.fz (.int (k : Int))), some (.fz (.int ((size ^ k : Nat) : Int))), s3]) (by
    unfold q3_check_length
    have hr := rng1_ok (n := k) (by omega)
    simp only [v_sFor, v_iR1, v_rdV, v_gtS, v_gt0, v_ok, hr, v_fok]
    rw [List.length_range] at h1
    exact h1)]
  unfold q4_check_length
  rw [if_skip (by
    simp only [v_tVal, v_xOp, v_rdB, v_gtS, v_gt0, v_ok, v_xC, v_gtI, v_cok, v_asB]
    congr 1
    exact decide_eq_false (by omega))]
  rfl
theorem n_allrows {size : Nat} {es : List Ent} (h : OkP size es) (h3 : size ≤ 3) (k : Nat) (hk : k ≤ 6) : Fn_all_rows [plan size es, .int (k : Int)] = .ok (lstS (full size k)) := by
  have e0 : Fn_all_rows [plan size es, .int (k : Int)] = outOf (sv_all_rows [some (.fz (plan size es)), some (.fz (.int (k : Int)))]) := rfl
  rw [e0]
  unfold sv_all_rows
  simp [n_check_plan h, n_clen h3 es k hk, n_rows size es k hk]
theorem n_row (ns : List Int) (at_ : Int) (size : Nat) (es : List Ent) (m : Nat) (hat : 0 ≤ at_) (hl : ns.length < 1000) (h1 : 1 ≤ size) (hs : size ≤ 6) (hm : m < 100) :
    ∃ r : List Nat, r.length = m ∧ (∀ c ∈ r, c ∈ digs size) ∧ Fn__law_row [scr ns, .int at_, plan size es, .int (m : Int)] = .ok (.str r) := by
  have e0 : Fn__law_row [scr ns, .int at_, plan size es, .int (m : Int)] = outOf (sv__law_row [some (.fz (scr ns)), some (.fz (.int at_)), some (.fz (plan size es)), some (.fz (.int (m : Int))), none]) := rfl
  have hsg : ∀ i : Nat, ∃ c, c ∈ digs size ∧ Fn__law_pick [scr ns, .int (at_ + i), .int size] = .ok (.int (dr ns (at_ + i) size)) ∧ ixD (.str [48, 49, 50, 51, 52, 53]) (.int (dr ns (at_ + i) size)) = .ok (ch c) := by
    intro i
    obtain ⟨f1, f2, f3⟩ := dr_ok (ns := ns) (k := at_ + i) (m := (size : Int)) (by omega) (by omega) hl
    obtain ⟨c, hc, e⟩ := dg_at hs f2 f3
    exact ⟨c, hc, f1, e⟩
  obtain ⟨cs, hcs⟩ : ∃ cs : Nat → Nat, ∀ i : Nat, cs i ∈ digs size ∧ Fn__law_pick [scr ns, .int (at_ + i), .int size] = .ok (.int (dr ns (at_ + i) size)) ∧ ixD (.str [48, 49, 50, 51, 52, 53]) (.int (dr ns (at_ + i) size)) = .ok (ch (cs i)) := ⟨fun i => (hsg i).choose, fun i => (hsg i).choose_spec⟩
  have hx : ixD (plan size es) (.int 0) = .ok (.int size) := ix_tup (at0 _ _)
  have hpat := xLc_map (T := .nm 4) (own := [4]) (iv := iR1 (rdV 3)) (e := (xOp ixD (xC (.str [48, 49, 50, 51, 52, 53])) (xCall Fn__law_pick (aCons (rdV 0) (aCons (xOp addD (rdB 1) (rdB 4)) (aCons (xOp ixD (rdB 2) (xC (.int 0))) aNil))))))
    (env := [some (.fz (scr ns)), some (.fz (.int at_)), some (.fz (plan size es)), some (.fz (.int (m : Int))), none])
    (fun i : Nat => D.int i) (fun i => ch (cs i)) (List.range m) (by simp [rng1_ok (show m ≤ 1000 by omega)]) (fun i _ => ⟨_, rfl, by
        obtain ⟨k1, k2, k3⟩ := hcs i
        simp [hx, k2, k3]⟩)
  have hpl : ((List.range m).map cs).length ≤ LIM := by rw [List.length_map, List.length_range]; exact Nat.le_trans (show m ≤ 1000 by omega) (by decide)
  have hjoin := join_chs hpl
  rw [List.map_map] at hjoin
  refine ⟨(List.range m).map cs, by simp, fun c hc => ?_, ?_⟩
  · obtain ⟨i, _, rfl⟩ := List.mem_map.mp hc
    exact (hcs i).1
  · rw [e0]
    unfold sv__law_row
    rw [v_sRet, v_xM, v_xC, v_ok, if_pos (by rfl), hpat, v_ok, show (fun i => ch (cs i)) = ch ∘ cs from rfl, hjoin]
    simp
end Pv.W54

namespace Pv.W54
/-! ### slips, the law's way -/
def lwI (size : Nat) (n : List Nat) (κ k : Nat) : List (List Nat) := if κ = 1 then (if k = 0 then [] else slI size n 1 (k - 1)) else slI size n κ k
theorem lw_all (size : Nat) (n : List Nat) {κ : Nat} (hκ : κ < 4) : (List.range n.length).flatMap (lwI size n κ) = slL size n κ := by
  by_cases h : κ = 1
  · subst h
    rw [slL_swap]
    have key : ∀ m : Nat, (List.range m).flatMap (lwI size n 1) = slT size n 1 (m - 1) := by
      intro m
      induction m with
      | zero => rfl
      | succ m ih =>
        rw [List.range_succ, List.flatMap_append, ih]
        cases m with
        | zero => simp [lwI, slT]
        | succ m =>
          rw [Nat.add_sub_cancel, Nat.add_sub_cancel, slT_succ]
          simp [lwI]
    exact key n.length
  · unfold slL slT
    congr 1
    funext k
    unfold lwI
    rw [if_neg h]
theorem sl_upto (r : List Nat) (i : Nat) : slD none (some ((i : Int) + 1)) (.str r) = .ok (.str (r.take (i + 1))) := sl_take r (i + 1)
theorem ix_pred {r : List Nat} {i : Nat} (h0 : 0 < i) (h : i < r.length) : ixD (.str r) (.int ((i : Int) - 1)) = .ok (ch (r.getD (i - 1) 0)) := by
  have := ix_get (r := r) (i := i - 1) (by omega)
  rw [show ((i - 1 : Nat) : Int) = (i : Int) - 1 from by omega] at this
  exact this
theorem sl_pred {r : List Nat} {i : Nat} (h0 : 0 < i) : slD none (some ((i : Int) - 1)) (.str r) = .ok (.str (r.take (i - 1))) := by
  have := sl_take r (i - 1)
  rw [show ((i - 1 : Nat) : Int) = (i : Int) - 1 from by omega] at this
  exact this
theorem kq (κ : Nat) (hκ : κ < 4) : eqD (.str (kst κ)) (.str [119, 114, 111, 110, 103]) = .ok (.bl (κ == 3)) ∧ eqD (.str (kst κ)) (.str [108, 111, 115, 116]) = .ok (.bl (κ == 0)) ∧ eqD (.str (kst κ)) (.str [116, 119, 105, 99, 101]) = .ok (.bl (κ == 2)) ∧ eqD (.str (kst κ)) (.str [115, 119, 97, 112]) = .ok (.bl (κ == 1)) := by
  refine ⟨?_, ?_, ?_, ?_⟩
  · rw [eqS]; have := kst_ne hκ (show 3 < 4 by decide); rw [show kst 3 = [119, 114, 111, 110, 103] from rfl] at this; rw [this]
  · rw [eqS]; have := kst_ne hκ (show 0 < 4 by decide); rw [show kst 0 = [108, 111, 115, 116] from rfl] at this; rw [this]
  · rw [eqS]; have := kst_ne hκ (show 2 < 4 by decide); rw [show kst 2 = [116, 119, 105, 99, 101] from rfl] at this; rw [this]
  · rw [eqS]; have := kst_ne hκ (show 1 < 4 by decide); rw [show kst 1 = [115, 119, 97, 112] from rfl] at this; rw [this]
theorem turn_lslips (size : Nat) (p : Option Sl) (n : List Nat) (κ : Nat) (hκ : κ < 4) (hn : n.length ≤ 6) (k : Nat) (hk : k < n.length) (L : List (List Nat)) (hL : L.length ≤ 1000) (s7 : Option Sl) :
    ∃ s7', b2__law_slips [p, some (.fz (.str n)), some (.fz (.str (kst κ))), some (.ow (lstS L)), some (.fz (.str (digs size))), some (.fz (.int (k : Int))), none, s7] = .nx [p, some (.fz (.str n)), some (.fz (.str (kst κ))), some (.ow (lstS (L ++ lwI size n κ k))), some (.fz (.str (digs size))), some (.fz (.int (k : Int))), none, s7'] := by
  obtain ⟨q3, q0, q2, q1⟩ := kq κ hκ
  have hx := ix_get hk
  have hs1 := sl_take n k
  have hs2 := sl_pos1 n k
  have hs3 := sl_upto n k
  have hs4 := sl_pos n k
  have hI : asI (.int (k : Int)) = .ok (k : Int) := rfl
  have hI1 : asI (.int ((k : Int) + 1)) = .ok ((k : Int) + 1) := rfl
  have hIm : asI (.int ((k : Int) - 1)) = .ok ((k : Int) - 1) := rfl
  have hadd : ∀ a b : List Nat, a.length ≤ 100 → b.length ≤ 100 → addD (.str a) (.str b) = .ok (.str (a ++ b)) := fun a b ha hb => add_str (by omega)
  have tl : ∀ j, (n.take j).length ≤ 6 := fun j => by rw [List.length_take]; omega
  have dl : ∀ j, (n.drop j).length ≤ 6 := fun j => by rw [List.length_drop]; omega
  have hdl := digs_len size
  -- wrong
  have hw : xLc (.nm 6) [6] (iSeq (rdB 4)) (tAn (tVal (xOp eqD (rdB 2) (xC (.str [119, 114, 111, 110, 103])))) (tVal (xOp neD (rdB 6) (xOp ixD (rdB 1) (rdB 5))))) (xOp addD (xOp addD (xSl (rdB 1) none (some (rdV 5))) (rdB 6)) (xSl (rdB 1) (some (xOp addD (rdB 5) (xC (.int 1)))) none)) [p, some (.fz (.str n)), some (.fz (.str (kst κ))), some (.ow (lstS L)), some (.fz (.str (digs size))), some (.fz (.int (k : Int))), none, s7] = .ok (lstS (if κ = 3 then slI size n 3 k else [])) := by
    have hz : ∀ l, zpD (.str l) = .ok (l.map ch) := fun _ => rfl
    have := xLc_ok (T := .nm 6) (own := [6]) (iv := iSeq (rdB 4)) (t := tAn (tVal (xOp eqD (rdB 2) (xC (.str [119, 114, 111, 110, 103])))) (tVal (xOp neD (rdB 6) (xOp ixD (rdB 1) (rdB 5))))) (e := xOp addD (xOp addD (xSl (rdB 1) none (some (rdV 5))) (rdB 6)) (xSl (rdB 1) (some (xOp addD (rdB 5) (xC (.int 1)))) none)) (env := [p, some (.fz (.str n)), some (.fz (.str (kst κ))), some (.ow (lstS L)), some (.fz (.str (digs size))), some (.fz (.int (k : Int))), none, s7]) ch (fun d => (κ == 3) && !(d == n.getD k 0)) (fun d => D.str (n.take k ++ [d] ++ n.drop (k + 1))) (digs size) (by simp [hz]) (fun d _ => ⟨[p, some (.fz (.str n)), some (.fz (.str (kst κ))), some (.ow (lstS L)), some (.fz (.str (digs size))), some (.fz (.int (k : Int))), some (.fz (ch d)), s7], rfl, by
        have hne := ne_ch d (n.getD k 0)
        simp only [v_tAn, v_tVal, v_xOp, v_rdB, v_gtS, v_gt0, v_ok, v_xC, q3, v_cok, v_asB, hx, hne]
        cases (κ == 3) <;> rfl, fun _ => by
        have h1 := hadd (n.take k) [d] (by have := tl k; omega) (by simp)
        have h2 := hadd (n.take k ++ [d]) (n.drop (k + 1)) (by rw [List.length_append]; have := tl k; simp; omega) (by have := dl (k + 1); omega)
        have hch : ch d = .str [d] := rfl
        simp only [v_xOp, v_xSl, v_oIn, v_oIs, v_rdB, v_rdV, v_gtS, v_gt0, v_ok, v_xC, v_addI, v_cok, hI, hI1, hs1, hs2, hch, h1, h2]⟩)
    rw [this]
    unfold lstS
    by_cases c : κ = 3
    · subst c
      simp [slI3]
    · have cb : (κ == 3) = false := beq_eq_false_iff_ne.mpr c
      simp [c, cb]
  have len3 : (if κ = 3 then slI size n 3 k else []).length ≤ 6 := by
    split
    · exact slI_len size n 3 k
    · simp
  unfold b2__law_slips
  rw [seq_nx (env' := [p, some (.fz (.str n)), some (.fz (.str (kst κ))), some (.ow (lstS (L ++ (if κ = 3 then slI size n 3 k else [])))), some (.fz (.str (digs size))), some (.fz (.int (k : Int))), none, s7]) (ext_str rfl hw (by omega))]
  have h0 : xIf (tVal (xOp eqD (rdB 2) (xC (.str [108, 111, 115, 116])))) (xLst (aCons (xOp addD (xSl (rdB 1) none (some (rdV 5))) (xSl (rdB 1) (some (xOp addD (rdB 5) (xC (.int 1)))) none)) aNil)) (xLst aNil) [p, some (.fz (.str n)), some (.fz (.str (kst κ))), some (.ow (lstS (L ++ (if κ = 3 then slI size n 3 k else [])))), some (.fz (.str (digs size))), some (.fz (.int (k : Int))), none, s7] = .ok (lstS (if κ = 0 then slI size n 0 k else [])) := by
    have h1 := hadd (n.take k) (n.drop (k + 1)) (by have := tl k; omega) (by have := dl (k + 1); omega)
    simp only [v_xIf, v_tVal, v_xOp, v_rdB, v_gtS, v_gt0, v_ok, v_xC, q0, v_cok, v_asB]
    by_cases c : κ = 0
    · subst c
      simp only [beq_self_eq_true, if_true, v_xLst, v_aCons, v_aNil, v_xSl, v_oIn, v_oIs, v_xOp, v_rdB, v_rdV, v_gtS, v_gt0, v_ok, v_xC, v_addI, v_cok, hI, hI1, hs1, hs2, h1, List.length_cons, List.length_nil, show (0 + 1 ≤ LIM) = True from by simp]
      rfl
    · have cb : (κ == 0) = false := beq_eq_false_iff_ne.mpr c
      simp only [cb, Bool.false_eq_true, if_false, c, v_xLst, v_aNil, v_ok, List.length_nil, Nat.zero_le, if_true]
      rfl
  have len0 : (if κ = 0 then slI size n 0 k else []).length ≤ 6 := by
    split
    · exact slI_len size n 0 k
    · simp
  rw [seq_nx (ext_str rfl h0 (by rw [List.length_append]; omega))]
  simp only [v_ptS, v_pt0]
  have h2 : xIf (tVal (xOp eqD (rdB 2) (xC (.str [116, 119, 105, 99, 101])))) (xLst (aCons (xOp addD (xSl (rdB 1) none (some (xOp addD (rdB 5) (xC (.int 1))))) (xSl (rdB 1) (some (rdV 5)) none)) aNil)) (xLst aNil) [p, some (.fz (.str n)), some (.fz (.str (kst κ))), some (.ow (lstS (L ++ (if κ = 3 then slI size n 3 k else []) ++ (if κ = 0 then slI size n 0 k else [])))), some (.fz (.str (digs size))), some (.fz (.int (k : Int))), none, s7] = .ok (lstS (if κ = 2 then slI size n 2 k else [])) := by
    have h1 := hadd (n.take (k + 1)) (n.drop k) (by have := tl (k + 1); omega) (by have := dl k; omega)
    simp only [v_xIf, v_tVal, v_xOp, v_rdB, v_gtS, v_gt0, v_ok, v_xC, q2, v_cok, v_asB]
    by_cases c : κ = 2
    · subst c
      simp only [beq_self_eq_true, if_true, v_xLst, v_aCons, v_aNil, v_xSl, v_oIn, v_oIs, v_xOp, v_rdB, v_rdV, v_gtS, v_gt0, v_ok, v_xC, v_addI, v_cok, hI, hI1, hs3, hs4, h1, List.length_cons, List.length_nil, show (0 + 1 ≤ LIM) = True from by simp]
      have e : n.take (k + 1) ++ n.drop k = n.take k ++ [n.getD k 0] ++ [n.getD k 0] ++ n.drop (k + 1) := by
        rw [head_drop hk, List.take_succ]
        simp [List.getD_eq_getElem?_getD, hk]
      rw [e, slI2]
      rfl
    · have cb : (κ == 2) = false := beq_eq_false_iff_ne.mpr c
      simp only [cb, Bool.false_eq_true, if_false, c, v_xLst, v_aNil, v_ok, List.length_nil, Nat.zero_le, if_true]
      rfl
  have len2 : (if κ = 2 then slI size n 2 k else []).length ≤ 6 := by
    split
    · exact slI_len size n 2 k
    · simp
  rw [seq_nx (ext_str rfl h2 (by rw [List.length_append, List.length_append]; omega))]
  simp only [v_ptS, v_pt0]
  have hI3 : κ = 1 → (if κ = 3 then slI size n 3 k else []) = [] ∧ (if κ = 0 then slI size n 0 k else []) = [] ∧ (if κ = 2 then slI size n 2 k else []) = [] := fun c => by subst c; simp
  have hno : κ ≠ 1 → L ++ (if κ = 3 then slI size n 3 k else []) ++ (if κ = 0 then slI size n 0 k else []) ++ (if κ = 2 then slI size n 2 k else []) = L ++ lwI size n κ k := fun c => by
    unfold lwI
    rw [if_neg c]
    have : κ = 0 ∨ κ = 2 ∨ κ = 3 := by omega
    rcases this with rfl | rfl | rfl <;> simp
  unfold q1__law_slips
  by_cases c : κ = 1
  · obtain ⟨z1, z2, z3⟩ := hI3 c
    rw [z1, z2, z3]
    simp only [List.append_nil]
    subst c
    have hlw : lwI size n 1 k = if k = 0 then [] else slI size n 1 (k - 1) := by simp [lwI]
    by_cases hk0 : k = 0
    · subst hk0
      rw [hlw, if_pos rfl, List.append_nil]
      exact ⟨s7, if_skip (by
        simp only [v_tAn, v_tVal, v_xOp, v_rdB, v_gtS, v_gt0, v_ok, v_xC, q1, v_cok, v_asB, v_gtI]
        rfl)⟩
    · rw [hlw, if_neg hk0]
      have hp := ix_pred (r := n) (i := k) (by omega) hk
      have hgt : decide ((0 : Int) < (k : Int)) = true := decide_eq_true (by omega)
      have hne := ne_ch (n.getD k 0) (n.getD (k - 1) 0)
      have e1 : k - 1 + 1 = k := by omega
      rw [slI1, e1]
      by_cases hd : n.getD k 0 = n.getD (k - 1) 0
      · rw [if_neg (fun q => q.2 hd), List.append_nil]
        have hbb : (!(n.getD k 0 == n.getD (k - 1) 0)) = false := by simpa using hd
        rw [hbb] at hne
        exact ⟨s7, if_skip (by
          simp only [v_tAn, v_tVal, v_xOp, v_rdB, v_gtS, v_gt0, v_ok, v_xC, q1, v_cok, v_asB, v_gtI, hgt, v_subI, hx, hp, hne]
          rfl)⟩
      · rw [if_pos ⟨hk, hd⟩]
        have hbb : (!(n.getD k 0 == n.getD (k - 1) 0)) = true := by simpa using hd
        rw [hbb] at hne
        refine ⟨some (.fz (.str [n.getD k 0, n.getD (k - 1) 0])), ?_⟩
        rw [if_take (by
          simp only [v_tAn, v_tVal, v_xOp, v_rdB, v_gtS, v_gt0, v_ok, v_xC, q1, v_cok, v_asB, v_gtI, hgt, v_subI, hx, hp, hne]
          rfl)]
        have ha : addD (ch (n.getD k 0)) (ch (n.getD (k - 1) 0)) = .ok (.str [n.getD k 0, n.getD (k - 1) 0]) := hadd [n.getD k 0] [n.getD (k - 1) 0] (by simp) (by simp)
        rw [seq_nx (asg_nm (d := .str [n.getD k 0, n.getD (k - 1) 0]) (by
          simp only [v_xOp, v_rdB, v_gtS, v_gt0, v_ok, v_xC, v_subI, v_cok, hx, hp, ha]))]
        simp only [v_ptS, v_pt0]
        have hp2 := sl_pred (r := n) (i := k) (by omega)
        have h1 := hadd (n.take (k - 1)) [n.getD k 0, n.getD (k - 1) 0] (by have := tl (k - 1); omega) (by simp)
        have h2 := hadd (n.take (k - 1) ++ [n.getD k 0, n.getD (k - 1) 0]) (n.drop (k + 1)) (by rw [List.length_append]; have := tl (k - 1); simp; omega) (by have := dl (k + 1); omega)
        rw [app_str (L := L) (w := n.take (k - 1) ++ [n.getD k 0, n.getD (k - 1) 0] ++ n.drop (k + 1)) rfl (by
          simp only [v_xOp, v_xSl, v_oIn, v_oIs, v_rdB, v_rdV, v_gtS, v_gt0, v_ok, v_xC, v_addI, v_subI, v_cok, hIm, hI1, hp2, hs2, h1, h2]) (by omega)]
        have e2 : k - 1 + 2 = k + 1 := by omega
        rw [e2]
        simp only [v_ptS, v_pt0]
        congr 8
        simp
  · have cb : (κ == 1) = false := beq_eq_false_iff_ne.mpr c
    rw [hno c]
    exact ⟨s7, if_skip (by
      simp only [v_tAn, v_tVal, v_xOp, v_rdB, v_gtS, v_gt0, v_ok, v_xC, q1, v_cok, v_asB, cb]
      rfl)⟩
theorem n_lslips (size : Nat) (es : List Ent) (n : List Nat) (κ : Nat) (hκ : κ < 4) (hn : n.length ≤ 6) : Fn__law_slips [plan size es, .str n, .str (kst κ)] = .ok (lstS (slS size n κ)) := by
  have e0 : Fn__law_slips [plan size es, .str n, .str (kst κ)] = outOf (sv__law_slips [some (.fz (plan size es)), some (.fz (.str n)), some (.fz (.str (kst κ))), none, none, none, none, none]) := rfl
  have x0 : ixD (plan size es) (.int 0) = .ok (.int (size : Int)) := ix_tup (at0 _ _)
  have hlwl : ∀ pre : List Nat, (pre.flatMap (lwI size n κ)).length ≤ 6 * pre.length := by
    intro pre
    induction pre with
    | nil => simp
    | cons k pre ih =>
      rw [List.flatMap_cons, List.length_append, List.length_cons]
      have : (lwI size n κ k).length ≤ 6 := by
        unfold lwI
        split
        · split
          · simp
          · exact slI_len size n 1 _
        · exact slI_len size n κ k
      omega
  obtain ⟨env', h1, s5, s7, rfl⟩ := forD_seen (T := .nm 5) (b := b2__law_slips) (fun i : Nat => D.int (i : Int))
    (fun pre env => ∃ s5 s7, env = [some (.fz (plan size es)), some (.fz (.str n)), some (.fz (.str (kst κ))), some (.ow (lstS (pre.flatMap (lwI size n κ)))), some (.fz (.str (digs size))), s5, none, s7]) (List.range n.length)
    [some (.fz (plan size es)), some (.fz (.str n)), some (.fz (.str (kst κ))), some (.ow (lstS [])), some (.fz (.str (digs size))), none, none, none] ⟨_, _, rfl⟩ (by
      rintro pre k post env eq ⟨s5, s7, rfl⟩
      have hk : k < n.length := List.mem_range.mp (by rw [eq]; simp)
      have hpl : pre.length ≤ 6 := by have := congrArg List.length eq; simp at this; omega
      obtain ⟨s7', ht⟩ := turn_lslips size (some (.fz (plan size es))) n κ hκ hn k hk (pre.flatMap (lwI size n κ)) (by have := hlwl pre; omega) s7
      refine ⟨[some (.fz (plan size es)), some (.fz (.str n)), some (.fz (.str (kst κ))), some (.ow (lstS (pre.flatMap (lwI size n κ)))), some (.fz (.str (digs size))), some (.fz (.int (k : Int))), none, s7], rfl, _, ht, some (.fz (.int (k : Int))), s7', ?_⟩
      rw [List.flatMap_append]
      simp)
  rw [e0]
  unfold sv__law_slips
  rw [seq_nx (env' := [some (.fz (plan size es)), some (.fz (.str n)), some (.fz (.str (kst κ))), some (.ow (lstS [])), some (.fz (.str (digs size))), none, none, none]) (by
    simp [x0, sl_digs, lstS, show asI (.int (size : Int)) = .ok (size : Int) from rfl])]
  rw [seq_nx (env' := [some (.fz (plan size es)), some (.fz (.str n)), some (.fz (.str (kst κ))), some (.ow (lstS (slL size n κ))), some (.fz (.str (digs size))), s5, none, s7]) (by
    unfold q3__law_slips
    have hr := rng1_ok (n := n.length) (by omega)
    simp only [v_sFor, v_iR1, v_xU, v_rdB, v_gtS, v_gt0, v_ok, len_str, v_cok, hr, v_fok]
    rw [lw_all size n hκ] at h1
    exact h1)]
  rw [ret_ok (d := lstS (slS size n κ)) (by
    rw [v_xU]
    simp only [v_rdB, v_gtS, v_gt0, v_ok]
    unfold lstS
    have hl := slT_len size n κ n.length
    rw [sset_ok (by unfold slL; omega)]
    rfl)]
  rfl
end Pv.W54

namespace Pv.W54
/-! ### strays, by listing -/
theorem isS_non {kvs : Kvs} {n r : List Nat} (h : readA (keysD kvs) r = .non) : isS kvs n r = false := by
  cases c : isS kvs n r with
  | false => rfl
  | true =>
    obtain ⟨m, _, e, _⟩ := isS_of c
    rw [h] at e
    cases e
theorem isS_str {kvs : Kvs} {n r m : List Nat} (h : readA (keysD kvs) r = .str m) : isS kvs n r = !deq (hv kvs m) (hv kvs n) := by
  cases c : deq (hv kvs m) (hv kvs n) with
  | false => exact of_isS h c
  | true =>
    cases d : isS kvs n r with
    | false => rfl
    | true =>
      obtain ⟨m', _, e, q⟩ := isS_of d
      rw [h] at e
      injection e with e
      subst e
      rw [c] at q
      cases q
/-- there is not None and owners[there] != owners[number] -/
theorem st_test {kvs : Kvs} (hs : strV kvs) {n r : List Nat} (hn : n ∈ keysD kvs) {a b c : Xv} {env : En} (ha : a env = .ok (readA (keysD kvs) r)) (hb : b env = .ok (.dic kvs)) (hc : c env = .ok (.str n)) :
    tAn (tVal (xOp isnD a (xC .non))) (tVal (xOp neD (xOp ixD b a) (xOp ixD b c))) env = .ok (isS kvs n r) := by
  rcases readA_cases (keysD kvs) r with e | ⟨m, hm, e⟩
  · rw [isS_non e]
    rw [e] at ha
    have : isnD .non .non = .ok (.bl false) := rfl
    simp only [v_tAn, v_tVal, v_xOp, ha, v_ok, v_xC, this, v_cok, v_asB, Bool.false_eq_true, if_false]
  · rw [isS_str e]
    rw [e] at ha
    have h1 : isnD (.str m) .non = .ok (.bl true) := rfl
    have h2 := ix_key hm
    have h3 := ix_key hn
    have h4 := (eq_hv hs hm hn).2
    simp only [v_tAn, v_tVal, v_xOp, ha, v_ok, v_xC, h1, v_cok, v_asB, if_true, hb, hc, h2, h3, h4]
theorem i_nstrays {size : Nat} {es : List Ent} {kvs : Kvs} (hs : strV kvs) (κ : Nat) (hκ : κ < 4) {n : List Nat} (hn : n ∈ keysD kvs) (hl : n.length ≤ 6) (A : List D) (hA : A.length ≤ 1000000) (s5 s6 : Option Sl) :
    ∃ s5' s6', q3_naive_strays [some (.fz (plan size es)), some (.fz (.str (kst κ))), some (.fz (.dic kvs)), some (.ow (.lst A)), some (.fz (.str n)), s5, s6] = .nx [some (.fz (plan size es)), some (.fz (.str (kst κ))), some (.fz (.dic kvs)), some (.ow (.lst (A ++ str1 size kvs κ n))), some (.fz (.str n)), s5', s6'] := by
  have hsl := slS_len size n κ hl
  obtain ⟨env', h1, s5', s6', rfl⟩ := forD_seen (T := .nm 5) (b := b2_naive_strays) D.str
    (fun pre env => ∃ s5' s6', env = [some (.fz (plan size es)), some (.fz (.str (kst κ))), some (.fz (.dic kvs)), some (.ow (.lst (A ++ (pre.filter (isS kvs n)).map (tri kvs n)))), some (.fz (.str n)), s5', s6']) (slS size n κ)
    [some (.fz (plan size es)), some (.fz (.str (kst κ))), some (.fz (.dic kvs)), some (.ow (.lst A)), some (.fz (.str n)), s5, s6] ⟨s5, s6, by simp⟩ (by
      rintro pre r post env e ⟨s5', s6', rfl⟩
      have hr : r.length ≤ 1000 := by have := sl_len (size := size) (n := n) (κ := κ) (w := r) (by rw [e]; simp); omega
      have hrd := n_listed kvs r hr
      have hpl : pre.length ≤ 36 := by
        have : pre.length ≤ (slS size n κ).length := by rw [e]; simp
        omega
      have hlen : (A ++ (pre.filter (isS kvs n)).map (tri kvs n)).length < LIM := by
        rw [List.length_append, List.length_map]
        have := List.length_filter_le (isS kvs n) pre
        show _ < 16777216
        omega
      refine ⟨[some (.fz (plan size es)), some (.fz (.str (kst κ))), some (.fz (.dic kvs)), some (.ow (.lst (A ++ (pre.filter (isS kvs n)).map (tri kvs n)))), some (.fz (.str n)), some (.fz (.str r)), s6'], rfl, [some (.fz (plan size es)), some (.fz (.str (kst κ))), some (.fz (.dic kvs)), some (.ow (.lst (A ++ ((pre ++ [r]).filter (isS kvs n)).map (tri kvs n)))), some (.fz (.str n)), some (.fz (.str r)), some (.fz (readA (keysD kvs) r))], ?_, _, _, rfl⟩
      rw [List.filter_append]
      generalize hM : (pre.filter (isS kvs n)).map (tri kvs n) = M at hlen
      rw [List.map_append, hM]
      unfold b2_naive_strays
      rw [seq_nx (asg_nm (d := readA (keysD kvs) r) (by simp only [v_xCall, v_aCons, v_aNil, v_rdV, v_gtS, v_gt0, v_ok, hrd]))]
      simp only [v_ptS, v_pt0]
      unfold q1_naive_strays
      have ht := st_test hs hn (r := r) (a := rdB 6) (b := rdB 2) (c := rdB 4) (env := [some (.fz (plan size es)), some (.fz (.str (kst κ))), some (.fz (.dic kvs)), some (.ow (.lst (A ++ M))), some (.fz (.str n)), some (.fz (.str r)), some (.fz (readA (keysD kvs) r))]) rfl rfl rfl
      cases hq : isS kvs n r with
      | false =>
        rw [hq] at ht
        rw [if_skip ht]
        simp [hq]
      | true =>
        rw [hq] at ht
        rw [if_take ht, v_sApp]
        simp only [v_gtS, v_gt0]
        have htu : xTup (aCons (rdV 4) (aCons (rdV 5) (aCons (rdV 6) aNil))) [some (.fz (plan size es)), some (.fz (.str (kst κ))), some (.fz (.dic kvs)), some (.ow (.lst (A ++ M))), some (.fz (.str n)), some (.fz (.str r)), some (.fz (readA (keysD kvs) r))] = .ok (tri kvs n r) := by
          unfold tri
          simp
        rw [htu, v_fok, if_pos hlen]
        simp [hq, List.append_assoc])
  refine ⟨s5', s6', ?_⟩
  unfold q3_naive_strays
  have hsl2 := n_find_slips (size := size) (es := es) n κ hκ hl
  simp only [v_sFor, v_iSeq, v_xCall, v_aCons, v_aNil, v_rdV, v_gtS, v_gt0, v_ok, hsl2, zp_lstS, v_fok]
  exact h1
theorem strT_snoc (size : Nat) (kvs : Kvs) (κ : Nat) (pre : List (List Nat)) (n : List Nat) : strT size kvs κ (pre ++ [n]) = strT size kvs κ pre ++ str1 size kvs κ n := by simp [strT]
/-- sorted, in whatever order they were found -/
theorem sort_strays (size : Nat) (kvs : Kvs) (κ : Nat) (hnd : (keysD kvs).Nodup) : sortD (.lst (strT size kvs κ (keysD kvs))) = .ok (.lst (strL size kvs κ)) := by
  have hp : (strT size kvs κ (keysD kvs)).Perm (strL size kvs κ) := by
    unfold strL strT
    exact ((srtS_perm (keysD kvs)).symm).flatMap_right _
  have hA : ∀ d ∈ strL size kvs κ, tupA d = true := fun d hd => by
    obtain ⟨n, r, m, rfl⟩ := str_tupA d hd
    rfl
  have hk := str_alk size kvs κ
  have hA' : ∀ d ∈ strT size kvs κ (keysD kvs), tupA d = true := fun d hd => hA d (hp.mem_iff.mp hd)
  have hk' : alkAll (strT size kvs κ (keysD kvs)) = true := by
    unfold alkAll
    rw [List.all_eq_true]
    intro x hx
    rw [List.all_eq_true]
    intro y hy
    exact alkN_mem hk (hp.mem_iff.mp hx) (hp.mem_iff.mp hy)
  show (if srtOk (strT size kvs κ (keysD kvs)) = true then Res.ok (D.lst ((strT size kvs κ (keysD kvs)).mergeSort dle)) else Res.bad) = _
  rw [if_pos (srt_tups hA' hk'), srtT_unique hp hA hk]
  congr 2
  refine List.mergeSort_of_pairwise (List.Pairwise.imp_of_mem (fun {a b} ha hb h => ?_) (str_rise size kvs κ hnd))
  have := tA_asym h (hA a ha) (hA b hb)
  simp [dle, this]
theorem n_nstrays {size : Nat} {es : List Ent} (h : OkP size es) (hd : (dictOf size es).length ≤ 2000) (κ : Nat) (hκ : κ < 4) : Fn_naive_strays [plan size es, .str (kst κ)] = .ok (.lst (strL size (dictOf size es) κ)) := by
  have e0 : Fn_naive_strays [plan size es, .str (kst κ)] = outOf (sv_naive_strays [some (.fz (plan size es)), some (.fz (.str (kst κ))), none, none, none, none, none]) := rfl
  have hf := n_find (size := size) (es := es) h.l8 fun e he => (h.short e he).1
  obtain ⟨env', h1, s4, s5, s6, rfl⟩ := forD_seen (T := .nm 4) (b := b4_naive_strays) D.str
    (fun pre env => ∃ s4 s5 s6, env = [some (.fz (plan size es)), some (.fz (.str (kst κ))), some (.fz (.dic (dictOf size es))), some (.ow (.lst (strT size (dictOf size es) κ pre))), s4, s5, s6]) (keysD (dictOf size es))
    [some (.fz (plan size es)), some (.fz (.str (kst κ))), some (.fz (.dic (dictOf size es))), some (.ow (.lst [])), none, none, none] ⟨_, _, _, rfl⟩ (by
      rintro pre n post env e ⟨s4, s5, s6, rfl⟩
      have hn : n ∈ keysD (dictOf size es) := by rw [e]; simp
      have hpl : pre.length ≤ 2000 := by
        have h2 : (keysD (dictOf size es)).length = (dictOf size es).length := by simp [keysD]
        have h3 : pre.length ≤ (keysD (dictOf size es)).length := by rw [e]; simp
        omega
      have hT := strT_len size (dictOf size es) κ pre fun m hm => key6 h m (by rw [e]; simp [hm])
      obtain ⟨s5', s6', hq⟩ := i_nstrays (size := size) (es := es) (dict_strV size es) κ hκ hn (key6 h n hn) (strT size (dictOf size es) κ pre) (by omega) s5 s6
      refine ⟨_, rfl, _, hq, some (.fz (.str n)), s5', s6', ?_⟩
      rw [strT_snoc])
  rw [e0]
  unfold sv_naive_strays
  rw [seq_nx (env' := [some (.fz (plan size es)), some (.fz (.str (kst κ))), none, none, none, none, none]) (by simp [n_check_plan h])]
  rw [seq_nx (env' := [some (.fz (plan size es)), some (.fz (.str (kst κ))), none, none, none, none, none]) (by simp [n_check_kind κ hκ])]
  rw [seq_nx (env' := [some (.fz (plan size es)), some (.fz (.str (kst κ))), some (.fz (.dic (dictOf size es))), some (.ow (.lst [])), none, none, none]) (by simp [hf])]
  rw [seq_nx (env' := [some (.fz (plan size es)), some (.fz (.str (kst κ))), some (.fz (.dic (dictOf size es))), some (.ow (.lst (strT size (dictOf size es) κ (keysD (dictOf size es))))), s4, s5, s6]) (by
    unfold q5_naive_strays
    simp only [v_sForD, v_iKeys, v_rdV, v_gtS, v_gt0, v_ok, v_fok, keys_map, h1]
    rfl)]
  rw [ret_ok (d := .lst (strL size (dictOf size es) κ)) (by
    rw [v_xU]
    simp only [v_rdB, v_gtS, v_gt0, v_ok]
    rw [sort_strays size _ κ (dict_nodup size es)]
    rfl)]
  rfl
end Pv.W54

namespace Pv.W54
theorem reps {size : Nat} {es1 es2 : List Ent} (h1 : Pg size es1) (h2 : Pg size es2) {r : List Nat} (hr0 : 1 ≤ r.length) (hc : ∀ c ∈ r, c ∈ digs size) :
    ∃ j, 1 ≤ j ∧ j ≤ r.length ∧ r.take j ∈ upTo size 3 ∧ hr (dictOf size es1) (r.take j) = hr (dictOf size es1) r ∧ hr (dictOf size es2) (r.take j) = hr (dictOf size es2) r := by
  obtain ⟨B1, hi1, hb1⟩ := n_index h1.ok
  obtain ⟨B2, hi2, hb2⟩ := n_index h2.ok
  obtain ⟨o1, o2⟩ := op_facts hb1 hb2
  obtain ⟨j, j1, j2, j3, j4, j5⟩ := rep (K size es1) (K size es2) (opB B1 B2) o1 o2 r.length r rfl hr0
  refine ⟨j, j1, j2, ?_, hr_congr j4, hr_congr j5⟩
  have hl : (r.take j).length = j := by rw [List.length_take]; omega
  refine upTo_mem.mpr ⟨by omega, ?_, fun c hc' => hc c (List.mem_of_mem_take hc')⟩
  rcases Nat.lt_or_ge 3 (r.take j).length with q | q
  · exfalso
    unfold pc at j3
    rw [List.all_eq_true] at j3
    have h3 := j3 3 (by simp; omega)
    generalize hw : r.take j = w at q hl h3
    have hl3 : (w.take 3).length = 3 := by rw [List.length_take]; omega
    have nb : ∀ es, Pg size es → ¬ isBeg (K size es) (w.take 3) := by
      rintro es hp (e | ⟨n, hn, i, hi, e⟩)
      · rw [e] at hl3; simp at hl3
      · have := (hp.keys n hn).2
        rw [e, List.length_take] at hl3
        omega
    unfold opB at h3
    rw [Bool.or_eq_true, decide_eq_true_eq, decide_eq_true_eq, hb1, hb2] at h3
    rcases h3 with h3 | h3
    · exact nb es1 h1 h3
    · exact nb es2 h2 h3
  · exact q
theorem hr_nil {size : Nat} {es : List Ent} (h : Pg size es) : hr (dictOf size es) [] = .non := by
  unfold hr
  have : readA (keysD (dictOf size es)) [] = .non := by
    unfold readA fst1 szs
    simp [ans, h.nil]
  rw [this]
end Pv.W54

namespace Pv.W54
theorem get_hr (kvs : Kvs) (r : List Nat) : get1N (.dic kvs) (readA (keysD kvs) r) = .ok (hr kvs r) := by
  unfold hr
  rcases readA_cases (keysD kvs) r with e | ⟨n, _, e⟩
  · rw [e]; rfl
  · rw [e]; rfl
theorem forD_some {β : Type} {T : Tg} {b : Sv} (g : β → D) (p : β → Option D) (I : En → Prop) : ∀ (xs : List β) (env : En), I env →
    (∀ x ∈ xs, ∀ env, I env → ∃ env2, stT T (g x) env = some env2 ∧ ((∃ d, p x = some d ∧ b env2 = .ret d) ∨ (p x = none ∧ ∃ env3, b env2 = .nx env3 ∧ I env3))) →
    (∃ d, xs.findSome? p = some d ∧ forD T b (xs.map g) env = .ret d) ∨ (xs.findSome? p = none ∧ ∃ env', forD T b (xs.map g) env = .nx env' ∧ I env')
  | [], env, h, _ => .inr ⟨rfl, env, rfl, h⟩
  | x :: xs, env, h, hs => by
    obtain ⟨env2, h1, h2⟩ := hs x List.mem_cons_self env h
    rw [List.map_cons, List.findSome?_cons]
    unfold forD
    rw [h1]
    dsimp only
    rcases h2 with ⟨d, hp, h2⟩ | ⟨hp, env3, h2, h3⟩
    · rw [hp, h2]
      exact .inl ⟨d, rfl, rfl⟩
    · rw [hp, h2]
      exact forD_some g p I xs env3 h3 fun y hy => hs y (List.mem_cons_of_mem _ hy)
theorem n_lfirst {size : Nat} {es1 es2 : List Ent} (h1 : OkP size es1) (h2 : OkP size es2) (W : List (List Nat)) (hW : ∀ w ∈ W, w.length ≤ 1000) : Fn__law_first [plan size es1, plan size es2, lstS W] = .ok (optD (W.find? (unl (dictOf size es1) (dictOf size es2)))) := by
  have e0 : Fn__law_first [plan size es1, plan size es2, lstS W] = outOf (sv__law_first [some (.fz (plan size es1)), some (.fz (plan size es2)), some (.fz (lstS W)), none, none, none]) := rfl
  have o1 := n_owners (size := size) h1.l8 fun e he => (h1.short e he).1
  have o2 := n_owners (size := size) h2.l8 fun e he => (h2.short e he).1
  have s1 := dict_strV size es1
  have s2 := dict_strV size es2
  generalize dictOf size es1 = k1 at *
  generalize dictOf size es2 = k2 at *
  have H := forD_first (T := .nm 5) (b := b2__law_first) D.str (fun env => ∃ s5, env = [some (.fz (plan size es1)), some (.fz (plan size es2)), some (.fz (lstS W)), some (.fz (.dic k1)), some (.fz (.dic k2)), s5]) (unl k1 k2) D.str W
    [some (.fz (plan size es1)), some (.fz (plan size es2)), some (.fz (lstS W)), some (.fz (.dic k1)), some (.fz (.dic k2)), none] ⟨_, rfl⟩ (by
      rintro r hr env ⟨s5, rfl⟩
      refine ⟨[some (.fz (plan size es1)), some (.fz (plan size es2)), some (.fz (lstS W)), some (.fz (.dic k1)), some (.fz (.dic k2)), some (.fz (.str r))], rfl, ?_⟩
      have r1 := n_lreach k1 r (hW r hr)
      have r2 := n_lreach k2 r (hW r hr)
      have ht : tVal (xOp neD (xM isDic get1N (rdB 3) (xCall Fn__law_reach (aCons (rdV 3) (aCons (rdV 5) aNil)))) (xM isDic get1N (rdB 4) (xCall Fn__law_reach (aCons (rdV 4) (aCons (rdV 5) aNil))))) [some (.fz (plan size es1)), some (.fz (plan size es2)), some (.fz (lstS W)), some (.fz (.dic k1)), some (.fz (.dic k2)), some (.fz (.str r))] = .ok (unl k1 k2 r) := by
        simp only [v_tVal, v_xOp, v_xM, v_xCall, v_aCons, v_aNil, v_rdV, v_rdB, v_gtS, v_gt0, v_ok, isDic, if_true, r1, r2, get_hr, v_cok, ne_hr s1 s2, v_asB]
      unfold b2__law_first q1__law_first
      cases c : unl k1 k2 r with
      | true =>
        rw [c] at ht
        exact .inl ⟨rfl, by rw [if_take ht]; rfl⟩
      | false =>
        rw [c] at ht
        exact .inr ⟨rfl, _, if_skip ht, _, rfl⟩)
  rw [e0]
  unfold sv__law_first
  rw [seq_nx (env' := [some (.fz (plan size es1)), some (.fz (plan size es2)), some (.fz (lstS W)), some (.fz (.dic k1)), some (.fz (.dic k2)), none]) (by simp [o1, o2])]
  unfold q3__law_first
  rcases H with ⟨r, hf, hr⟩ | ⟨hf, env', hr, s5, rfl⟩
  · rw [hf]
    rw [seq_ret (d := .str r) (by
      simp only [v_sFor, v_iSeq, v_rdV, v_gtS, v_gt0, v_ok, zp_lstS, v_fok]
      exact hr)]
    rfl
  · rw [hf]
    rw [seq_nx (env' := [some (.fz (plan size es1)), some (.fz (plan size es2)), some (.fz (lstS W)), some (.fz (.dic k1)), some (.fz (.dic k2)), s5]) (by
      simp only [v_sFor, v_iSeq, v_rdV, v_gtS, v_gt0, v_ok, zp_lstS, v_fok]
      exact hr)]
    rfl
/-- all rows up to a length -/
def allR (size m : Nat) : List (List Nat) := (List.range (m + 1)).flatMap (full size)
theorem n_nparting {size : Nat} {es1 es2 : List Ent} (h1 : Pg size es1) (h2 : Pg size es2) (h3 : size ≤ 3) (m : Nat) (hm : m ≤ 6) : Fn_naive_parting [plan size es1, plan size es2, .int (m : Int)] = .ok (optD ((allR size m).find? (unl (dictOf size es1) (dictOf size es2)))) := by
  have e0 : Fn_naive_parting [plan size es1, plan size es2, .int (m : Int)] = outOf (sv_naive_parting [some (.fz (plan size es1)), some (.fz (plan size es2)), some (.fz (.int (m : Int))), none, none, none, none, none, none]) := rfl
  have o1 := n_find (size := size) h1.ok.l8 fun e he => (h1.ok.short e he).1
  have o2 := n_find (size := size) h2.ok.l8 fun e he => (h2.ok.short e he).1
  have hb := n_both h1 h2
  have hcl := n_clen h3 es1 m hm
  have hrows := fun k hk => n_rows size es1 k hk
  have s1 := dict_strV size es1
  have s2 := dict_strV size es2
  generalize dictOf size es1 = k1 at *
  generalize dictOf size es2 = k2 at *
  have H := forD_some (T := .nm 5) (b := b4_naive_parting) (fun i : Nat => D.int (i : Int)) (fun k => ((full size k).find? (unl k1 k2)).map D.str) (fun env => ∃ s5 s6 s7 s8, env = [some (.fz (plan size es1)), some (.fz (plan size es2)), some (.fz (.int (m : Int))), some (.fz (.dic k1)), some (.fz (.dic k2)), s5, s6, s7, s8]) (List.range (m + 1))
    [some (.fz (plan size es1)), some (.fz (plan size es2)), some (.fz (.int (m : Int))), some (.fz (.dic k1)), some (.fz (.dic k2)), none, none, none, none] ⟨_, _, _, _, rfl⟩ (by
      rintro k hk env ⟨s5, s6, s7, s8, rfl⟩
      have hk6 : k ≤ 6 := by have := List.mem_range.mp hk; omega
      refine ⟨[some (.fz (plan size es1)), some (.fz (plan size es2)), some (.fz (.int (m : Int))), some (.fz (.dic k1)), some (.fz (.dic k2)), some (.fz (.int (k : Int))), s6, s7, s8], rfl, ?_⟩
      have HI := forD_first (T := .nm 6) (b := b2_naive_parting) D.str (fun env => ∃ s6 s7 s8, env = [some (.fz (plan size es1)), some (.fz (plan size es2)), some (.fz (.int (m : Int))), some (.fz (.dic k1)), some (.fz (.dic k2)), some (.fz (.int (k : Int))), s6, s7, s8]) (unl k1 k2) D.str (full size k)
        [some (.fz (plan size es1)), some (.fz (plan size es2)), some (.fz (.int (m : Int))), some (.fz (.dic k1)), some (.fz (.dic k2)), some (.fz (.int (k : Int))), s6, s7, s8] ⟨_, _, _, rfl⟩ (by
          rintro r hr env ⟨s6, s7, s8, rfl⟩
          refine ⟨[some (.fz (plan size es1)), some (.fz (plan size es2)), some (.fz (.int (m : Int))), some (.fz (.dic k1)), some (.fz (.dic k2)), some (.fz (.int (k : Int))), some (.fz (.str r)), s7, s8], rfl, ?_⟩
          have hrl : r.length ≤ 1000 := by have := full_len size k r hr; omega
          have r1 := n_listed k1 r hrl
          have r2 := n_listed k2 r hrl
          unfold b2_naive_parting
          rw [seq_nx (env' := [some (.fz (plan size es1)), some (.fz (plan size es2)), some (.fz (.int (m : Int))), some (.fz (.dic k1)), some (.fz (.dic k2)), some (.fz (.int (k : Int))), some (.fz (.str r)), some (.fz (readA (keysD k1) r)), some (.fz (readA (keysD k2) r))]) (by
            simp only [v_sOwn, v_oF, v_oNil, v_xCall, v_aCons, v_aNil, v_rdV, v_gtS, v_gt0, v_ok, r1, r2, v_fok, v_psS, v_ps0, v_ptS, v_pt0])]
          have ht : tVal (xOp neD (xM isDic get1N (rdB 3) (rdV 7)) (xM isDic get1N (rdB 4) (rdV 8))) [some (.fz (plan size es1)), some (.fz (plan size es2)), some (.fz (.int (m : Int))), some (.fz (.dic k1)), some (.fz (.dic k2)), some (.fz (.int (k : Int))), some (.fz (.str r)), some (.fz (readA (keysD k1) r)), some (.fz (readA (keysD k2) r))] = .ok (unl k1 k2 r) := by
            simp only [v_tVal, v_xOp, v_xM, v_rdV, v_rdB, v_gtS, v_gt0, v_ok, isDic, if_true, get_hr, v_cok, ne_hr s1 s2, v_asB]
          unfold q1_naive_parting
          cases c : unl k1 k2 r with
          | true =>
            rw [c] at ht
            exact .inl ⟨rfl, by rw [if_take ht]; rfl⟩
          | false =>
            rw [c] at ht
            exact .inr ⟨rfl, _, if_skip ht, _, _, _, rfl⟩)
      unfold b4_naive_parting q3_naive_parting
      simp only [v_sFor, v_iSeq, v_xCall, v_aCons, v_aNil, v_rdV, v_gtS, v_gt0, v_ok, hrows k hk6, zp_lstS, v_fok]
      rcases HI with ⟨r, hf, hr⟩ | ⟨hf, env', hr, t6, t7, t8, rfl⟩
      · exact .inl ⟨.str r, by rw [hf]; rfl, hr⟩
      · exact .inr ⟨by rw [hf]; rfl, _, hr, _, _, _, _, rfl⟩)
  have hfs : (List.range (m + 1)).findSome? (fun k => ((full size k).find? (unl k1 k2)).map D.str) = ((allR size m).find? (unl k1 k2)).map D.str := by
    unfold allR
    rw [List.find?_flatMap]
    generalize List.range (m + 1) = l
    induction l with
    | nil => rfl
    | cons k l ih =>
      rw [List.findSome?_cons, List.findSome?_cons]
      cases (full size k).find? (unl k1 k2) with
      | none => exact ih
      | some r => rfl
  rw [hfs] at H
  rw [e0]
  unfold sv_naive_parting
  rw [seq_nx (env' := [some (.fz (plan size es1)), some (.fz (plan size es2)), some (.fz (.int (m : Int))), none, none, none, none, none, none]) (by simp [hb])]
  rw [seq_nx (env' := [some (.fz (plan size es1)), some (.fz (plan size es2)), some (.fz (.int (m : Int))), none, none, none, none, none, none]) (by simp [hcl])]
  rw [seq_nx (env' := [some (.fz (plan size es1)), some (.fz (plan size es2)), some (.fz (.int (m : Int))), some (.fz (.dic k1)), some (.fz (.dic k2)), none, none, none, none]) (by simp [o1, o2])]
  have hr := rng1_ok (n := m + 1) (by omega)
  rw [show ((m + 1 : Nat) : Int) = (m : Int) + 1 from by omega] at hr
  unfold q5_naive_parting
  rcases H with ⟨d, hf, hd⟩ | ⟨hf, env', hd, s5, s6, s7, s8, rfl⟩
  · rw [seq_ret (d := d) (by
      simp only [v_sFor, v_iR1, v_xOp, v_xC, v_rdB, v_gtS, v_gt0, v_ok, v_addI, v_cok, hr, v_fok]
      exact hd)]
    cases z : (allR size m).find? (unl k1 k2) with
    | none => rw [z] at hf; cases hf
    | some r =>
      rw [z] at hf
      cases hf
      rfl
  · rw [seq_nx (env' := [some (.fz (plan size es1)), some (.fz (plan size es2)), some (.fz (.int (m : Int))), some (.fz (.dic k1)), some (.fz (.dic k2)), s5, s6, s7, s8]) (by
      simp only [v_sFor, v_iR1, v_xOp, v_xC, v_rdB, v_gtS, v_gt0, v_ok, v_addI, v_cok, hr, v_fok]
      exact hd)]
    cases z : (allR size m).find? (unl k1 k2) with
    | none => rfl
    | some r => rw [z] at hf; cases hf
theorem allR_upTo (size : Nat) : ∀ m, allR size m = [[]] ++ upTo size m
  | 0 => rfl
  | m + 1 => by
    have ih := allR_upTo size m
    unfold allR at ih ⊢
    rw [List.range_succ, List.flatMap_append, ih, upTo_succ]
    simp
theorem find_all {size : Nat} {es1 es2 : List Ent} (h1 : Pg size es1) (h2 : Pg size es2) : (allR size 4).find? (unl (dictOf size es1) (dictOf size es2)) = (diffs size es1 es2).head? := by
  rw [allR_upTo, upTo_succ]
  have h0 : unl (dictOf size es1) (dictOf size es2) [] = false := by
    unfold unl
    rw [hr_nil h1, hr_nil h2]
    rfl
  unfold diffs
  rw [List.head?_filter, List.singleton_append, List.find?_cons, h0, List.find?_append]
  dsimp only
  cases z : (upTo size 3).find? (unl (dictOf size es1) (dictOf size es2)) with
  | some r => rfl
  | none =>
    rw [Option.none_or, List.find?_eq_none]
    intro r hr
    have hl := full_len size 4 r hr
    obtain ⟨j, j1, j2, j3, j4, j5⟩ := reps h1 h2 (r := r) (by omega) (full_chars size 4 r hr)
    have := List.find?_eq_none.mp z _ j3
    intro q
    refine this ?_
    unfold unl at q ⊢
    rw [j4, j5]
    exact q
end Pv.W54

namespace Pv.W54
theorem nums_cnt {size : Nat} (hs : size ≤ 6) (p : List Nat) : (nums size p).length = cnt1 size p := by
  have key : ∀ (p : List Nat) (s : List (List Nat)) (m : Nat), s.length = m → (p.foldl (fun s c => ext (dsOf size c) s) s).length = p.foldl (fun m c => m * (if c = 120 then size else 1)) m := by
    intro p
    induction p with
    | nil => intro s m h; exact h
    | cons c p ih =>
      intro s m h
      rw [List.foldl_cons, List.foldl_cons]
      apply ih
      rw [ext_len, h]
      congr 1
      unfold dsOf
      split
      · simp [digs]; omega
      · rfl
  exact key p [[]] 1 rfl
theorem dict_cnt {size : Nat} (hs : size ≤ 6) (es : List Ent) : (dictOf size es).length ≤ cntA size es := by
  have key : ∀ (es : List Ent) (kvs : Kvs) (m : Nat), kvs.length ≤ m → (es.foldl (fun kvs e => puts e.2 kvs (nums size e.1)) kvs).length ≤ es.foldl (fun n e => n + cnt1 size e.1) m := by
    intro es
    induction es with
    | nil => intro kvs m h; exact h
    | cons e es ih =>
      intro kvs m h
      rw [List.foldl_cons, List.foldl_cons]
      apply ih
      have := puts_len e.2 (nums size e.1) kvs
      rw [nums_cnt hs] at this
      omega
  exact key es [] 0 (by simp)
theorem OkP.d200 {size : Nat} {es : List Ent} (h : OkP size es) : (dictOf size es).length ≤ 200 := Nat.le_trans (dict_cnt h.s6 es) h.ct
end Pv.W54

namespace Pv.W54
theorem cnt27 {size : Nat} (h : size ≤ 3) {p : List Nat} (hp : p.length ≤ 3) : cnt1 size p ≤ 27 := by
  have key : ∀ (p : List Nat) (m : Nat), p.foldl (fun m c => m * (if c = 120 then size else 1)) m ≤ m * 3 ^ p.length := by
    intro p
    induction p with
    | nil => intro m; simp
    | cons c p ih =>
      intro m
      rw [List.foldl_cons, List.length_cons, Nat.pow_succ]
      refine Nat.le_trans (ih _) ?_
      have : (if c = 120 then size else 1) ≤ 3 := by split <;> omega
      have h2 := Nat.mul_le_mul_left m this
      have h3 := Nat.mul_le_mul_right (3 ^ p.length) h2
      refine Nat.le_trans h3 (Nat.le_of_eq ?_)
      rw [Nat.mul_assoc, Nat.mul_comm 3]
  have h1 := key p 1
  unfold cnt1
  have h2 : 3 ^ p.length ≤ 3 ^ 3 := Nat.pow_le_pow_right (by decide) hp
  omega
theorem mk_pg {size : Nat} {es : List Ent} (h2 : 2 ≤ size) (h3 : size ≤ 3) (l1 : 1 ≤ es.length) (l6 : es.length ≤ 6) (all : ∀ e ∈ es, gd size e) (pw : es.Pairwise fun a b => a.1 < b.1) (ap : es.Pairwise fun a b => agB a.1 b.1 = false) : Pg size es := by
  refine ⟨⟨h2, by omega, l1, by omega, fun e he => ?_, fun p hp => ?_, ap, ?_⟩, fun e he => ⟨(all e he).1, (all e he).2.1⟩⟩
  · obtain ⟨g1, g2, g3, g4⟩ := all e he
    unfold okE wordB
    have a1 : (1 : Int) ≤ e.1.length := by omega
    have a2 : (e.1.length : Int) ≤ 6 := by omega
    have a3 : (e.1.all fun c => decide (c ∈ digs size ++ [120])) = true := by
      rw [List.all_eq_true]
      intro c hc
      exact decide_eq_true (g3 c hc)
    have a4 : wordB e.2 letters 1 3 = true := by
      simp only [List.mem_cons, List.not_mem_nil, or_false] at g4
      rcases g4 with q | q | q | q <;> rw [q] <;> decide
    unfold wordB at a4
    rw [a3, a4, decide_eq_true a1, decide_eq_true a2]
    rfl
  · have := pw_next pw p hp
    rw [dlt_ent, decide_eq_true_iff]
    exact .inl this
  · rw [cntA_sum]
    have key : ∀ l : List Ent, (∀ e ∈ l, gd size e) → (l.map fun e => cnt1 size e.1).sum ≤ 27 * l.length := by
      intro l
      induction l with
      | nil => intro _; simp
      | cons e l ih =>
        intro h
        have h1 := ih fun x hx => h x (List.mem_cons_of_mem _ hx)
        have h2 := cnt27 h3 (h e List.mem_cons_self).2.1
        rw [List.map_cons, List.sum_cons, List.length_cons]
        omega
    have := key es all
    omega
theorem gp_facts {size n : Nat} {es : List Ent} (hn : 1 ≤ n) (h6 : n ≤ 6) (G : Gp size n es) : 1 ≤ (srt2 es).length ∧ (srt2 es).length ≤ 6 ∧ (∀ e ∈ srt2 es, gd size e) ∧ ((srt2 es).Pairwise fun a b => a.1 < b.1) ∧ (srt2 es).Pairwise fun a b => agB a.1 b.1 = false := by
  have hperm := srt2_perm es
  have hap : (srt2 es).Pairwise fun a b => agB a.1 b.1 = false := (hperm.pairwise_iff (fun {a b} h => by rw [agB_comm]; exact h)).mpr G.ap
  refine ⟨?_, ?_, fun e he => G.all e (hperm.mem_iff.mp he), ?_, hap⟩
  · rw [hperm.length_eq]; exact G.ge (by omega)
  · rw [hperm.length_eq]; have := G.le; omega
  · have hb : (srt2 es).Pairwise fun a b => le2 a b = true ∧ agB a.1 b.1 = false := List.Pairwise.and (srt2_pw es) hap
    refine hb.imp fun {a b} h => ?_
    obtain ⟨z1, z2⟩ := h
    rw [le2_iff] at z1
    rcases sl_tri a.1 b.1 with q | q | q
    · exact q
    · rw [q, agB_self] at z2; cases z2
    · exact absurd (.inl q) z1
theorem gd_mono {s s' : Nat} (h : s ≤ s') {e : Ent} (g : gd s e) : gd s' e := by
  refine ⟨g.1, g.2.1, fun c hc => ?_, g.2.2.2⟩
  rcases List.mem_append.mp (g.2.2.1 c hc) with q | q
  · refine List.mem_append_left _ ?_
    unfold digs at q ⊢
    exact (List.take_sublist_take_left h).subset q
  · exact List.mem_append_right _ q
/-! ### reached and heard -/
theorem ne_lstS (l : List (List Nat)) : neD (lstS l) (lstS l) = .ok (.bl false) := by
  refine ne_self (by unfold lstS; rw [plain]; exact plains_strs l) ?_
  unfold lstS
  rw [dep]
  have := deps_map D.str (n := 0) (fun _ => by simp [dep]) l
  omega
theorem Pg.hc {size : Nat} {es : List Ent} (h : Pg size es) : ∃ L, Hc size es L := by
  obtain ⟨L, hL⟩ := dict_dk size es
  have hk : nos L = keysD (dictOf size es) := by rw [hL, dk_keys]
  refine ⟨L, h.ok, hL, by rw [hk]; exact dict_nodup size es, ?_, fun n hn => ?_⟩
  · have := h.ok.d200
    rw [hL] at this
    simpa [dk] using this
  · rw [hk] at hn
    obtain ⟨a, b⟩ := h.keys n hn
    obtain ⟨e, he, hx⟩ := (dict_keys es).mp hn
    exact ⟨a, b, nums_chars (h.ok.short e he).2 _ hx⟩
theorem hear_same {size : Nat} {es L : List Ent} (O : Hc size es L) (r : List Nat) : nos (HR L r) = (keysD (dictOf size es)).filter fun n => r.isSublist n := by
  rw [O.eq, dk_keys]
  unfold nos HR
  rw [List.filter_map]
  rfl
theorem n_islisted {size : Nat} {es : List Ent} (h : Pg size es) (R : List (List Nat)) (hR : ∀ r ∈ R, r.length ≤ 6 ∧ ∀ c ∈ r, c ∈ digs size) : Fn__law_is_listed [plan size es, .dic (dictOf size es), lstS R] = .ok (.bl true) := by
  have e0 : Fn__law_is_listed [plan size es, .dic (dictOf size es), lstS R] = outOf (sv__law_is_listed [some (.fz (plan size es)), some (.fz (.dic (dictOf size es))), some (.fz (lstS R)), none, none, none, none]) := rfl
  obtain ⟨L, O⟩ := h.hc
  obtain ⟨env', h1, s3, s4, s5, rfl⟩ := forD_inv (T := .nm 3) (b := b3__law_is_listed) D.str (fun env => ∃ s3 s4 s5, env = [some (.fz (plan size es)), some (.fz (.dic (dictOf size es))), some (.fz (lstS R)), s3, s4, s5, none]) R
    [some (.fz (plan size es)), some (.fz (.dic (dictOf size es))), some (.fz (lstS R)), none, none, none, none] ⟨_, _, _, rfl⟩ (by
      rintro r hr env ⟨s3, s4, s5, rfl⟩
      obtain ⟨hl, hc⟩ := hR r hr
      have hw := word_row (size := size) hl (by decide) hc
      have a1 := n_lreach (dictOf size es) r (by omega)
      have a2 := n_nreached h.ok hw (by omega)
      have a3 : Fn_reached [plan size es, .str r] = .ok (readA (keysD (dictOf size es)) r) := n_reached h.ok hw (by omega)
      have a4 := n_nhearing h.ok hw
      have a5 := O.hear hw (by omega)
      rw [hear_same O r] at a5
      obtain ⟨p1, p2⟩ := readA_plain (keysD (dictOf size es)) r
      have hns := ne_self p1 (by omega)
      refine ⟨[some (.fz (plan size es)), some (.fz (.dic (dictOf size es))), some (.fz (lstS R)), some (.fz (.str r)), s4, s5, none], rfl, [some (.fz (plan size es)), some (.fz (.dic (dictOf size es))), some (.fz (lstS R)), some (.fz (.str r)), some (.fz (readA (keysD (dictOf size es)) r)), some (.fz (lstS (srtS ((keysD (dictOf size es)).filter fun n => r.isSublist n)))), none], ?_, _, _, _, rfl⟩
      unfold b3__law_is_listed
      rw [seq_nx (asg_nm (d := readA (keysD (dictOf size es)) r) (by simp only [v_xCall, v_aCons, v_aNil, v_rdV, v_gtS, v_gt0, v_ok, a1]))]
      simp only [v_ptS, v_pt0]
      rw [seq_nx (by
        unfold q1__law_is_listed
        refine if_skip ?_
        simp only [v_tOr, v_tVal, v_xOp, v_xCall, v_aCons, v_aNil, v_rdV, v_rdB, v_gtS, v_gt0, v_ok, a2, a3, hns, v_cok, v_asB, Bool.false_eq_true, if_false])]
      have hlc : xLc (.nm 6) [6] (iKeys (rdV 1)) (tVal (xCall Fn__law_heard (aCons (rdV 6) (aCons (rdV 3) aNil)))) (rdV 6) [some (.fz (plan size es)), some (.fz (.dic (dictOf size es))), some (.fz (lstS R)), some (.fz (.str r)), some (.fz (readA (keysD (dictOf size es)) r)), s5, none] = .ok (.lst (((keysD (dictOf size es)).filter fun n => r.isSublist n).map D.str)) := by
        refine xLc_ok (α := List Nat) D.str (fun n => r.isSublist n) D.str (keysD (dictOf size es)) (by simp [keysD]) ?_
        intro n hn
        refine ⟨[some (.fz (plan size es)), some (.fz (.dic (dictOf size es))), some (.fz (lstS R)), some (.fz (.str r)), some (.fz (readA (keysD (dictOf size es)) r)), s5, some (.fz (.str n))], rfl, ?_, fun _ => rfl⟩
        have hh := n_heard (r := r) n (by omega) (by have := (h.keys n hn).2; omega)
        simp only [v_tVal, v_xCall, v_aCons, v_aNil, v_rdV, v_gtS, v_gt0, v_ok, hh, v_asB]
      rw [seq_nx (asg_nm (d := lstS (srtS ((keysD (dictOf size es)).filter fun n => r.isSublist n))) (by
        rw [v_xU, hlc, v_ok, sort_strs]
        rfl))]
      simp only [v_ptS, v_pt0]
      unfold q2__law_is_listed
      refine if_skip ?_
      simp only [v_tOr, v_tVal, v_xOp, v_xCall, v_aCons, v_aNil, v_rdV, v_rdB, v_gtS, v_gt0, v_ok, a4, a5, ne_lstS, v_cok, v_asB, Bool.false_eq_true, if_false])
  rw [e0]
  unfold sv__law_is_listed
  rw [seq_nx (env' := [some (.fz (plan size es)), some (.fz (.dic (dictOf size es))), some (.fz (lstS R)), s3, s4, s5, none]) (by
    unfold q4__law_is_listed
    simp only [v_sFor, v_iSeq, v_rdV, v_gtS, v_gt0, v_ok, zp_lstS, v_fok]
    exact h1)]
  rfl
end Pv.W54

namespace Pv.W54
section
variable {size : Nat} {es : List Ent}
/-! ### the levels -/
theorem i_lev (a b : Option Sl) (d e w z : Option Sl) (s : List (List Nat)) (s9 : Option Sl) (R : En) (hs : s.length ≤ 100000) (hw : ∀ w ∈ s, w.length ≤ 100) :
    ∃ s9', forD (.nm 9) b1_law (s.map D.str) (a :: b :: some (.fz (plan size es)) :: d :: e :: some (.fz (lstS s)) :: w :: z :: some (.ow (lstS [])) :: s9 :: none :: R) = .nx (a :: b :: some (.fz (plan size es)) :: d :: e :: some (.fz (lstS s)) :: w :: z :: some (.ow (lstS (ext (digs size) s))) :: s9' :: none :: R) := by
  obtain ⟨env', h1, s9', rfl⟩ := forD_seen (T := .nm 9) (b := b1_law) D.str (fun pre env => ∃ s9, env = a :: b :: some (.fz (plan size es)) :: d :: e :: some (.fz (lstS s)) :: w :: z :: some (.ow (lstS (ext (digs size) pre))) :: s9 :: none :: R) s
    (a :: b :: some (.fz (plan size es)) :: d :: e :: some (.fz (lstS s)) :: w :: z :: some (.ow (lstS [])) :: s9 :: none :: R) ⟨s9, by simp [ext]⟩ (by
      rintro pre v post env eq ⟨s9, rfl⟩
      have hwl := hw v (by rw [eq]; simp)
      have hpl : pre.length ≤ 100000 := by have := congrArg List.length eq; simp at this; omega
      refine ⟨a :: b :: some (.fz (plan size es)) :: d :: e :: some (.fz (lstS s)) :: w :: z :: some (.ow (lstS (ext (digs size) pre))) :: some (.fz (.str v)) :: none :: R, rfl, a :: b :: some (.fz (plan size es)) :: d :: e :: some (.fz (lstS s)) :: w :: z :: some (.ow (lstS (ext (digs size) (pre ++ [v])))) :: some (.fz (.str v)) :: none :: R, ?_, _, rfl⟩
      have hz : ∀ l, zpD (.str l) = .ok (l.map ch) := fun _ => rfl
      have x0 : ixD (plan size es) (.int 0) = .ok (.int (size : Int)) := ix_tup (at0 _ _)
      have hl := xLc_map (T := .nm 10) (own := [10]) (iv := iSeq (xSl (xC (.str [48, 49, 50, 51, 52, 53])) none (some (xOp ixD (rdB 2) (xC (.int 0)))))) (e := xOp addD (rdB 9) (rdB 10)) (env := a :: b :: some (.fz (plan size es)) :: d :: e :: some (.fz (lstS s)) :: w :: z :: some (.ow (lstS (ext (digs size) pre))) :: some (.fz (.str v)) :: none :: R) ch (fun d => .str (v ++ [d])) (digs size) (by simp [x0, sl_digs, hz, show asI (.int (size : Int)) = .ok (size : Int) from rfl]) (fun d _ => ⟨_, rfl, by simp [-v_addS, add_ch d hwl]⟩)
      rw [strs_ext] at hl
      unfold b1_law
      rw [ext_str (L := ext (digs size) pre) (M := (digs size).map fun d => v ++ [d]) rfl hl (by
        have h1 := digs_len size
        rw [ext_len, List.length_map]
        have := Nat.mul_le_mul hpl h1
        omega), ext_snoc]
      rfl)
  exact ⟨s9', h1⟩
theorem q5_ok (h : Pg size es) (h3 : size ≤ 3) (a b d e s7 s8 s9 : Option Sl) (R : En) : ∃ t7 t8 t9, q5_law (a :: b :: some (.fz (plan size es)) :: d :: e :: some (.fz (lstS [[]])) :: some (.fz (lstS [[]])) :: s7 :: s8 :: s9 :: none :: R) = .nx (a :: b :: some (.fz (plan size es)) :: d :: e :: some (.fz (lstS (full size 4))) :: some (.fz (lstS (allR size 4))) :: t7 :: t8 :: t9 :: none :: R) := by
  obtain ⟨env', h1, t7, t8, t9, rfl⟩ := forD_seen (T := .nm 7) (b := b4_law) (fun i : Nat => D.int (i : Int)) (fun pre env => ∃ s7 s8 s9, env = a :: b :: some (.fz (plan size es)) :: d :: e :: some (.fz (lstS (full size pre.length))) :: some (.fz (lstS (allR size pre.length))) :: s7 :: s8 :: s9 :: none :: R) [1, 2, 3, 4]
    (a :: b :: some (.fz (plan size es)) :: d :: e :: some (.fz (lstS [[]])) :: some (.fz (lstS [[]])) :: s7 :: s8 :: s9 :: none :: R) ⟨s7, s8, s9, rfl⟩ (by
      rintro pre k post env eq ⟨s7, s8, s9, rfl⟩
      have hk : k = pre.length + 1 ∧ pre.length < 4 := by
        match pre, eq with
        | [], eq => simp at eq; simp; omega
        | [_], eq => simp at eq; simp; omega
        | [_, _], eq => simp at eq; simp; omega
        | [_, _, _], eq => simp at eq; simp; omega
        | _ :: _ :: _ :: _ :: _, eq => simp at eq
      obtain ⟨hk, hp4⟩ := hk
      have hc := full_cnt size pre.length
      have hpow : 6 ^ pre.length ≤ 6 ^ 4 := Nat.pow_le_pow_right (by decide) (by omega)
      have hc2 := full_cnt size (pre.length + 1)
      have hpow2 : 6 ^ (pre.length + 1) ≤ 6 ^ 5 := Nat.pow_le_pow_right (by decide) (by omega)
      obtain ⟨s9', hi⟩ := i_lev (size := size) (es := es) a b d e (some (.fz (lstS (allR size pre.length)))) (some (.fz (.int (k : Int)))) (full size pre.length) s9 R (by omega) (fun w hw => by have := full_len size _ w hw; omega)
      refine ⟨a :: b :: some (.fz (plan size es)) :: d :: e :: some (.fz (lstS (full size pre.length))) :: some (.fz (lstS (allR size pre.length))) :: some (.fz (.int (k : Int))) :: s8 :: s9 :: none :: R, rfl, a :: b :: some (.fz (plan size es)) :: d :: e :: some (.fz (lstS (full size (pre ++ [k]).length))) :: some (.fz (lstS (allR size (pre ++ [k]).length))) :: some (.fz (.int (k : Int))) :: some (.fz (lstS (full size (pre ++ [k]).length))) :: s9' :: none :: R, ?_, _, _, _, rfl⟩
      have hfull : full size (pre.length + 1) = ext (digs size) (full size pre.length) := rfl
      have hall : allR size (pre.length + 1) = allR size pre.length ++ full size (pre.length + 1) := by
        unfold allR
        rw [List.range_succ, List.flatMap_append]
        simp
      have hal : (allR size pre.length).length ≤ 100000 := by
        have key : ∀ m, m ≤ 4 → (allR size m).length ≤ 10000 * (m + 1) := by
          intro m
          induction m with
          | zero => intro _; simp [allR, full]
          | succ m ih =>
            intro hm
            have e1 : allR size (m + 1) = allR size m ++ full size (m + 1) := by
              unfold allR
              rw [List.range_succ, List.flatMap_append]
              simp
            have := ih (by omega)
            have h2 := full_cnt size (m + 1)
            have h3 : 6 ^ (m + 1) ≤ 6 ^ 4 := Nat.pow_le_pow_right (by decide) (by omega)
            rw [e1, List.length_append]
            omega
        have := key pre.length (by omega)
        omega
      rw [List.length_append, List.length_singleton]
      unfold b4_law
      rw [seq_nx (env' := a :: b :: some (.fz (plan size es)) :: d :: e :: some (.fz (lstS (full size pre.length))) :: some (.fz (lstS (allR size pre.length))) :: some (.fz (.int (k : Int))) :: some (.ow (lstS [])) :: s9 :: none :: R) (by simp [lstS])]
      rw [seq_nx (env' := a :: b :: some (.fz (plan size es)) :: d :: e :: some (.fz (lstS (full size pre.length))) :: some (.fz (lstS (allR size pre.length))) :: some (.fz (.int (k : Int))) :: some (.ow (lstS (full size (pre.length + 1)))) :: s9' :: none :: R) (by
        unfold q2_law
        simp only [v_sFor, v_iSeq, v_rdV, v_gtS, v_gt0, v_ok, zp_lstS, v_fok]
        exact hi)]
      have had := add_lstS (a := allR size pre.length) (b := full size (pre.length + 1)) (by omega)
      rw [seq_nx (env' := a :: b :: some (.fz (plan size es)) :: d :: e :: some (.fz (lstS (full size (pre.length + 1)))) :: some (.fz (lstS (allR size (pre.length + 1)))) :: some (.fz (.int (k : Int))) :: some (.fz (lstS (full size (pre.length + 1)))) :: s9' :: none :: R) (by
        rw [hall]
        simp only [v_sFrz, v_frz, v_gtS, v_gt0, v_ptS, v_pt0, v_sOwn, v_oF, v_oNil, v_rdV, v_rdB, v_ok, v_xOp, had, v_cok, v_fok, v_psS, v_ps0])]
      unfold q3_law
      refine if_skip ?_
      have har := n_allrows h.ok h3 (pre.length + 1) (by omega)
      rw [← hk] at har
      simp only [v_tVal, v_xOp, v_xCall, v_aCons, v_aNil, v_rdV, v_rdB, v_gtS, v_gt0, v_ok, har]
      rw [hk]
      simp only [ne_lstS, v_cok, v_ok, v_asB])
  refine ⟨t7, t8, t9, ?_⟩
  unfold q5_law
  have hr : rng2 (.int 1) (.int 5) = .ok ([1, 2, 3, 4].map fun (i : Nat) => D.int (i : Int)) := by
    have := sz_rng (r := [0, 0, 0, 0]) (by decide)
    simpa [szs, List.range_succ] using this
  simp only [v_sFor, v_iR2, v_xC, v_ok, hr, v_fok]
  exact h1
/-! ### the law's strays -/
theorem i_due {kvs : Kvs} (hs : strV kvs) (κ : Nat) (hκ : κ < 4) {n : List Nat} (hn : n ∈ keysD kvs) (hl : n.length ≤ 6) (A : List D) (hA : A.length ≤ 1000000) (a b d e5 e6 e7 e8 s9 e10 s14 : Option Sl) (R : En) :
    ∃ s9' s14', q8_law (a :: b :: some (.fz (plan size es)) :: d :: some (.fz (.dic kvs)) :: e5 :: e6 :: e7 :: e8 :: s9 :: e10 :: some (.fz (.str (kst κ))) :: some (.ow (.lst A)) :: some (.fz (.str n)) :: s14 :: R) = .nx (a :: b :: some (.fz (plan size es)) :: d :: some (.fz (.dic kvs)) :: e5 :: e6 :: e7 :: e8 :: s9' :: e10 :: some (.fz (.str (kst κ))) :: some (.ow (.lst (A ++ str1 size kvs κ n))) :: some (.fz (.str n)) :: s14' :: R) := by
  have hsl := slS_len size n κ hl
  obtain ⟨env', h1, s9', s14', rfl⟩ := forD_seen (T := .nm 9) (b := b7_law) D.str
    (fun pre env => ∃ s9 s14, env = a :: b :: some (.fz (plan size es)) :: d :: some (.fz (.dic kvs)) :: e5 :: e6 :: e7 :: e8 :: s9 :: e10 :: some (.fz (.str (kst κ))) :: some (.ow (.lst (A ++ (pre.filter (isS kvs n)).map (tri kvs n)))) :: some (.fz (.str n)) :: s14 :: R) (slS size n κ)
    (a :: b :: some (.fz (plan size es)) :: d :: some (.fz (.dic kvs)) :: e5 :: e6 :: e7 :: e8 :: s9 :: e10 :: some (.fz (.str (kst κ))) :: some (.ow (.lst A)) :: some (.fz (.str n)) :: s14 :: R) ⟨s9, s14, by simp⟩ (by
      rintro pre r post env e ⟨s9, s14, rfl⟩
      have hr : r.length ≤ 1000 := by have := sl_len (size := size) (n := n) (κ := κ) (w := r) (by rw [e]; simp); omega
      have hrd := n_lreach kvs r hr
      have hpl : pre.length ≤ 36 := by
        have : pre.length ≤ (slS size n κ).length := by rw [e]; simp
        omega
      have hlen : (A ++ (pre.filter (isS kvs n)).map (tri kvs n)).length + 1 ≤ LIM := by
        rw [List.length_append, List.length_map]
        have := List.length_filter_le (isS kvs n) pre
        show _ ≤ 16777216
        omega
      refine ⟨a :: b :: some (.fz (plan size es)) :: d :: some (.fz (.dic kvs)) :: e5 :: e6 :: e7 :: e8 :: some (.fz (.str r)) :: e10 :: some (.fz (.str (kst κ))) :: some (.ow (.lst (A ++ (pre.filter (isS kvs n)).map (tri kvs n)))) :: some (.fz (.str n)) :: s14 :: R, rfl, a :: b :: some (.fz (plan size es)) :: d :: some (.fz (.dic kvs)) :: e5 :: e6 :: e7 :: e8 :: some (.fz (.str r)) :: e10 :: some (.fz (.str (kst κ))) :: some (.ow (.lst (A ++ ((pre ++ [r]).filter (isS kvs n)).map (tri kvs n)))) :: some (.fz (.str n)) :: some (.fz (readA (keysD kvs) r)) :: R, ?_, _, _, rfl⟩
      rw [List.filter_append]
      generalize hM : (pre.filter (isS kvs n)).map (tri kvs n) = M at hlen
      rw [List.map_append, hM]
      unfold b7_law
      rw [seq_nx (asg_nm (d := readA (keysD kvs) r) (by simp only [v_xCall, v_aCons, v_aNil, v_rdV, v_gtS, v_gt0, v_ok, hrd]))]
      simp only [v_ptS, v_pt0]
      have ht := st_test hs hn (r := r) (a := rdB 14) (b := rdB 4) (c := rdB 13) (env := a :: b :: some (.fz (plan size es)) :: d :: some (.fz (.dic kvs)) :: e5 :: e6 :: e7 :: e8 :: some (.fz (.str r)) :: e10 :: some (.fz (.str (kst κ))) :: some (.ow (.lst (A ++ M))) :: some (.fz (.str n)) :: some (.fz (readA (keysD kvs) r)) :: R) rfl rfl rfl
      rw [v_sExt, v_xIf, ht, v_ok]
      simp only [v_gtS, v_gt0]
      cases hq : isS kvs n r with
      | false =>
        have hl2 : (A ++ M).length ≤ LIM := by omega
        simp only [Bool.false_eq_true, if_false, v_xLst, v_aNil, v_ok, List.length_nil, Nat.zero_le, if_true, v_fok, exD, Nat.add_zero, hl2, List.append_nil, v_ptS, v_pt0]
        simp [hq]
      | true =>
        have htu : xTup (aCons (rdV 13) (aCons (rdV 9) (aCons (rdV 14) aNil))) (a :: b :: some (.fz (plan size es)) :: d :: some (.fz (.dic kvs)) :: e5 :: e6 :: e7 :: e8 :: some (.fz (.str r)) :: e10 :: some (.fz (.str (kst κ))) :: some (.ow (.lst (A ++ M))) :: some (.fz (.str n)) :: some (.fz (readA (keysD kvs) r)) :: R) = .ok (tri kvs n r) := by
          unfold tri
          simp
        have h1l : (0 + 1 ≤ LIM) = True := by simp
        simp only [if_true, v_xLst, v_aCons, v_aNil, htu, v_ok, List.length_cons, List.length_nil, h1l, v_fok, exD, Nat.zero_add, hlen, v_ptS, v_pt0]
        simp [hq, List.append_assoc])
  refine ⟨s9', s14', ?_⟩
  unfold q8_law
  have hsl2 := n_lslips size es n κ hκ hl
  simp only [v_sFor, v_iSeq, v_xCall, v_aCons, v_aNil, v_rdV, v_gtS, v_gt0, v_ok, hsl2, zp_lstS, v_fok]
  exact h1
theorem q10_ok (h : OkP size es) (hd : (dictOf size es).length ≤ 2000) (κ : Nat) (hκ : κ < 4) (a b d e5 e6 e7 e8 s9 e10 s13 s14 : Option Sl) (R : En) :
    ∃ t9 t13 t14, q10_law (a :: b :: some (.fz (plan size es)) :: d :: some (.fz (.dic (dictOf size es))) :: e5 :: e6 :: e7 :: e8 :: s9 :: e10 :: some (.fz (.str (kst κ))) :: some (.ow (.lst [])) :: s13 :: s14 :: R) = .nx (a :: b :: some (.fz (plan size es)) :: d :: some (.fz (.dic (dictOf size es))) :: e5 :: e6 :: e7 :: e8 :: t9 :: e10 :: some (.fz (.str (kst κ))) :: some (.ow (.lst (strT size (dictOf size es) κ (keysD (dictOf size es))))) :: t13 :: t14 :: R) := by
  obtain ⟨env', h1, t9, t13, t14, rfl⟩ := forD_seen (T := .nm 13) (b := b9_law) D.str
    (fun pre env => ∃ s9 s13 s14, env = a :: b :: some (.fz (plan size es)) :: d :: some (.fz (.dic (dictOf size es))) :: e5 :: e6 :: e7 :: e8 :: s9 :: e10 :: some (.fz (.str (kst κ))) :: some (.ow (.lst (strT size (dictOf size es) κ pre))) :: s13 :: s14 :: R) (keysD (dictOf size es))
    (a :: b :: some (.fz (plan size es)) :: d :: some (.fz (.dic (dictOf size es))) :: e5 :: e6 :: e7 :: e8 :: s9 :: e10 :: some (.fz (.str (kst κ))) :: some (.ow (.lst [])) :: s13 :: s14 :: R) ⟨_, _, _, rfl⟩ (by
      rintro pre n post env e ⟨s9, s13, s14, rfl⟩
      have hn : n ∈ keysD (dictOf size es) := by rw [e]; simp
      have hpl : pre.length ≤ 2000 := by
        have h2 : (keysD (dictOf size es)).length = (dictOf size es).length := by simp [keysD]
        have h3 : pre.length ≤ (keysD (dictOf size es)).length := by rw [e]; simp
        omega
      have hT := strT_len size (dictOf size es) κ pre fun m hm => key6 h m (by rw [e]; simp [hm])
      obtain ⟨s9', s14', hq⟩ := i_due (size := size) (es := es) (dict_strV size es) κ hκ hn (key6 h n hn) (strT size (dictOf size es) κ pre) (by omega) a b d e5 e6 e7 e8 s9 e10 s14 R
      refine ⟨_, rfl, _, hq, s9', some (.fz (.str n)), s14', ?_⟩
      rw [strT_snoc])
  refine ⟨t9, t13, t14, ?_⟩
  unfold q10_law
  simp only [v_sForD, v_iKeys, v_rdV, v_gtS, v_gt0, v_ok, v_fok, keys_map, h1]
  rfl
end
end Pv.W54

namespace Pv.W54
theorem ne_optD (o : Option (List Nat)) : neD (optD o) (optD o) = .ok (.bl false) := by
  cases o with
  | none => rfl
  | some r => exact ne_self rfl (by simp [optD, dep])
theorem cut_last {α : Type} (Q : List α) (e : α) : cutD (Q ++ [e]) none (some (-1)) = Q := by
  have h1 : sIx (Q ++ [e]).length 0 none = 0 := rfl
  have h2 : sIx (Q ++ [e]).length (Q ++ [e]).length (some (-1)) = Q.length := by
    show (if (-1 : Int) < 0 then max ((-1 : Int) + (((Q ++ [e]).length : Nat) : Int)) 0 else _).toNat = _
    rw [if_pos (by decide), List.length_append, List.length_singleton]
    omega
  unfold cutD
  rw [h1, h2, List.drop_zero, Nat.sub_zero, List.take_append_of_le_length (by simp), List.take_of_length_le (by simp)]
theorem ix_last (Q : List D) (e : D) : ixD (.tup (Q ++ [e])) (.int (-1)) = .ok e := by
  refine ix_tup ?_
  unfold atD ixN
  rw [if_neg (by omega), if_pos (by simp; omega)]
  have : (-1 + ((Q ++ [e]).length : Int)).toNat = Q.length := by simp; omega
  rw [this]
  simp
/-- the other plan of the law -/
theorem other_ok {s1 s2 n1 n2 : Nat} {es1 es2 : List Ent} (h12 : 2 ≤ s1) (h13 : s1 ≤ 3) (g1 : 1 ≤ n1) (g2 : n1 ≤ 6) (g3 : 1 ≤ n2) (g4 : n2 ≤ 6) (G1 : Gp s1 n1 es1) (G2 : Gp s2 n2 es2) (a b e4 e5 e6 e7 e8 e9 e10 e11 e12 e13 e14 s15 s16 s17 : Option Sl) :
    ∃ c15 es3, Pg s1 es3 ∧ ∀ {r : Sv}, (sSeq (sAsg (.nm 15) (xOp addD (xSl (xOp ixD (rdB 2) (xC (.int 1))) none (some (xC (.int (-1))))) (xTup (aCons (xTup (aCons (xOp ixD (xOp ixD (xOp ixD (rdB 2) (xC (.int 1))) (xC (.int (-1)))) (xC (.int 0))) (aCons (xC (.str [100])) aNil))) aNil))))
  (sSeq (sAsg (.nm 3) (xTup (aCons (xOp ixD (rdB 2) (xC (.int 0))) (aCons (xIf (tVal (xOp leD (xOp ixD (rdB 3) (xC (.int 0))) (xOp ixD (rdB 2) (xC (.int 0))))) (xOp ixD (rdB 3) (xC (.int 1))) (rdV 15)) aNil)))) r)) (a :: b :: some (.fz (plan s1 (srt2 es1))) :: some (.fz (plan s2 (srt2 es2))) :: e4 :: e5 :: e6 :: e7 :: e8 :: e9 :: e10 :: e11 :: e12 :: e13 :: e14 :: s15 :: s16 :: s17 :: []) = r (a :: b :: some (.fz (plan s1 (srt2 es1))) :: some (.fz (plan s1 es3)) :: e4 :: e5 :: e6 :: e7 :: e8 :: e9 :: e10 :: e11 :: e12 :: e13 :: e14 :: c15 :: s16 :: s17 :: []) := by
  obtain ⟨p1, p2, p3, p4, p5⟩ := gp_facts g1 g2 G1
  obtain ⟨q1, q2, q3, q4, q5⟩ := gp_facts g3 g4 G2
  obtain ⟨Q, e, hQ⟩ : ∃ Q e, srt2 es1 = Q ++ [e] := by
    have hne : srt2 es1 ≠ [] := fun z => by rw [z] at p1; simp at p1
    exact ⟨(srt2 es1).dropLast, (srt2 es1).getLast hne, (List.dropLast_concat_getLast hne).symm⟩
  rw [hQ] at p1 p2 p3 p4 p5 ⊢
  have x1 : ixD (plan s1 (Q ++ [e])) (.int 1) = .ok (.tup ((Q ++ [e]).map ent)) := ix_tup (at1 _ _ _)
  have x0 : ixD (plan s1 (Q ++ [e])) (.int 0) = .ok (.int (s1 : Int)) := ix_tup (at0 _ _)
  have y1 : ixD (plan s2 (srt2 es2)) (.int 1) = .ok (.tup ((srt2 es2).map ent)) := ix_tup (at1 _ _ _)
  have y0 : ixD (plan s2 (srt2 es2)) (.int 0) = .ok (.int (s2 : Int)) := ix_tup (at0 _ _)
  have xl : ixD (.tup ((Q ++ [e]).map ent)) (.int (-1)) = .ok (ent e) := by rw [List.map_append]; exact ix_last (Q.map ent) (ent e)
  have xe : ixD (ent e) (.int 0) = .ok (.str e.1) := ix_tup (at0 _ _)
  have hsl : slD none (some (-1)) (.tup ((Q ++ [e]).map ent)) = .ok (.tup (Q.map ent)) := by
    show Res.ok (D.tup (cutD _ _ _)) = _
    rw [List.map_append, List.map_singleton, cut_last]
  have hlQ : Q.length ≤ 5 := by simp at p2; omega
  have had : addD (.tup (Q.map ent)) (.tup [.tup [.str e.1, .str [100]]]) = .ok (.tup ((Q ++ [(e.1, [100])]).map ent)) := by
    rw [v_addT, if_pos (by rw [List.length_map]; show _ ≤ 16777216; simp; omega), List.map_append]
    rfl
  have hasg : sAsg (.nm 15) (xOp addD (xSl (xOp ixD (rdB 2) (xC (.int 1))) none (some (xC (.int (-1))))) (xTup (aCons (xTup (aCons (xOp ixD (xOp ixD (xOp ixD (rdB 2) (xC (.int 1))) (xC (.int (-1)))) (xC (.int 0))) (aCons (xC (.str [100])) aNil))) aNil))) (a :: b :: some (.fz (plan s1 (Q ++ [e]))) :: some (.fz (plan s2 (srt2 es2))) :: e4 :: e5 :: e6 :: e7 :: e8 :: e9 :: e10 :: e11 :: e12 :: e13 :: e14 :: s15 :: s16 :: s17 :: []) = .nx (pt (a :: b :: some (.fz (plan s1 (Q ++ [e]))) :: some (.fz (plan s2 (srt2 es2))) :: e4 :: e5 :: e6 :: e7 :: e8 :: e9 :: e10 :: e11 :: e12 :: e13 :: e14 :: s15 :: s16 :: s17 :: []) 15 (some (.fz (.tup ((Q ++ [(e.1, [100])]).map ent))))) := asg_nm (by
    simp only [v_xOp, v_xSl, v_oIn, v_oIs, v_xTup, v_aCons, v_aNil, v_rdB, v_gtS, v_gt0, v_ok, v_xC, x1, v_cok, show asI (.int (-1)) = .ok (-1) from rfl, hsl, xl, xe, List.length_cons, List.length_nil, show (0 + 1 ≤ LIM) = True from by simp, show (0 + 1 + 1 ≤ LIM) = True from by simp, if_true, had])
  by_cases c : s2 ≤ s1
  · refine ⟨some (.fz (.tup ((Q ++ [(e.1, [100])]).map ent))), srt2 es2, mk_pg h12 h13 q1 q2 (fun x hx => gd_mono c (q3 x hx)) q4 q5, fun {r} => ?_⟩
    rw [seq_nx hasg]
    simp only [v_ptS, v_pt0]
    rw [seq_nx (asg_nm (d := plan s1 (srt2 es2)) (by
      have hle : decide ((s2 : Int) ≤ (s1 : Int)) = true := decide_eq_true (by omega)
      simp only [v_xTup, v_aCons, v_aNil, v_xIf, v_tVal, v_xOp, v_rdB, v_gtS, v_gt0, v_ok, v_xC, x0, y0, y1, v_cok, v_leI, hle, v_asB, if_true, List.length_cons, List.length_nil, show (0 + 1 + 1 ≤ LIM) = True from by simp]
      rfl))]
    simp only [v_ptS, v_pt0]
  · refine ⟨some (.fz (.tup ((Q ++ [(e.1, [100])]).map ent))), Q ++ [(e.1, [100])], ?_, fun {r} => ?_⟩
    · rw [List.pairwise_append] at p4 p5
      refine mk_pg h12 h13 (by simp) (by simp; omega) (fun x hx => ?_) ?_ ?_
      · rcases List.mem_append.mp hx with z | z
        · exact p3 x (List.mem_append_left _ z)
        · rw [List.mem_singleton] at z
          rw [z]
          have := p3 e (by simp)
          exact ⟨this.1, this.2.1, this.2.2.1, by simp⟩
      · rw [List.pairwise_append]
        refine ⟨p4.1, List.pairwise_singleton _ _, fun x hx y hy => ?_⟩
        rw [List.mem_singleton] at hy
        rw [hy]
        exact p4.2.2 x hx e (by simp)
      · rw [List.pairwise_append]
        refine ⟨p5.1, List.pairwise_singleton _ _, fun x hx y hy => ?_⟩
        rw [List.mem_singleton] at hy
        rw [hy]
        exact p5.2.2 x hx e (by simp)
    · rw [seq_nx hasg]
      simp only [v_ptS, v_pt0]
      rw [seq_nx (asg_nm (d := plan s1 (Q ++ [(e.1, [100])])) (by
        have hle : decide ((s2 : Int) ≤ (s1 : Int)) = false := decide_eq_false (by omega)
        simp only [v_xTup, v_aCons, v_aNil, v_xIf, v_tVal, v_xOp, v_rdB, v_gtS, v_gt0, v_ok, v_xC, x0, y0, y1, v_cok, v_leI, hle, v_asB, if_true, Bool.false_eq_true, if_false, v_rdV, List.length_cons, List.length_nil, show (0 + 1 + 1 ≤ LIM) = True from by simp]
        rfl))]
      simp only [v_ptS, v_pt0]
end Pv.W54

namespace Pv.W54
theorem turn_ok (ns : List Int) (hl' : ns.length < 1000) (i : Nat) (s2 s3 s4 s5 s6 s7 s8 s9 s11 s12 s13 s14 s15 s16 s17 : Option Sl) :
    ∃ t2 t3 t4 t5 t6 t7 t8 t9 t11 t12 t13 t14 t15 t16, b13_law [some (.fz (scr ns)), some (.fz (.int (i : Int))), s2, s3, s4, s5, s6, s7, s8, s9, none, s11, s12, s13, s14, s15, s16, s17] = .nx [some (.fz (scr ns)), some (.fz (.int (i : Int))), t2, t3, t4, t5, t6, t7, t8, t9, none, t11, t12, t13, t14, t15, t16, s17] := by
  obtain ⟨z1, es1, n1, hp1, G1, g1, g2, a2, a3⟩ := n_plan ns (130 * (i : Int)) (by omega) hl'
  obtain ⟨z2, es2, n2, hp2, G2, g3, g4, b2, b3⟩ := n_plan ns (130 * (i : Int) + 60) (by omega) hl'
  obtain ⟨f1, f2, f3, f4, f5⟩ := gp_facts g1 g2 G1
  have P1 : Pg z1 (srt2 es1) := mk_pg a2 a3 f1 f2 f3 f4 f5
  have hp1' : Fn__law_plan [scr ns, .int (130 * (i : Int))] = .ok (plan z1 (srt2 es1)) := hp1
  have hp2' : Fn__law_plan [scr ns, .int (130 * (i : Int) + 60)] = .ok (plan z2 (srt2 es2)) := hp2
  have how := n_owners (size := z1) P1.ok.l8 fun e he => (P1.ok.short e he).1
  have hd : (dictOf z1 (srt2 es1)).length ≤ 2000 := by have := P1.ok.d200; omega
  have hmul : mulD (.int 130) (.int (i : Int)) = .ok (.int (130 * (i : Int))) := by
    rw [v_mulI, if_pos (.inl ⟨by decide, by decide⟩)]
  unfold b13_law
  rw [seq_nx (env' := [some (.fz (scr ns)), some (.fz (.int (i : Int))), some (.fz (plan z1 (srt2 es1))), some (.fz (plan z2 (srt2 es2))), s4, s5, s6, s7, s8, s9, none, s11, s12, s13, s14, s15, s16, s17]) (by
    simp only [v_sOwn, v_oF, v_oNil, v_xCall, v_aCons, v_aNil, v_rdV, v_rdB, v_gtS, v_gt0, v_ok, v_xOp, v_xC, hmul, v_cok, v_addI, hp1', hp2', v_fok, v_psS, v_ps0, v_ptS, v_pt0])]
  rw [seq_nx (env' := [some (.fz (scr ns)), some (.fz (.int (i : Int))), some (.fz (plan z1 (srt2 es1))), some (.fz (plan z2 (srt2 es2))), some (.fz (.dic (dictOf z1 (srt2 es1)))), some (.fz (lstS [[]])), some (.fz (lstS [[]])), s7, s8, s9, none, s11, s12, s13, s14, s15, s16, s17]) (by
    simp only [v_sOwn, v_oF, v_oNil, v_xCall, v_aCons, v_aNil, v_rdV, v_gtS, v_gt0, v_ok, how, v_xLst, v_xC, List.length_cons, List.length_nil, show (0 + 1 ≤ LIM) = True from by simp, if_true, v_fok, v_psS, v_ps0, v_ptS, v_pt0]
    rfl)]
  obtain ⟨t7, t8, t9, hq5⟩ := q5_ok P1 a3 (some (.fz (scr ns))) (some (.fz (.int (i : Int)))) (some (.fz (plan z2 (srt2 es2)))) (some (.fz (.dic (dictOf z1 (srt2 es1))))) s7 s8 s9 [s11, s12, s13, s14, s15, s16, s17]
  rw [seq_nx hq5]
  obtain ⟨r6, hr6, hc6, hrow⟩ := n_row ns (130 * (i : Int) + 121) z1 (srt2 es1) 6 (by omega) hl' (by omega) (by omega) (by decide)
  have hlist := n_islisted P1 ((allR z1 4).take 20 ++ [r6]) (by
    intro r hr
    rcases List.mem_append.mp hr with q | q
    · have := List.mem_of_mem_take q
      unfold allR at this
      obtain ⟨k, hk, hm⟩ := List.mem_flatMap.mp this
      have h1 := full_len z1 k r hm
      have h2 := List.mem_range.mp hk
      exact ⟨by omega, full_chars z1 k r hm⟩
    · rw [List.mem_singleton] at q
      rw [q]
      exact ⟨by omega, hc6⟩)
  have hsl20 : slD none (some 20) (lstS (allR z1 4)) = .ok (lstS ((allR z1 4).take 20)) := by
    show Res.ok (D.lst (cutD _ _ _)) = _
    have := cut_pre ((allR z1 4).map D.str) 20
    rw [show ((20 : Nat) : Int) = 20 from rfl] at this
    rw [this, ← List.map_take]
    rfl
  have hadl : addD (lstS ((allR z1 4).take 20)) (.lst [.str r6]) = .ok (lstS ((allR z1 4).take 20 ++ [r6])) := by
    have := add_lstS (a := (allR z1 4).take 20) (b := [r6]) (by rw [List.length_take]; simp; omega)
    exact this
  rw [seq_nx (by
    unfold q6_law
    refine if_skip ?_
    have h6 : (.int 6 : D) = .int ((6 : Nat) : Int) := rfl
    have hrow' : Fn__law_row [scr ns, .int (130 * (i : Int) + 121), plan z1 (srt2 es1), .int 6] = .ok (.str r6) := hrow
    simp only [v_tNt, v_tVal, v_xCall, v_aCons, v_aNil, v_xOp, v_xSl, v_oIn, v_oIs, v_xLst, v_rdV, v_rdB, v_gtS, v_gt0, v_ok, v_xC, show asI (.int 20) = .ok 20 from rfl, hsl20, v_cok, hmul, v_addI, hrow', List.length_cons, List.length_nil, show (0 + 1 ≤ LIM) = True from by simp, if_true, hadl, hlist, v_asB]
    rfl)]
  obtain ⟨d1, d2, d3⟩ := dr_ok (ns := ns) (k := 130 * (i : Int) + 127) (m := 4) (by omega) (by decide) hl'
  obtain ⟨κ, hκm, hκe⟩ := atD_ok (xs := [0, 1, 2, 3]) d2 (by simpa using d3)
  have hκ : κ < 4 := by simp at hκm; omega
  have hkind : ixD (.tup [.str [108, 111, 115, 116], .str [115, 119, 97, 112], .str [116, 119, 105, 99, 101], .str [119, 114, 111, 110, 103]]) (.int (dr ns (130 * (i : Int) + 127) 4)) = .ok (.str (kst κ)) := by
    have e : ([.str [108, 111, 115, 116], .str [115, 119, 97, 112], .str [116, 119, 105, 99, 101], .str [119, 114, 111, 110, 103]] : List D) = [0, 1, 2, 3].map fun k : Nat => D.str (kst k) := rfl
    rw [e]
    exact ix_tup (by rw [atD_map, hκe]; rfl)
  rw [seq_nx (env' := [some (.fz (scr ns)), some (.fz (.int (i : Int))), some (.fz (plan z1 (srt2 es1))), some (.fz (plan z2 (srt2 es2))), some (.fz (.dic (dictOf z1 (srt2 es1)))), some (.fz (lstS (full z1 4))), some (.fz (lstS (allR z1 4))), t7, t8, t9, none, some (.fz (.str (kst κ))), some (.ow (.lst [])), s13, s14, s15, s16, s17]) (by
    simp only [v_sOwn, v_oF, v_oL, v_oNil, v_xCall, v_xTup, v_aCons, v_aNil, v_rdV, v_rdB, v_gtS, v_gt0, v_ok, v_xOp, v_xC, hmul, v_cok, v_addI, d1, List.length_cons, List.length_nil, show (0 + 1 + 1 + 1 + 1 ≤ LIM) = True from by simp, Nat.zero_le, if_true, hkind, v_fok, v_psS, v_ps0, v_ptS, v_pt0])]
  obtain ⟨u9, u13, u14, hq10⟩ := q10_ok P1.ok hd κ hκ (some (.fz (scr ns))) (some (.fz (.int (i : Int)))) (some (.fz (plan z2 (srt2 es2)))) (some (.fz (lstS (full z1 4)))) (some (.fz (lstS (allR z1 4)))) t7 t8 t9 none s13 s14 [s15, s16, s17]
  rw [seq_nx hq10]
  have hso := sort_strays z1 (dictOf z1 (srt2 es1)) κ (dict_nodup z1 (srt2 es1))
  have hst := n_strays P1.ok hd κ hκ
  have hns := n_nstrays P1.ok hd κ hκ
  obtain ⟨pl1, pl2⟩ := strL_plain z1 (dictOf z1 (srt2 es1)) κ
  have hnl := ne_self (d := .lst (strL z1 (dictOf z1 (srt2 es1)) κ)) (by rw [plain]; exact pl1) (by rw [dep]; omega)
  rw [seq_nx (by
    unfold q11_law
    refine if_skip ?_
    simp only [v_tOr, v_tVal, v_xOp, v_xU, v_xCall, v_aCons, v_aNil, v_rdV, v_rdB, v_gtS, v_gt0, v_ok, hso, hst, hns, hnl, v_cok, v_asB, Bool.false_eq_true, if_false])]
  obtain ⟨c15, es3, P3, hoth⟩ := other_ok a2 a3 g1 g2 g3 g4 G1 G2 (some (.fz (scr ns))) (some (.fz (.int (i : Int)))) (some (.fz (.dic (dictOf z1 (srt2 es1))))) (some (.fz (lstS (full z1 4)))) (some (.fz (lstS (allR z1 4)))) t7 t8 u9 none (some (.fz (.str (kst κ)))) (some (.ow (.lst (strT z1 (dictOf z1 (srt2 es1)) κ (keysD (dictOf z1 (srt2 es1))))))) u13 u14 s15 s16 s17
  rw [hoth]
  have hlf := n_lfirst P1.ok P3.ok (allR z1 4) (fun w hw => by
    unfold allR at hw
    obtain ⟨k, hk, hm⟩ := List.mem_flatMap.mp hw
    have h1 := full_len z1 k w hm
    have h2 := List.mem_range.mp hk
    omega)
  have hnp : Fn_naive_parting [plan z1 (srt2 es1), plan z1 es3, .int 4] = .ok (optD ((allR z1 4).find? (unl (dictOf z1 (srt2 es1)) (dictOf z1 es3)))) := n_nparting P1 P3 a3 4 (by decide)
  have hpr := n_parting P1 P3
  rw [find_all P1 P3] at hlf hnp
  rw [seq_nx (asg_nm (d := optD (diffs z1 (srt2 es1) es3).head?) (by
    simp only [v_xCall, v_aCons, v_aNil, v_rdV, v_gtS, v_gt0, v_ok, hlf]))]
  simp only [v_ptS, v_pt0]
  refine ⟨some (.fz (plan z1 (srt2 es1))), some (.fz (plan z1 es3)), some (.fz (.dic (dictOf z1 (srt2 es1)))), some (.fz (lstS (full z1 4))), some (.fz (lstS (allR z1 4))), t7, t8, u9, some (.fz (.str (kst κ))), some (.ow (.lst (strT z1 (dictOf z1 (srt2 es1)) κ (keysD (dictOf z1 (srt2 es1)))))), u13, u14, c15, some (.fz (optD (diffs z1 (srt2 es1) es3).head?)), ?_⟩
  unfold q12_law
  refine if_skip ?_
  simp only [v_tOr, v_tVal, v_xOp, v_xCall, v_aCons, v_aNil, v_rdV, v_rdB, v_gtS, v_gt0, v_ok, v_xC, hnp, hpr, ne_optD, v_cok, v_asB, Bool.false_eq_true, if_false]
/-! ### the last questions -/
def esC : List Ent := [([48, 120], [97]), ([49, 50], [98]), ([50], [99])]
def esD : List Ent := [([48, 120], [97]), ([49, 50], [98])]
theorem pgC : Pg 3 esC := by
  refine mk_pg (by decide) (by decide) (by decide) (by decide) ?_ ?_ ?_
  · intro e he
    simp only [esC, List.mem_cons, List.not_mem_nil, or_false] at he
    rcases he with rfl | rfl | rfl <;> (refine ⟨by decide, by decide, by decide, by decide⟩)
  · simp [esC]
    decide
  · simp [esC]
    decide
theorem pgD : Pg 3 esD := by
  refine mk_pg (by decide) (by decide) (by decide) (by decide) ?_ ?_ ?_
  · intro e he
    simp only [esD, List.mem_cons, List.not_mem_nil, or_false] at he
    rcases he with rfl | rfl <;> (refine ⟨by decide, by decide, by decide, by decide⟩)
  · simp [esD]
    decide
  · simp [esD]
    decide
theorem unC : unl (dictOf 3 esC) (dictOf 3 esD) [] = false ∧ unl (dictOf 3 esC) (dictOf 3 esD) [48] = false ∧ unl (dictOf 3 esC) (dictOf 3 esD) [49] = false ∧ unl (dictOf 3 esC) (dictOf 3 esD) [50] = true := by
  have h0 : hr (dictOf 3 esC) [] = .non := hr_nil pgC
  have h0' : hr (dictOf 3 esD) [] = .non := hr_nil pgD
  have h1 : hr (dictOf 3 esC) [48] = .non := rfl
  have h1' : hr (dictOf 3 esD) [48] = .non := rfl
  have h2 : hr (dictOf 3 esC) [49] = .non := rfl
  have h2' : hr (dictOf 3 esD) [49] = .non := rfl
  have h3 : hr (dictOf 3 esC) [50] = .str [99] := rfl
  have h3' : hr (dictOf 3 esD) [50] = .non := rfl
  unfold unl
  rw [h0, h0', h1, h1', h2, h2', h3, h3']
  simp [deq]
theorem full_num (size : Nat) (h : size ≤ 6) : ∀ k, (full size k).length = size ^ k
  | 0 => rfl
  | k + 1 => by
    show (ext (digs size) (full size k)).length = _
    have : (digs size).length = size := by simp [digs]; omega
    rw [ext_len, full_num size h k, this, Nat.pow_succ]
theorem srt_self {l : List (List Nat)} (hl : l.Pairwise (· < ·)) : srtS l = l := by
  unfold srtS
  refine List.mergeSort_of_pairwise (hl.imp fun {a b} q => ?_)
  have : ¬ b < a := fun z => List.lt_irrefl a (List.lt_trans q z)
  simp [dle, dlt, this]
theorem math (ns : List Int) (hl : ns.length ≤ 63) : Fn_law [.lst (ns.map D.int)] = .ok (.bl true) := by
  have hl' : ns.length < 1000 := by omega
  have e0 : Fn_law [.lst (ns.map D.int)] = outOf (sv_law [some (.fz (scr ns)), none, none, none, none, none, none, none, none, none, none, none, none, none, none, none, none, none]) := rfl
  obtain ⟨env', h1, s1, s2, s3, s4, s5, s6, s7, s8, s9, s11, s12, s13, s14, s15, s16, rfl⟩ := forD_inv (T := .nm 1) (b := b13_law) (fun i : Nat => D.int (i : Int)) (fun env => ∃ s1 s2 s3 s4 s5 s6 s7 s8 s9 s11 s12 s13 s14 s15 s16, env = [some (.fz (scr ns)), s1, s2, s3, s4, s5, s6, s7, s8, s9, none, s11, s12, s13, s14, s15, s16, none]) (List.range 4)
    [some (.fz (scr ns)), none, none, none, none, none, none, none, none, none, none, none, none, none, none, none, none, none] ⟨_, _, _, _, _, _, _, _, _, _, _, _, _, _, _, rfl⟩ (by
      rintro i _ env ⟨s1, s2, s3, s4, s5, s6, s7, s8, s9, s11, s12, s13, s14, s15, s16, rfl⟩
      obtain ⟨t2, t3, t4, t5, t6, t7, t8, t9, t11, t12, t13, t14, t15, t16, ht⟩ := turn_ok ns hl' i s2 s3 s4 s5 s6 s7 s8 s9 s11 s12 s13 s14 s15 s16 none
      exact ⟨[some (.fz (scr ns)), some (.fz (.int (i : Int))), s2, s3, s4, s5, s6, s7, s8, s9, none, s11, s12, s13, s14, s15, s16, none], rfl, _, ht, _, _, _, _, _, _, _, _, _, _, _, _, _, _, _, rfl⟩)
  rw [e0]
  unfold sv_law
  rw [seq_nx (env' := [some (.fz (scr ns)), s1, s2, s3, s4, s5, s6, s7, s8, s9, none, s11, s12, s13, s14, s15, s16, none]) (by
    unfold q14_law
    have hr : rng1 (.int 4) = .ok ((List.range 4).map fun (i : Nat) => D.int (i : Int)) := rng1_ok (n := 4) (by decide)
    simp only [v_sFor, v_iR1, v_xC, v_ok, hr, v_fok]
    exact h1)]
  rw [seq_nx (asg_nm (d := plan 3 esC) rfl)]
  simp only [v_ptS, v_pt0]
  have x1 : ixD (plan 3 esC) (.int 1) = .ok (.tup (esC.map ent)) := ix_tup (at1 _ _ _)
  have hsl : slD none (some 2) (.tup (esC.map ent)) = .ok (.tup (esD.map ent)) := rfl
  rw [seq_nx (asg_nm (d := plan 3 esD) (by
    simp only [v_xTup, v_aCons, v_aNil, v_xSl, v_oIn, v_oIs, v_xOp, v_rdB, v_gtS, v_gt0, v_ok, v_xC, x1, v_cok, show asI (.int 2) = .ok 2 from rfl, hsl, List.length_cons, List.length_nil, show (0 + 1 + 1 ≤ LIM) = True from by simp, if_true]
    rfl))]
  simp only [v_ptS, v_pt0]
  obtain ⟨u0, u1, u2, u3⟩ := unC
  have hfull1 : full 3 1 = [[48], [49], [50]] := rfl
  have n0 : Fn_naive_parting [plan 3 esC, plan 3 esD, .int ((0 : Nat) : Int)] = .ok .non := by
    rw [n_nparting pgC pgD (by decide) 0 (by decide)]
    have : allR 3 0 = [[]] := rfl
    rw [this]
    simp [u0, optD]
  have n1 : Fn_naive_parting [plan 3 esC, plan 3 esD, .int ((1 : Nat) : Int)] = .ok (.str [50]) := by
    rw [n_nparting pgC pgD (by decide) 1 (by decide)]
    have : allR 3 1 = [[], [48], [49], [50]] := rfl
    rw [this]
    simp [u0, u1, u2, u3, optD]
  have n2 : Fn_naive_parting [plan 3 esC, plan 3 esD, .int ((2 : Nat) : Int)] = .ok (.str [50]) := by
    rw [n_nparting pgC pgD (by decide) 2 (by decide)]
    have : allR 3 2 = [[], [48], [49], [50]] ++ full 3 2 := rfl
    rw [this]
    simp [u0, u1, u2, u3, optD]
  have hlc : xLc (.nm 7) [7] (iR1 (xC (.int 3))) tYs (xCall Fn_naive_parting (aCons (rdV 2) (aCons (rdV 17) (aCons (rdV 7) aNil)))) [some (.fz (scr ns)), s1, some (.fz (plan 3 esC)), s3, s4, s5, s6, s7, s8, s9, none, s11, s12, s13, s14, s15, s16, some (.fz (plan 3 esD))] = .ok (.lst [.non, .str [50], .str [50]]) := by
    have hr : rng1 (.int 3) = .ok ((List.range 3).map fun (i : Nat) => D.int (i : Int)) := rng1_ok (n := 3) (by decide)
    rw [xLc_map (α := Nat) (fun j => D.int (j : Int)) (fun j => if j = 0 then D.non else .str [50]) (List.range 3) (by rw [v_iR1, v_xC, v_ok, hr])]
    · rfl
    · intro j hj
      refine ⟨[some (.fz (scr ns)), s1, some (.fz (plan 3 esC)), s3, s4, s5, s6, some (.fz (.int (j : Int))), s8, s9, none, s11, s12, s13, s14, s15, s16, some (.fz (plan 3 esD))], rfl, ?_⟩
      have hj3 := List.mem_range.mp hj
      simp only [v_xCall, v_aCons, v_aNil, v_rdV, v_gtS, v_gt0, v_ok]
      match j, hj3 with
      | 0, _ => exact n0
      | 1, _ => exact n1
      | 2, _ => exact n2
  rw [seq_nx (by
    unfold q15_law
    refine if_skip ?_
    rw [v_tVal, v_xOp, hlc]
    simp [neD, plain, plains, dep, deps, deq, deqs])]
  have har0 : Fn_all_rows [plan 3 esC, .int 0] = .ok (lstS (full 3 0)) := n_allrows pgC.ok (by decide) 0 (by decide)
  have har6 : Fn_all_rows [plan 3 esC, .int 6] = .ok (lstS (full 3 6)) := n_allrows pgC.ok (by decide) 6 (by decide)
  have hlen6 : lenD (lstS (full 3 6)) = .ok (.int 729) := by
    show Res.ok (D.int (((full 3 6).map D.str).length : Int)) = _
    rw [List.length_map, full_num 3 (by decide)]
    rfl
  have hne0 : neD (lstS (full 3 0)) (.lst [.str []]) = .ok (.bl false) := ne_lstS [[]]
  rw [seq_nx (by
    unfold q16_law
    refine if_skip ?_
    have hn := ne_int 729 729
    simp only [v_tOr, v_tVal, v_xOp, v_xU, v_xCall, v_xLst, v_aCons, v_aNil, v_rdV, v_gtS, v_gt0, v_ok, v_xC, har0, har6, hlen6, v_cok, List.length_cons, List.length_nil, show (0 + 1 ≤ LIM) = True from by simp, if_true, hne0, hn, v_asB, Bool.false_eq_true, if_false]
    rfl)]
  have hnh := n_nhearing pgC.ok (r := [50]) (by decide)
  have hflt : (keysD (dictOf 3 esC)).filter (fun n => [50].isSublist n) = [[48, 50], [49, 50], [50]] := rfl
  have hsrt : srtS [[48, 50], [49, 50], [50]] = [[48, 50], [49, 50], [50]] := srt_self (by decide)
  rw [hflt, hsrt] at hnh
  have hnr := n_nreached pgC.ok (r := [50, 48, 49]) (by decide) (by decide)
  have hrd : readA (keysD (dictOf 3 esC)) [50, 48, 49] = .str [50] := rfl
  rw [hrd] at hnr
  rw [ret_ok (d := .bl true) (by
    have e1 : eqD (lstS [[48, 50], [49, 50], [50]]) (.lst [.str [48, 50], .str [49, 50], .str [50]]) = .ok (.bl true) := by simp [eqD, lstS, plain, plains, dep, deps, deq, deqs]
    have e2 := eqS [50] [50]
    simp only [v_xAnd, v_xOp, v_xCall, v_xLst, v_aCons, v_aNil, v_rdV, v_gtS, v_gt0, v_ok, v_xC, hnh, hnr, List.length_cons, List.length_nil, show (0 + 1 + 1 + 1 ≤ LIM) = True from by simp, if_true, e1, v_cok, v_asB, e2]
    rfl)]
  rfl
end Pv.W54

namespace Pv
open PySem PySem.Spec L2 PySem.Froz Classical
/-! ### sorted(set(xs)), xs a list of tuples of ints and texts -/
def keyOf : D → Key
  | .int i => .inl i
  | .str l => .inr (tx l)
  | _ => .inl 0
def ksOf : D → List Key
  | .tup ds => ds.map keyOf
  | _ => []
def atOf : Key → D
  | .inl i => .int i
  | .inr x => .str x.cps.toList
def tpOf (k : List Key) : D := .tup (k.map atOf)
theorem at_key {d : D} (h : isAt d = true) : atOf (keyOf d) = d := by
  cases d with
  | int i => rfl
  | str l => simp [keyOf, atOf, tx]
  | _ => simp [isAt] at h
theorem tp_ks {d : D} (h : tupA d = true) : tpOf (ksOf d) = d := by
  cases d with
  | tup ds =>
    cases ds with
    | nil => simp [tupA] at h
    | cons e es =>
      simp only [tupA, List.all_eq_true] at h
      unfold tpOf ksOf
      rw [List.map_map]
      congr 1
      have : ((e :: es).map (atOf ∘ keyOf)) = (e :: es).map id := List.map_congr_left fun x hx => at_key (h x hx)
      rw [this, List.map_id]
  | _ => simp [tupA] at h
theorem ks_inj {a b : D} (ha : tupA a = true) (hb : tupA b = true) (h : ksOf a = ksOf b) : a = b := by
  rw [← tp_ks ha, ← tp_ks hb, h]
end Pv

namespace Pv
open PySem PySem.Spec L2 PySem.Froz
theorem perm_back {α β : Type} {f : α → β} {vs us : List β} (p : vs.Perm us) : ∀ {L : List α}, us = L.map f → ∃ L' : List α, L'.Perm L ∧ vs = L'.map f := by
  induction p with
  | nil =>
    intro L e
    have : L = [] := by simpa using e.symm
    rw [this]
    exact ⟨[], .refl _, rfl⟩
  | cons x _ ih =>
    intro L e
    cases L with
    | nil => simp at e
    | cons y L =>
      simp only [List.map_cons, List.cons.injEq] at e
      obtain ⟨L', h1, h2⟩ := ih e.2
      exact ⟨y :: L', h1.cons y, by rw [List.map_cons, ← h2, e.1]⟩
  | swap x y l =>
    intro L e
    match L, e with
    | [], e => simp at e
    | [_], e => simp at e
    | a :: b :: L, e =>
      simp only [List.map_cons, List.cons.injEq] at e
      exact ⟨b :: a :: L, .swap a b L, by simp [e.1, e.2.1, e.2.2]⟩
  | trans _ _ ih1 ih2 =>
    intro L e
    obtain ⟨L1, h1, h2⟩ := ih2 e
    obtain ⟨L2, h3, h4⟩ := ih1 h2
    exact ⟨L2, h3.trans h1, h4⟩
theorem at_inj {a b : Key} (h : atOf a = atOf b) : a = b := by
  cases a with
  | inl i => cases b with
    | inl j => injection h with h; rw [h]
    | inr y => cases h
  | inr x => cases b with
    | inl j => cases h
    | inr y =>
      have h' : D.str x.cps.toList = D.str y.cps.toList := h
      injection h' with h'
      have : x = y := by
        cases x; cases y
        simp only [Str.mk.injEq]
        exact Array.toList_inj.mp h'
      rw [this]
theorem ats_inj : ∀ {a b : List Key}, a.map atOf = b.map atOf → a = b
  | [], [], _ => rfl
  | [], _ :: _, e => by simp at e
  | _ :: _, [], e => by simp at e
  | x :: xs, y :: ys, e => by
    simp only [List.map_cons, List.cons.injEq] at e
    rw [at_inj e.1, ats_inj e.2]
theorem tp_inj {a b : List Key} (h : tpOf a = tpOf b) : a = b := by
  unfold tpOf at h
  injection h with h
  exact ats_inj h
theorem reads_items {P : Program} {w : World} {h : Heap} : ∀ {k : List Key} {vs : List Value}, ItemsAre (mixKind P w) k vs → PySem.ReadsAll h vs (toPs (k.map atOf)) []
  | _, _, .nil => .nil
  | _, _, .cons h1 t => by
    have ih := reads_items (h := h) t
    rcases keyIs_shape h1 with ⟨i, u, rfl, rfl⟩ | ⟨x, u, rfl, rfl⟩
    · exact PySem.ReadsAll.cons (as := []) (.int i u) ih
    · have e : toP (atOf (.inr x)) = .str x := by
        show PyData.str (tx x.cps.toList) = _
        congr 1
      rw [List.map_cons, toPs, e]
      exact PySem.ReadsAll.cons (as := []) (.str x u) ih
theorem reads_K {P : Program} {w : World} {h : Heap} {k : List Key} {a : Addr} (x : IsK P w h k a) : PySem.Reads h (.ref a) (toP (tpOf k)) [] := by
  obtain ⟨o, items, n, ho, hc, hd, hi⟩ := x
  exact .tuple ho hc hd (reads_items hi)
theorem tup_plain {d : D} (h : tupA d = true) : plain d = true ∧ dep d ≤ 1 ∧ isNon d = false := by
  cases d with
  | tup ds =>
    cases ds with
    | nil => simp [tupA] at h
    | cons e es =>
      simp only [tupA] at h
      have key : ∀ l : List D, l.all isAt = true → plains l = true ∧ deps l = 0 := by
        intro l
        induction l with
        | nil => intro _; simp [plains, deps]
        | cons x xs ih =>
          intro hl
          rw [List.all_cons, Bool.and_eq_true] at hl
          obtain ⟨i1, i2⟩ := ih hl.2
          have hx := hl.1
          cases x <;> simp [isAt] at hx <;> simp [plains, deps, plain, dep, i1, i2]
      obtain ⟨k1, k2⟩ := key _ h
      exact ⟨by rw [plain]; exact k1, by rw [dep, k2]; decide, rfl⟩
  | _ => simp [tupA] at h
section
variable {P : Program} {w : World} {A : Around} {E : Value → Shared → Prop} {s : Shared}
/-- sorted(s), s a set of tuples -/
theorem sorted_K {a : Addr} {L : List (Addr × List Key)} {ls : List D} {Rel : Value → D → Prop} {Q : Value → Shared → Prop} (R : StS P w s.heap a L) (hh : A.handled = none) (hb : L.length < scanBound) (hu : A.units + 100 < cLine)
    (hA : ∀ d ∈ ls, tupA d = true) (hk : alkAll ls = true) (hnd : ls.Nodup) (hm : ∀ d, d ∈ ls ↔ ∃ p ∈ L, tpOf p.2 = d) (hR : ∀ p ∈ L, Rel (.ref p.1) (tpOf p.2))
    (hQ : ∀ (s' : Shared) (p : Addr) (out : List Value) (c : Nat), (∀ b o, s.heap.get? b = some o → s'.heap.get? b = some o) → s'.gens = s.gens → s'.os = s.os → s.heap.objs.size ≤ p →
      s'.heap.get? p = some (PyProof.Rows.seqObj "list" out.toArray c) → out.length = ls.length → PySem.W.EachIs Rel out (ls.mergeSort dle) → Q (.ref p) s') :
    wpAny (model P w) A (call (.builtin "sorted") [.ref a]) Q E s := by
  obtain ⟨es, ep, t, R⟩ := R
  obtain ⟨o, ho, hex, hd⟩ := R.ob
  have hsz := R.size
  refine Calls.call_function_entry PyProof.Rows.kind_sorted PyProof.Rows.plain_sorted PyProof.Rows.entry_sorted (PyProof.Rows.args_sorted1 _) ?_
  unfold Builtin.«sorted»
  refine wpAny_bind (m := checkCount "sorted" 1 1 _) (wpAny_pure ?_)
  refine wpAny_bind (collect_set (A := A.in1) (es := es) (ep := ep) (t := t) hh ⟨_, ho, hex.1, hd⟩ R.fits (by omega) R.tab.ris R.led fun s1 vs k1 hz g1 o1 pm => ?_)
  have e2 : es.toList.map (·.2) = L.map fun p => Value.ref p.1 := by rw [R.rows, List.map_map]; rfl
  obtain ⟨L', pl, rfl⟩ := perm_back pm e2
  have hmem : ∀ p ∈ L', p ∈ L := fun p hp => pl.mem_iff.mp hp
  have ndL : (L'.map fun p => tpOf p.2).Nodup := by
    have h1 : (L'.map (·.2)).Nodup := (pl.map (·.2)).nodup_iff.mpr R.nd
    have h2 : ((L'.map (·.2)).map tpOf).Nodup := by
      rw [List.nodup_iff_pairwise_ne, List.pairwise_map]
      exact (List.nodup_iff_pairwise_ne.mp h1).imp fun hne e => hne (tp_inj e)
    rw [List.map_map] at h2
    exact h2
  have hpm : (L'.map fun p => tpOf p.2).Perm ls := by
    have m1 : ∀ x ∈ ls, x ∈ L'.map fun p => tpOf p.2 := fun x hx => by
      obtain ⟨p, hp, e⟩ := (hm x).mp hx
      exact List.mem_map.mpr ⟨p, pl.mem_iff.mpr hp, e⟩
    have m2 : ∀ x ∈ L'.map (fun p => tpOf p.2), x ∈ ls := fun x hx => by
      obtain ⟨p, hp, e⟩ := List.mem_map.mp hx
      exact (hm x).mpr ⟨p, hmem p hp, e⟩
    have le : ∀ (as bs : List D), as.Nodup → (∀ x ∈ as, x ∈ bs) → as.length ≤ bs.length := by
      intro as
      induction as with
      | nil => intro bs _ _; exact Nat.zero_le _
      | cons x as ih =>
        intro bs nd hs
        rw [List.nodup_cons] at nd
        obtain ⟨b1, b2, rfl⟩ := List.append_of_mem (hs x List.mem_cons_self)
        have := ih (b1 ++ b2) nd.2 fun y hy => by
          have ne : y ≠ x := fun e => nd.1 (e ▸ hy)
          have := hs y (List.mem_cons_of_mem _ hy)
          simp only [List.mem_append, List.mem_cons] at this ⊢
          rcases this with q | q | q
          · exact .inl q
          · exact absurd q ne
          · exact .inr q
        simp only [List.length_append, List.length_cons] at this ⊢
        omega
    exact permD ls _ hnd m1 (le _ _ ndL m2)
  have hvl : (L'.map fun p => Value.ref p.1).length = L.length := by rw [List.length_map, pl.length_eq]
  have each1 : ∀ (l : List (Addr × List Key)), (∀ p ∈ l, p ∈ L) → PySem.W.EachIs Rel (l.map fun p => Value.ref p.1) (l.map fun p => tpOf p.2) := by
    intro l
    induction l with
    | nil => intro _; exact .nil
    | cons p l ih => intro h; exact .cons (hR p (h p List.mem_cons_self)) (ih fun q hq => h q (List.mem_cons_of_mem _ hq))
  have each2 : ∀ (h' : Heap), (∀ b o, s.heap.get? b = some o → h'.get? b = some o) → ∀ (x : Addr) (l : List (Addr × List Key)), (∀ p ∈ l, p ∈ L) → PySem.W.EachIs (fun v b => ∃ as, PySem.Reads h' v (toP b) as ∧ x ∉ as) (l.map fun p => Value.ref p.1) (l.map fun p => tpOf p.2) := by
    intro h' kp x l
    induction l with
    | nil => intro _; exact .nil
    | cons p l ih => intro h; exact .cons ⟨[], reads_K (isK_keep (R.key p (h p List.mem_cons_self)) kp), by simp⟩ (ih fun q hq => h q (List.mem_cons_of_mem _ hq))
  have hA' : ∀ d ∈ L'.map (fun p => tpOf p.2), tupA d = true := fun d hd' => hA d (hpm.mem_iff.mp hd')
  have hk' : ∀ a ∈ L'.map (fun p => tpOf p.2), ∀ b ∈ L'.map (fun p => tpOf p.2), alk a b = true := fun a ha b hb' => alkAll_mem hk (hpm.mem_iff.mp ha) (hpm.mem_iff.mp hb')
  have hlen2 : (L'.map fun p => tpOf p.2).length = L.length := by rw [List.length_map, pl.length_eq]
  refine wpAny_bind (wpAny_newList ?_ (by rw [hvl, sizeLine_eq]; unfold scanBound at hb; omega))
  have kp2 : ∀ b o, s.heap.get? b = some o → (s1.heap.push (PyProof.Rows.seqObj "list" (L'.map fun p => Value.ref p.1).toArray 0)).get? b = some o := fun b o e => Heap.get?_push_of_some _ (k1 b o e)
  have hoL : (s1.heap.push (PyProof.Rows.seqObj "list" (L'.map fun p => Value.ref p.1).toArray 0)).get? s1.heap.objs.size = some (PyProof.Rows.seqObj "list" (L'.map fun p => Value.ref p.1).toArray 0) := Heap.get?_push_size _ rfl
  refine wpAny_bind (wpAny_holding (PySem.W.list_sort_data (s := { s1 with heap := s1.heap.push (PyProof.Rows.seqObj "list" (L'.map fun p => Value.ref p.1).toArray 0) }) (enc := toP) hoL (each1 L' hmem) (each2 _ kp2 _ L' hmem)
    ?al ?so (by rw [hlen2, sizeLine_eq]; unfold scanBound at hb; omega) (fun b hb' => ?dp) fun out ho' eo => ?_))
  case al =>
    intro a ha b hb'
    obtain ⟨a', ha', rfl⟩ := List.mem_map.mp ha
    obtain ⟨b', hb'', rfl⟩ := List.mem_map.mp hb'
    exact toP_alike a' b' (hk' a' ha' b' hb'') (tup_plain (hA' a' ha')).1 (tup_plain (hA' b' hb'')).1
  case so =>
    refine .inl fun d hd' => ?_
    obtain ⟨d', hd'', rfl⟩ := List.mem_map.mp hd'
    have := hA' d' hd''
    cases d' with
    | tup es =>
      cases es with
      | nil => simp [tupA] at this
      | cons y ys => exact ⟨toP y, toPs ys, by simp [toP, toPs]⟩
    | _ => simp [tupA] at this
  case dp =>
    rw [toP_dep]
    have := (tup_plain (hA' b hb')).2.1
    simp only [Around.in1]
    omega
  obtain ⟨c, hc⟩ := PyProof.Rows.sortedHeap_at (vs := (L'.map fun p => Value.ref p.1)) (out := out.toArray) hoL
  have ems : (L'.map fun p => tpOf p.2).mergeSort (PySem.W.dataLe false toP) = ls.mergeSort dle := by
    rw [← srtT_unique hpm hA hk]
    refine ms_congr _ fun a ha b hb' => ?_
    rw [PySem.W.dataLe_eq]
    show (!PySem.W.dataLt (toP b) (toP a)) = !dlt b a
    rw [toP_lt b a (hk' b hb' a ha) (tup_plain (hA' b hb')).1 (tup_plain (hA' a ha)).1 (tup_plain (hA' b hb')).2.2]
  rw [ems] at eo
  refine wpAny_pure ⟨_, rfl, hQ _ s1.heap.objs.size out c (fun b u e => ?_) g1 o1 hz hc (by rw [ho', hpm.length_eq]) eo⟩
  have q := k1 b u e
  have hlt := Heap.lt_size q
  show (PyProof.Rows.sortedHeap (s1.heap.push (PyProof.Rows.seqObj "list" (L'.map fun p => Value.ref p.1).toArray 0)) s1.heap.objs.size (L'.map fun p => Value.ref p.1) out.toArray).get? b = some u
  rw [PyProof.Rows.sortedHeap_old (Nat.ne_of_lt hlt) (by rw [PyProof.Rows.size_push']; exact Nat.lt_succ_of_lt hlt)]
  exact Heap.get?_push_of_some _ q
end
/-- the items of a list of tuples -/
theorem keys_of {X : Cx} {pins : List (Addr × Obj)} {σ : St} {H : Hp} {s : Shared} (I : Inv X pins σ H s) {P : V → D → Prop} : ∀ {vs : List V} {us : List Value} {ds : List D}, Vals vs us → PySem.W.EachIs (fun v d => tupA d = true ∧ P v d ∧ ∃ a, v = V.ref a ∧ SqT X.K H a ((ksOf d).map kV)) vs ds →
    ∃ ks : List (Addr × List Key), us = ks.map (fun p => Value.ref p.1) ∧ ks.map (fun p => tpOf p.2) = ds ∧ ∀ p ∈ ks, IsK X.prog X.w s.heap p.2 p.1 ∧ P (.ref p.1) (tpOf p.2)
  | _, _, _, .nil, .nil => ⟨[], rfl, rfl, fun p hp => nomatch hp⟩
  | _, _, _, .cons r t, .cons ⟨hA, hp, a, e, q⟩ z => by
    obtain ⟨ks, h1, h2, h3⟩ := keys_of I t z
    subst e
    cases r
    obtain ⟨its, rv, hT, _⟩ := I.tuple q
    refine ⟨(a, ksOf _) :: ks, by rw [h1]; rfl, by rw [List.map_cons, h2, tp_ks hA], fun p hp' => ?_⟩
    rcases List.mem_cons.mp hp' with rfl | hp'
    · refine ⟨?_, by rw [tp_ks hA]; exact hp⟩
      obtain ⟨o, ho, hc, n, hd⟩ := hT
      exact ⟨o, its.toArray, n, ho, hc, hd, by simpa using items_are rv⟩
    · exact h3 p hp'
theorem atoms_kV {K : PySem.W.Frag} {F : Hp} : ∀ {vs : List V} {ds : List D}, RpA K F vs ds → ds.all isAt = true → vs = (ds.map keyOf).map kV
  | _, _, .nil, _ => rfl
  | _, _, .cons r t, h => by
    rw [List.all_cons, Bool.and_eq_true] at h
    rw [List.map_cons, List.map_cons, ← atoms_kV t h.2]
    congr 1
    cases r with
    | int i => rfl
    | str l z => rfl
    | _ => simp [isAt] at h
theorem each_K {K : PySem.W.Frag} {F H : Hp} (s : Sub F H) : ∀ {vs : List V} {ds : List D}, RpA K F vs ds → ds.all tupA = true → PySem.W.EachIs (fun v d => tupA d = true ∧ Rp K F v d ∧ ∃ a, v = V.ref a ∧ SqT K H a ((ksOf d).map kV)) vs ds
  | _, _, .nil, _ => .nil
  | _, _, .cons r t, h => by
    rw [List.all_cons, Bool.and_eq_true] at h
    refine .cons ⟨h.1, r, ?_⟩ (each_K s t h.2)
    cases r with
    | tup q z r =>
      refine ⟨_, rfl, ?_⟩
      have : tupA (.tup _) = true := h.1
      rename_i vs ds
      have ha : ds.all isAt = true := by
        cases ds with
        | nil => rfl
        | cons e es => exact this
      show SqT K H _ ((ds.map keyOf).map kV)
      rw [← atoms_kV r ha]
      exact s.tup q
    | _ => simp [tupA] at h
section
variable {ct : String → Addr} {k : Nat} {X : Cx} {W : WS} {e a b c : Expr} {es : List Expr} {pos : Pos} {ev ea eb ec : Xv}
theorem e_ssetT {p p2 q : Pos} (hm : X.mg "sorted" = none) (hm2 : X.mg "set" = none) (ha : PBv ct k X W a ea) (hg : Gl X "sorted" := by rfl) (hg2 : Gl X "set" := by rfl) (na : starEach [a] X.env = (false, eval a X.env) :: starEach [] X.env := by rfl) :
    PEv ct k X W (.Call (.Name "sorted" p) [.Call (.Name "set" p2) [a] [] q] [] pos) (xU ssetT ea) := fun C => by
  have h0 : PE X (.Call (.Name "sorted" p) [.Call (.Name "set" p2) [a] [] q] [] pos) (fun σ H Q => rd X.K (RBo X.K) W ea σ H fun x H1 => ∃ (l : Addr) (vs : List V) (ds : List D) (P : V → D → Prop), x = .ref l ∧ SqL X.K H1 l vs ∧
      PySem.W.EachIs (fun v d => tupA d = true ∧ P v d ∧ ∃ a, v = V.ref a ∧ SqT X.K H1 a ((ksOf d).map kV)) vs ds ∧ ds.all tupA = true ∧ alkAll ds = true ∧ ds.length ≤ 4000 ∧
      ∀ ys p, PySem.W.EachIs P ys ((distD [] ds).mergeSort dle) → ys.length ≤ LIM → H1 p = none → Q (.ref p) (upd H1 p (.lst ys))) := by
    refine ⟨fun pins s σ H Q I h => ?_⟩
    refine PyProof.Rows.Call_ (ld_blt I hg hm (show bootBuiltins "sorted" = some (.builtin "sorted") by decide +kernel) ?_)
    refine PyProof.Rows.callWith_builtin1 (PyProof.Rows.args_cons ?_ rfl) rfl rfl
    refine PyProof.Rows.Call_ (ld_blt I hg2 hm2 (show bootBuiltins "set" = some (.type "set") by decide +kernel) ?_)
    refine PyProof.Rows.callWith_type1 (PyProof.Rows.args_cons (thn ((ha C).run pins s σ H _ I h) fun v s1 ⟨x, H1, I1, r1, q1⟩ => PyProof.Rows.args_nil ?_) na) na rfl
    obtain ⟨l, vs, ds, P, rfl, hq, hE, hA, hk, hn, q1⟩ := q1
    cases r1
    obtain ⟨its, rv, hl, hz⟩ := I1.list hq
    obtain ⟨ks, e1, e2, e3⟩ := keys_of I1 rv hE
    have hkl : ks.length = ds.length := by rw [← e2, List.length_map]
    refine call_set_K (items := its.toArray) ks (I1.ok.hd C.calm) hl.isList (by simpa using e1) (fun p hp => (e3 p hp).1) (by rw [hkl]; exact hn) (by have := C.room.un; omega) fun h' tk L hS g hk' => ?_
    refine PyProof.Rows.args_nil ?_
    have I2 : Inv X pins σ H1 { s1 with heap := h', toks := tk } := I1.kept hk'
    have tk1 : ks.take ks.length = ks := List.take_length
    have hAm : ∀ d ∈ ds, tupA d = true := fun d hd => List.all_eq_true.mp hA d hd
    have dm := distD_mem (xs := ds) (acc := []) hAm (fun d hd => nomatch hd)
    have hdl := distD_len ds []
    simp only [List.length_nil, Nat.zero_add] at hdl
    refine sorted_K (s := { s1 with heap := h', toks := tk }) (ls := distD [] ds) (Rel := fun u d => ∃ v, RelV v u ∧ P v d) hS (I1.ok.hd C.calm) (by have := g.len; unfold scanBound; omega) (by have := C.room.un; omega)
      (fun d hd => hAm d (by simpa using (dm d).mp hd)) ?al (distD_nodup hAm (fun d hd => nomatch hd) List.nodup_nil) ?mm ?rr fun s2 pp out c k2 g2 o2 hp hget hol eo => ?_
    case al =>
      unfold alkAll
      rw [List.all_eq_true]
      intro x hx
      rw [List.all_eq_true]
      intro y hy
      exact alkAll_mem hk (by simpa using (dm x).mp hx) (by simpa using (dm y).mp hy)
    case mm =>
      intro d
      rw [dm d]
      simp only [List.not_mem_nil, false_or]
      constructor
      · intro hd
        rw [← e2] at hd
        obtain ⟨p, hp, rfl⟩ := List.mem_map.mp hd
        obtain ⟨p', hp', e⟩ := List.mem_map.mp (g.all p (by rw [tk1]; exact hp))
        exact ⟨p', hp', by rw [e]⟩
      · rintro ⟨p, hp, rfl⟩
        have := g.sub p hp
        rw [tk1] at this
        rw [← e2]
        exact List.mem_map.mpr ⟨p, this, rfl⟩
    case rr =>
      intro p hp
      have := g.sub p hp
      rw [tk1] at this
      exact ⟨.ref p.1, rfl, (e3 p this).2⟩
    obtain ⟨ys, h1, h2⟩ := each_back eo
    have hyl : ys.length = out.length := h1.length
    have hlen : ys.length ≤ LIM := by rw [hyl, hol]; exact Nat.le_trans (Nat.le_trans hdl hn) (by decide)
    have np : H1 pp = none := I2.hok.fresh hp
    have hp1 : s1.heap.objs.size ≤ pp := by
      obtain ⟨es, ep, t, R⟩ := hS
      obtain ⟨o, ho, _⟩ := R.ob
      have hp' : h'.objs.size ≤ pp := hp
      exact Nat.le_trans (Nat.le_of_lt (Heap.lt_size ho)) hp'
    have kk : ∀ (b : Addr) (u : Obj), s1.heap.get? b = some u → s2.heap.get? b = some u := fun b u e => k2 b u (hk' b u e)
    have J : Inv X pins σ (upd H1 pp (.lst ys)) { s1 with heap := s2.heap, gens := s2.gens, drawn := s2.drawn, toks := s2.toks } :=
      I1.call (ch := []) (Un.laid kk hp1 np) (I1.hok.laid kk hp1 ⟨by rw [lim]; exact hlen, out, c, h1, hget⟩) (by rw [g2]; exact I1.bare) (fun _ z => nomatch z)
    have e : s2 = { s1 with heap := s2.heap, gens := s2.gens, drawn := s2.drawn, toks := s2.toks } := by
      cases s2
      cases s1
      cases o2
      rfl
    rw [e]
    exact ⟨.ref pp, _, J, rfl, q1 ys pp h2 hlen np⟩
  refine h0.imp fun σ H Q ⟨H0, F0, F, env, S, g⟩ => seq S g fun x d F1 H1 S1 g1 rx q1 => ?_
  have q3 := got_wf q1
  cases d with
  | lst ds =>
    obtain ⟨p, vs, ex, hq, zl, rv⟩ := bo_lst S1.sub rx
    subst ex
    dsimp only [ssetT] at q3
    split at q3
    · rename_i z
      obtain ⟨z1, z2, z3⟩ := z
      refine ⟨p, vs, ds, Rp X.K F1, rfl, .inl hq, each_K S1.sub rv z1, z1, z2, z3, fun ys p' h1 hl np => ?_⟩
      exact got_new S1.sub q3 np fun ff => .lst upd_same hl ((A_each h1).mono ff)
    · exact q3.elim
  | _ => exact q3.elim
end
end Pv

namespace Pv.W54
open PySem PySem.Spec L2
def top (i : Nat) : Stmt := PySem.Challenge.pw_dialslips_k54_whole_listed.main.body.getD i (.Pass ⟨0, 0, 0, 0⟩)
theorem excV : ExcBaseFacts "ValueError" "ValueError.__new__" "ValueError.__init__" He.veBase := PySem.F.excBase_ValueError
structure Vx (K : PySem.W.Frag) (mg : Str → Option Value) : Prop where
  f_all : mg "all" = none
  f_any : mg "any" = none
  f_bool : mg "bool" = none
  f_dict : mg "dict" = none
  f_enumerate : mg "enumerate" = none
  f_int : mg "int" = none
  f_isinstance : mg "isinstance" = none
  f_len : mg "len" = none
  f_list : mg "list" = none
  f_max : mg "max" = none
  f_range : mg "range" = none
  f_set : mg "set" = none
  f_sorted : mg "sorted" = none
  f_str : mg "str" = none
  f_tuple : mg "tuple" = none
  f_zip : mg "zip" = none
  c_ANY : ∃ t, mg "ANY" = some (.str "x" t)
  c_ASTRAY : ∃ t, mg "ASTRAY" = some (.str "astray" t)
  c_DIGITS : ∃ t, mg "DIGITS" = some (.str "012345" t)
  c_KINDS : mg "KINDS" = some (.ref (He.ga K "KINDS"))
  t_KINDS : ∀ F, Rp K F (.ref (He.ga K "KINDS")) (.tup [.str [108, 111, 115, 116], .str [115, 119, 97, 112], .str [116, 119, 105, 99, 101], .str [119, 114, 111, 110, 103]])
  c_LETTERS : ∃ t, mg "LETTERS" = some (.str "abcdefghijklmnopqrstuvwxyz" t)
  c_LOST : ∃ t, mg "LOST" = some (.str "lost" t)
  c_MAX_ENTRIES : ∃ t, mg "MAX_ENTRIES" = some (.int 8 t)
  c_MAX_HOLDER : ∃ t, mg "MAX_HOLDER" = some (.int 3 t)
  c_MAX_LENGTH : ∃ t, mg "MAX_LENGTH" = some (.int 6 t)
  c_MAX_NUMBERS : ∃ t, mg "MAX_NUMBERS" = some (.int 200 t)
  c_MAX_ROW : ∃ t, mg "MAX_ROW" = some (.int 12 t)
  c_MAX_ROWS : ∃ t, mg "MAX_ROWS" = some (.int 800 t)
  c_MAX_SIZE : ∃ t, mg "MAX_SIZE" = some (.int 6 t)
  c_NOTICED : ∃ t, mg "NOTICED" = some (.str "noticed" t)
  c_SAME : ∃ t, mg "SAME" = some (.str "same" t)
  c_SWAP : ∃ t, mg "SWAP" = some (.str "swap" t)
  c_WRONG : ∃ t, mg "WRONG" = some (.str "wrong" t)
  n_DialError : mg "DialError" = some (.ref (He.ga K "DialError"))
  x_DialError : PySem.W.excIn K (He.ga K "DialError") He.veBase "ValueError.__new__" = true ∧ PySem.W.keepIn K (.ref (He.ga K "DialError")) = true ∧ PySem.W.subIn K (.ref (He.ga K "DialError")) (.type "BaseException") = some true ∧ PySem.W.typeIn K (.ref (He.ga K "DialError")) = some (.type "type")
  n_InvalidPlan : mg "InvalidPlan" = some (.ref (He.ga K "InvalidPlan"))
  x_InvalidPlan : PySem.W.excIn K (He.ga K "InvalidPlan") He.veBase "ValueError.__new__" = true ∧ PySem.W.keepIn K (.ref (He.ga K "InvalidPlan")) = true ∧ PySem.W.subIn K (.ref (He.ga K "InvalidPlan")) (.type "BaseException") = some true ∧ PySem.W.typeIn K (.ref (He.ga K "InvalidPlan")) = some (.type "type")
  n_InvalidRow : mg "InvalidRow" = some (.ref (He.ga K "InvalidRow"))
  x_InvalidRow : PySem.W.excIn K (He.ga K "InvalidRow") He.veBase "ValueError.__new__" = true ∧ PySem.W.keepIn K (.ref (He.ga K "InvalidRow")) = true ∧ PySem.W.subIn K (.ref (He.ga K "InvalidRow")) (.type "BaseException") = some true ∧ PySem.W.typeIn K (.ref (He.ga K "InvalidRow")) = some (.type "type")
  n_InvalidKind : mg "InvalidKind" = some (.ref (He.ga K "InvalidKind"))
  x_InvalidKind : PySem.W.excIn K (He.ga K "InvalidKind") He.veBase "ValueError.__new__" = true ∧ PySem.W.keepIn K (.ref (He.ga K "InvalidKind")) = true ∧ PySem.W.subIn K (.ref (He.ga K "InvalidKind")) (.type "BaseException") = some true ∧ PySem.W.typeIn K (.ref (He.ga K "InvalidKind")) = some (.type "type")
  n_TooLarge : mg "TooLarge" = some (.ref (He.ga K "TooLarge"))
  x_TooLarge : PySem.W.excIn K (He.ga K "TooLarge") He.veBase "ValueError.__new__" = true ∧ PySem.W.keepIn K (.ref (He.ga K "TooLarge")) = true ∧ PySem.W.subIn K (.ref (He.ga K "TooLarge")) (.type "BaseException") = some true ∧ PySem.W.typeIn K (.ref (He.ga K "TooLarge")) = some (.type "type")
  n_OtherSize : mg "OtherSize" = some (.ref (He.ga K "OtherSize"))
  x_OtherSize : PySem.W.excIn K (He.ga K "OtherSize") He.veBase "ValueError.__new__" = true ∧ PySem.W.keepIn K (.ref (He.ga K "OtherSize")) = true ∧ PySem.W.subIn K (.ref (He.ga K "OtherSize")) (.type "BaseException") = some true ∧ PySem.W.typeIn K (.ref (He.ga K "OtherSize")) = some (.type "type")
  n_InvalidLength : mg "InvalidLength" = some (.ref (He.ga K "InvalidLength"))
  x_InvalidLength : PySem.W.excIn K (He.ga K "InvalidLength") He.veBase "ValueError.__new__" = true ∧ PySem.W.keepIn K (.ref (He.ga K "InvalidLength")) = true ∧ PySem.W.subIn K (.ref (He.ga K "InvalidLength")) (.type "BaseException") = some true ∧ PySem.W.typeIn K (.ref (He.ga K "InvalidLength")) = some (.type "type")
  cat : ∀ c b, catE c = some b → PySem.W.exmOne K (.ref (ctK K c)) (.ref (He.ga K "DialError")) = some b
  ec : ∀ c, c ∈ excs → ExcC K (ctK K c)
  ek : ∀ c, c ∈ excs → ∀ d, d ∈ excs → PySem.W.kitOne K (.ref (ctK K c)) (.ref (ctK K d)) = some (isa c d)
section
variable {P : Program} {w : World} {K : PySem.W.Frag} {mg : Str → Option Value} {base : Heap} {f : Addr} {fd : FuncData}
theorem ok__law_owners (V : Vx K mg)  (F : FnP K "_law_owners" (top 75) f fd) (hm : mg "_law_owners" = some (.ref f)) : Ca P w K mg base (ctK K) 1 "_law_owners" Fn__law_owners :=
  def_okD (N := ["plan", "found", "pattern", "holder", "some", "sign", "more", "begun", "digit", "number"]) (ps := ["plan"]) F hm ⟨rfl, rfl, rfl, by decide +kernel, rfl, by decide +kernel, by decide +kernel⟩ (fun _ _ _ _ _ _ us hl => match us, hl with | [_], _ => rfl) (fun cdv A outer s H E W =>
  (ss_cons (s_newD 1)
  (ss_cons (s_for (i_seq (e_ix (b_var 0) (PEv.bo e_int))) (fun hN hC => (g_tp hC (gs_cons (g_nm 2 hN) (gs_cons (g_nm 3 hN) gs_nil)))) (ss_cons (s_asg (e_lst (a_cons (e_str []) a_nil)) (fun hN hC => g_nm 4 hN))
  (ss_cons (s_for (i_seq (e_var 2)) (fun hN hC => (g_nm 5 hN)) (ss_cons (s_newL 6 a_nil)
  (ss_cons (s_for (i_seq (e_var 4)) (fun hN hC => (g_nm 7 hN)) (ss_one (s_ext 6 (e_lc (w_seq (PEv.bo (e_if (t_eq (b_var 5) (PEv.bo (e_str [120]))) (e_sl (PEv.bo (e_str [48, 49, 50, 51, 52, 53])) o_none (o_some (e_ix (b_var 0) (PEv.bo e_int)))) (e_var 5)))) (own := [("digit", 8)]) (by with_unfolding_all rfl) (by decide) (fun _ _ _ _ _ hN hC => (g_nm 8 hN)) (fun _ _ _ _ _ => ts_nil) (fun _ _ _ _ _ => (e_add (b_var 7) (b_var 8)))))))
  (ss_one (s_frz 6 (s_asg (e_var 6) (fun hN hC => g_nm 4 hN)))))))
  (ss_one (s_for (i_seq (e_var 4)) (fun hN hC => (g_nm 9 hN)) (ss_one (s_put 1 (e_var 9) (e_var 3))))))))
  (ss_one (s_frz 1 (s_ret (e_var 1)))))))
theorem ok__law_reach (V : Vx K mg)  (F : FnP K "_law_reach" (top 74) f fd) (hm : mg "_law_reach" = some (.ref f)) : Ca P w K mg base (ctK K) 1 "_law_reach" Fn__law_reach :=
  def_okD (N := ["owners", "row", "size", "one"]) (ps := ["owners", "row"]) F hm ⟨rfl, rfl, rfl, by decide +kernel, rfl, by decide +kernel, by decide +kernel⟩ (fun _ _ _ _ _ _ us hl => match us, hl with | [_, _], _ => rfl) (fun cdv A outer s H E W =>
  (ss_cons (s_for (i_r2 V.f_range e_int (e_add (PEv.bo (e_len V.f_len (b_var 1))) (PEv.bo e_int))) (fun hN hC => (g_nm 2 hN)) (ss_one (s_if (t_eq (PEv.bo (e_lcD (e_var 0) (own := [("one", 3)]) (by with_unfolding_all rfl) (by decide) (fun _ _ _ _ _ hN hC => (g_nm 3 hN)) (fun _ _ _ _ _ => (ts_one (PWv.t (w_and (t_gt (PEv.bo (e_len V.f_len (b_var 3))) (b_var 2)) (w_and1 (t_eq (PEv.bo (e_sl (b_var 3) o_none (o_some (e_var 2)))) (PEv.bo (e_sl (b_var 1) o_none (o_some (e_var 2)))))))))) (fun _ _ _ _ _ => (e_var 3)))) (PEv.bo (e_lst a_nil))) (ss_one (s_ret (e_if (t_in (PEv.bo (e_sl (b_var 1) o_none (o_some (e_var 2)))) (b_var 0)) (e_sl (b_var 1) o_none (o_some (e_var 2))) e_non))) ss_nil)))
  (ss_one (s_ret (e_if (t_in (b_var 1) (b_var 0)) (e_var 1) e_non)))))
theorem ok__law_first (V : Vx K mg) (g__law_owners : Ca P w K mg base (ctK K) 1 "_law_owners" Fn__law_owners) (g__law_reach : Ca P w K mg base (ctK K) 1 "_law_reach" Fn__law_reach) (F : FnP K "_law_first" (top 83) f fd) (hm : mg "_law_first" = some (.ref f)) : Ca P w K mg base (ctK K) 2 "_law_first" Fn__law_first :=
  def_okD (N := ["one", "other", "whole", "left", "right", "row"]) (ps := ["one", "other", "whole"]) F hm ⟨rfl, rfl, rfl, by decide +kernel, rfl, by decide +kernel, by decide +kernel⟩ (fun _ _ _ _ _ _ us hl => match us, hl with | [_, _, _], _ => rfl) (fun cdv A outer s H E W =>
  (ss_cons (s_par2 3 4 (l_fz (e_callC g__law_owners (a_cons (e_var 0) a_nil)) (l_fz (e_callC g__law_owners (a_cons (e_var 1) a_nil)) l_nil)) (by with_unfolding_all rfl))
  (ss_cons (s_for (i_seq (e_var 2)) (fun hN hC => (g_nm 5 hN)) (ss_one (s_if (t_ne (PEv.bo (e_get1N (b_var 3) (e_callC g__law_reach (a_cons (e_var 3) (a_cons (e_var 5) a_nil))))) (PEv.bo (e_get1N (b_var 4) (e_callC g__law_reach (a_cons (e_var 4) (a_cons (e_var 5) a_nil)))))) (ss_one (s_ret (e_var 5))) ss_nil)))
  (ss_one (s_ret e_non)))))
theorem ok__law_pick (V : Vx K mg)  (F : FnP K "_law_pick" (top 76) f fd) (hm : mg "_law_pick" = some (.ref f)) : Ca P w K mg base (ctK K) 1 "_law_pick" Fn__law_pick :=
  def_okD (N := ["script", "k", "many", "cell", "rest", "again", "drawn"]) (ps := ["script", "k", "many"]) F hm ⟨rfl, rfl, rfl, by decide +kernel, rfl, by decide +kernel, by decide +kernel⟩ (fun _ _ _ _ _ _ us hl => match us, hl with | [_, _, _], _ => rfl) (fun cdv A outer s H E W =>
  (ss_cons (s_asg (e_if (t_ne (b_var 0) (PEv.bo (e_lst a_nil))) (e_ix (b_var 0) (PEv.bo (e_mod (PEv.bo (e_toint V.f_int (b_var 1))) (PEv.bo (e_len V.f_len (b_var 0)))))) e_int) (fun hN hC => g_nm 3 hN))
  (ss_cons (s_par2 4 5 (l_fz (e_fdiv (b_var 3) (PEv.bo (e_pow (PEv.bo e_int) (PEv.bo e_int)))) (l_fz (e_fdiv (b_var 1) (PEv.bo (e_max2 V.f_max (PEv.bo (e_len V.f_len (b_var 0))) (PEv.bo e_int)))) l_nil)) (by with_unfolding_all rfl))
  (ss_cons (s_wh (fuel 5) (PWv.t (w_and (t_gt (b_var 4) (PEv.bo e_int)) (w_and1 (t_gt (b_var 5) (PEv.bo e_int))))) (ss_one (s_par2 4 5 (l_fz (e_fdiv (b_var 4) (PEv.bo e_int)) (l_fz (e_sub (b_var 5) (PEv.bo e_int)) l_nil)) (by with_unfolding_all rfl))))
  (ss_cons (s_if (t_gt (b_var 4) (PEv.bo e_int)) (ss_one (s_ret (e_mod (PEv.bo (e_toint V.f_int (PEv.bo (e_mod (PEv.bo (e_toint V.f_int (b_var 4))) (PEv.bo e_int))))) (b_var 2)))) ss_nil)
  (ss_cons (s_asg (e_mod (PEv.bo (e_toint V.f_int (PEv.bo (e_mul (PEv.bo (e_add (PEv.bo (e_mul (b_var 3) (PEv.bo e_int))) (PEv.bo (e_mul (PEv.bo e_int) (PEv.bo (e_add (b_var 1) (PEv.bo e_int))))))) (PEv.bo e_int))))) (PEv.bo e_int)) (fun hN hC => g_nm 6 hN))
  (ss_one (s_ret (e_mod (PEv.bo (e_toint V.f_int (PEv.bo (e_mod (PEv.bo (e_toint V.f_int (PEv.bo (e_add (PEv.bo (e_mul (b_var 6) (b_var 6))) (PEv.bo (e_fdiv (b_var 6) (PEv.bo e_int))))))) (PEv.bo e_int))))) (b_var 2))))))))))
theorem ok__law_agree (V : Vx K mg)  (F : FnP K "_law_agree" (top 77) f fd) (hm : mg "_law_agree" = some (.ref f)) : Ca P w K mg base (ctK K) 1 "_law_agree" Fn__law_agree :=
  def_okD (N := ["one", "other", "left", "right"]) (ps := ["one", "other"]) F hm ⟨rfl, rfl, rfl, by decide +kernel, rfl, by decide +kernel, by decide +kernel⟩ (fun _ _ _ _ _ _ us hl => match us, hl with | [_, _], _ => rfl) (fun cdv A outer s H E W =>
  (ss_cons (s_if (t_ne (PEv.bo (e_len V.f_len (b_var 0))) (PEv.bo (e_len V.f_len (b_var 1)))) (ss_one (s_ret e_bl)) ss_nil)
  (ss_one (s_ret (e_eq (PEv.bo (e_lc (PFv.w (i_zip V.f_zip (e_var 0) (e_var 1))) (own := [("left", 2), ("right", 3)]) (by with_unfolding_all rfl) (by decide) (fun _ _ _ _ _ hN hC => (g_tp hC (gs_cons (g_nm 2 hN) (gs_cons (g_nm 3 hN) gs_nil)))) (fun _ _ _ _ _ => (ts_one (PWv.t (w_and (t_ne (b_var 2) (b_var 3)) (w_and (t_ne (b_var 2) (PEv.bo (e_str [120]))) (w_and1 (t_ne (b_var 3) (PEv.bo (e_str [120]))))))))) (fun _ _ _ _ _ => e_int))) (PEv.bo (e_lst a_nil)))))))
theorem ok__law_plan (V : Vx K mg) (g__law_agree : Ca P w K mg base (ctK K) 1 "_law_agree" Fn__law_agree) (g__law_pick : Ca P w K mg base (ctK K) 1 "_law_pick" Fn__law_pick) (F : FnP K "_law_plan" (top 78) f fd) (hm : mg "_law_plan" = some (.ref f)) : Ca P w K mg base (ctK K) 2 "_law_plan" Fn__law_plan :=
  def_okD (N := ["script", "at", "size", "entries", "k", "length", "signs", "pattern", "n", "holder", "one"]) (ps := ["script", "at"]) F hm ⟨rfl, rfl, rfl, by decide +kernel, rfl, by decide +kernel, by decide +kernel⟩ (fun _ _ _ _ _ _ us hl => match us, hl with | [_, _], _ => rfl) (fun cdv A outer s H E W =>
  (ss_cons (s_par2 2 3 (l_fz (e_add (PEv.bo e_int) (PEv.bo (e_callC g__law_pick (a_cons (e_var 0) (a_cons (e_var 1) (a_cons e_int a_nil)))))) (l_lst a_nil l_nil)) (by with_unfolding_all rfl))
  (ss_cons (s_for (i_r1 V.f_range (e_add (PEv.bo e_int) (PEv.bo (e_callC g__law_pick (a_cons (e_var 0) (a_cons (e_add (b_var 1) (PEv.bo e_int)) (a_cons e_int a_nil))))))) (fun hN hC => (g_nm 4 hN)) (ss_cons (s_asg (e_add (PEv.bo e_int) (PEv.bo (e_callC g__law_pick (a_cons (e_var 0) (a_cons (e_add (PEv.bo (e_add (b_var 1) (PEv.bo e_int))) (PEv.bo (e_mul (PEv.bo e_int) (b_var 4)))) (a_cons e_int a_nil)))))) (fun hN hC => g_nm 5 hN))
  (ss_cons (s_asg (e_add (PEv.bo (e_mul (PEv.bo (e_sl (PEv.bo (e_str [48, 49, 50])) o_none (o_some (e_var 2)))) (PEv.bo e_int))) (PEv.bo (e_str [120]))) (fun hN hC => g_nm 6 hN))
  (ss_cons (s_asg (e_join (e_str []) (PEv.bo (e_lc (PFv.w (i_r1 V.f_range (e_var 5))) (own := [("n", 8)]) (by with_unfolding_all rfl) (by decide) (fun _ _ _ _ _ hN hC => (g_nm 8 hN)) (fun _ _ _ _ _ => ts_nil) (fun _ _ _ _ _ => (e_ix (b_var 6) (PEv.bo (e_callC g__law_pick (a_cons (e_var 0) (a_cons (e_add (PEv.bo (e_add (PEv.bo (e_add (b_var 1) (PEv.bo e_int))) (PEv.bo (e_mul (PEv.bo e_int) (b_var 4))))) (b_var 8)) (a_cons (e_len V.f_len (b_var 6)) a_nil)))))))))) (fun hN hC => g_nm 7 hN))
  (ss_cons (s_asg (e_ix (PEv.bo (e_str [97, 98, 99])) (PEv.bo (e_callC g__law_pick (a_cons (e_var 0) (a_cons (e_add (PEv.bo (e_add (b_var 1) (PEv.bo e_int))) (PEv.bo (e_mul (PEv.bo e_int) (b_var 4)))) (a_cons e_int a_nil)))))) (fun hN hC => g_nm 9 hN))
  (ss_one (s_if (t_eq (PEv.bo (e_lc (w_seq (b_var 3)) (own := [("one", 10)]) (by with_unfolding_all rfl) (by decide) (fun _ _ _ _ _ hN hC => (g_nm 10 hN)) (fun _ _ _ _ _ => (ts_one (t_val (e_callC g__law_agree (a_cons (e_ix (b_var 10) (PEv.bo e_int)) (a_cons (e_var 7) a_nil)))))) (fun _ _ _ _ _ => (e_var 10)))) (PEv.bo (e_lst a_nil))) (ss_one (s_app 3 (e_tup (a_cons (e_var 7) (a_cons (e_var 9) a_nil))))) ss_nil)))))))
  (ss_one (s_ret (e_tup (a_cons (e_var 2) (a_cons (e_totup V.f_tuple (PEv.bo (e_sorted V.f_sorted (b_var 3)))) a_nil))))))))
theorem ok_agree (V : Vx K mg)  (F : FnP K "agree" (top 22) f fd) (hm : mg "agree" = some (.ref f)) : Ca P w K mg base (ctK K) 1 "agree" Fn_agree :=
  def_okD (N := ["one", "other", "left", "right"]) (ps := ["one", "other"]) F hm ⟨rfl, rfl, rfl, by decide +kernel, rfl, by decide +kernel, by decide +kernel⟩ (fun _ _ _ _ _ _ us hl => match us, hl with | [_, _], _ => rfl) (fun cdv A outer s H E W =>
  (ss_cons (s_if (t_ne (PEv.bo (e_len V.f_len (b_var 0))) (PEv.bo (e_len V.f_len (b_var 1)))) (ss_one (s_ret e_bl)) ss_nil)
  (ss_one (s_ret (e_all V.f_all (PEv.bo (e_lc (PFv.w (i_zip V.f_zip (e_var 0) (e_var 1))) (own := [("left", 2), ("right", 3)]) (by with_unfolding_all rfl) (by decide) (fun _ _ _ _ _ hN hC => (g_tp hC (gs_cons (g_nm 2 hN) (gs_cons (g_nm 3 hN) gs_nil)))) (fun _ _ _ _ _ => ts_nil) (fun _ _ _ _ _ => (e_or (e_eq (b_var 2) (b_var 3)) (e_one (e_in (PEv.bo (e_gstr [120] V.c_ANY)) (PEv.bo (e_tup (a_cons (e_var 2) (a_cons (e_var 3) a_nil)))))))))))))))
theorem ok_are_apart (V : Vx K mg) (g_agree : Ca P w K mg base (ctK K) 1 "agree" Fn_agree) (F : FnP K "are_apart" (top 23) f fd) (hm : mg "are_apart" = some (.ref f)) : Ca P w K mg base (ctK K) 2 "are_apart" Fn_are_apart :=
  def_okD (N := ["entries", "number", "entry", "other"]) (ps := ["entries"]) F hm ⟨rfl, rfl, rfl, by decide +kernel, rfl, by decide +kernel, by decide +kernel⟩ (fun _ _ _ _ _ _ us hl => match us, hl with | [_], _ => rfl) (fun cdv A outer s H E W =>
  (ss_cons (s_for (i_enum V.f_enumerate (e_var 0)) (fun hN hC => (g_tp hC (gs_cons (g_nm 1 hN) (gs_cons (g_nm 2 hN) gs_nil)))) (ss_one (s_if (t_val (e_any V.f_any (PEv.bo (e_lc (w_seq (PEv.bo (e_sl (b_var 0) (o_some (e_add (b_var 1) (PEv.bo e_int))) o_none))) (own := [("other", 3)]) (by with_unfolding_all rfl) (by decide) (fun _ _ _ _ _ hN hC => (g_nm 3 hN)) (fun _ _ _ _ _ => ts_nil) (fun _ _ _ _ _ => (e_callC g_agree (a_cons (e_ix (b_var 2) (PEv.bo e_int)) (a_cons (e_ix (b_var 3) (PEv.bo e_int)) a_nil)))))))) (ss_one (s_ret e_bl)) ss_nil)))
  (ss_one (s_ret e_bl))))
theorem ok_is_int (V : Vx K mg)  (F : FnP K "is_int" (top 18) f fd) (hm : mg "is_int" = some (.ref f)) : Ca P w K mg base (ctK K) 1 "is_int" Fn_is_int :=
  def_okD (N := ["value", "least", "most"]) (ps := ["value", "least", "most"]) F hm ⟨rfl, rfl, rfl, by decide +kernel, rfl, by decide +kernel, by decide +kernel⟩ (fun _ _ _ _ _ _ us hl => match us, hl with | [_, _, _], _ => rfl) (fun cdv A outer s H E W =>
  (ss_one (s_ret (e_and (e_isi .int V.f_isinstance V.f_int (by decide +kernel) (b_var 0)) (e_and (e_not (e_isi .bool V.f_isinstance V.f_bool (by decide +kernel) (b_var 0))) (e_one (e_lele (b_var 1) (b_var 0) (b_var 2))))))))
theorem ok_count_numbers (V : Vx K mg)  (F : FnP K "count_numbers" (top 24) f fd) (hm : mg "count_numbers" = some (.ref f)) : Ca P w K mg base (ctK K) 1 "count_numbers" Fn_count_numbers :=
  def_okD (N := ["size", "entries", "found", "pattern", "holder", "many", "sign"]) (ps := ["size", "entries"]) F hm ⟨rfl, rfl, rfl, by decide +kernel, rfl, by decide +kernel, by decide +kernel⟩ (fun _ _ _ _ _ _ us hl => match us, hl with | [_, _], _ => rfl) (fun cdv A outer s H E W =>
  (ss_cons (s_asg e_int (fun hN hC => g_nm 2 hN))
  (ss_cons (s_for (i_seq (e_var 1)) (fun hN hC => (g_tp hC (gs_cons (g_nm 3 hN) (gs_cons (g_nm 4 hN) gs_nil)))) (ss_cons (s_asg e_int (fun hN hC => g_nm 5 hN))
  (ss_cons (s_for (i_seq (e_var 3)) (fun hN hC => (g_nm 6 hN)) (ss_one (s_asg (e_mul (b_var 5) (PEv.bo (e_if (t_eq (b_var 6) (PEv.bo (e_gstr [120] V.c_ANY))) (e_var 0) e_int))) (fun hN hC => g_nm 5 hN))))
  (ss_one (s_asg (e_add (b_var 2) (b_var 5)) (fun hN hC => g_nm 2 hN))))))
  (ss_one (s_ret (e_var 2))))))
theorem ok_is_word (V : Vx K mg)  (F : FnP K "is_word" (top 19) f fd) (hm : mg "is_word" = some (.ref f)) : Ca P w K mg base (ctK K) 1 "is_word" Fn_is_word :=
  def_okD (N := ["value", "signs", "least", "most", "sign"]) (ps := ["value", "signs", "least", "most"]) F hm ⟨rfl, rfl, rfl, by decide +kernel, rfl, by decide +kernel, by decide +kernel⟩ (fun _ _ _ _ _ _ us hl => match us, hl with | [_, _, _, _], _ => rfl) (fun cdv A outer s H E W =>
  (ss_one (s_ret (e_and (e_isi .str V.f_isinstance V.f_str (by decide +kernel) (b_var 0)) (e_and (e_lele (b_var 2) (PEv.bo (e_len V.f_len (b_var 0))) (b_var 3)) (e_one (e_all V.f_all (PEv.bo (e_lc (w_seq (b_var 0)) (own := [("sign", 4)]) (by with_unfolding_all rfl) (by decide) (fun _ _ _ _ _ hN hC => (g_nm 4 hN)) (fun _ _ _ _ _ => ts_nil) (fun _ _ _ _ _ => (e_in (b_var 4) (b_var 1))))))))))))
theorem ok_is_entry (V : Vx K mg) (g_is_word : Ca P w K mg base (ctK K) 1 "is_word" Fn_is_word) (F : FnP K "is_entry" (top 21) f fd) (hm : mg "is_entry" = some (.ref f)) : Ca P w K mg base (ctK K) 2 "is_entry" Fn_is_entry :=
  def_okD (N := ["size", "value"]) (ps := ["size", "value"]) F hm ⟨rfl, rfl, rfl, by decide +kernel, rfl, by decide +kernel, by decide +kernel⟩ (fun _ _ _ _ _ _ us hl => match us, hl with | [_, _], _ => rfl) (fun cdv A outer s H E W =>
  (ss_cons (s_if (PWv.t (w_or (t_not (t_val (e_isi .tuple V.f_isinstance V.f_tuple (by decide +kernel) (b_var 1)))) (w_or1 (t_ne (PEv.bo (e_len V.f_len (b_var 1))) (PEv.bo e_int))))) (ss_one (s_ret e_bl)) ss_nil)
  (ss_one (s_ret (e_and (e_callC g_is_word (a_cons (e_ix (b_var 1) (PEv.bo e_int)) (a_cons (e_add (PEv.bo (e_sl (PEv.bo (e_gstr [48, 49, 50, 51, 52, 53] V.c_DIGITS)) o_none (o_some (e_var 0)))) (PEv.bo (e_gstr [120] V.c_ANY))) (a_cons e_int (a_cons (e_gint V.c_MAX_LENGTH) a_nil))))) (e_one (e_callC g_is_word (a_cons (e_ix (b_var 1) (PEv.bo e_int)) (a_cons (e_gstr [97, 98, 99, 100, 101, 102, 103, 104, 105, 106, 107, 108, 109, 110, 111, 112, 113, 114, 115, 116, 117, 118, 119, 120, 121, 122] V.c_LETTERS) (a_cons e_int (a_cons (e_gint V.c_MAX_HOLDER) a_nil)))))))))))
theorem ok_is_plan (V : Vx K mg) (g_are_apart : Ca P w K mg base (ctK K) 2 "are_apart" Fn_are_apart) (g_count_numbers : Ca P w K mg base (ctK K) 1 "count_numbers" Fn_count_numbers) (g_is_entry : Ca P w K mg base (ctK K) 2 "is_entry" Fn_is_entry) (g_is_int : Ca P w K mg base (ctK K) 1 "is_int" Fn_is_int) (F : FnP K "is_plan" (top 25) f fd) (hm : mg "is_plan" = some (.ref f)) : Ca P w K mg base (ctK K) 3 "is_plan" Fn_is_plan :=
  def_okD (N := ["candidate", "size", "entries", "entry", "one", "other"]) (ps := ["candidate"]) F hm ⟨rfl, rfl, rfl, by decide +kernel, rfl, by decide +kernel, by decide +kernel⟩ (fun _ _ _ _ _ _ us hl => match us, hl with | [_], _ => rfl) (fun cdv A outer s H E W =>
  (ss_cons (s_if (PWv.t (w_or (t_not (t_val (e_isi .tuple V.f_isinstance V.f_tuple (by decide +kernel) (b_var 0)))) (w_or (t_ne (PEv.bo (e_len V.f_len (b_var 0))) (PEv.bo e_int)) (w_or1 (t_not (t_val (e_callC g_is_int (a_cons (e_ix (b_var 0) (PEv.bo e_int)) (a_cons e_int (a_cons (e_gint V.c_MAX_SIZE) a_nil)))))))))) (ss_one (s_ret e_bl)) ss_nil)
  (ss_cons (s_asg (e_var 0) (fun hN hC => (g_tp hC (gs_cons (g_nm 1 hN) (gs_cons (g_nm 2 hN) gs_nil)))))
  (ss_cons (s_if (PWv.t (w_or (t_not (t_val (e_isi .tuple V.f_isinstance V.f_tuple (by decide +kernel) (b_var 2)))) (w_or1 (t_not (t_lele (PEv.bo e_int) (PEv.bo (e_len V.f_len (b_var 2))) (PEv.bo (e_gint V.c_MAX_ENTRIES))))))) (ss_one (s_ret e_bl)) ss_nil)
  (ss_cons (s_if (t_not (t_val (e_all V.f_all (PEv.bo (e_lc (w_seq (b_var 2)) (own := [("entry", 3)]) (by with_unfolding_all rfl) (by decide) (fun _ _ _ _ _ hN hC => (g_nm 3 hN)) (fun _ _ _ _ _ => ts_nil) (fun _ _ _ _ _ => (e_callC g_is_entry (a_cons (e_var 1) (a_cons (e_var 3) a_nil))))))))) (ss_one (s_ret e_bl)) ss_nil)
  (ss_cons (s_if (t_not (t_val (e_all V.f_all (PEv.bo (e_lc (PFv.w (i_zip V.f_zip (e_var 2) (e_sl (b_var 2) (o_some e_int) o_none))) (own := [("one", 4), ("other", 5)]) (by with_unfolding_all rfl) (by decide) (fun _ _ _ _ _ hN hC => (g_tp hC (gs_cons (g_nm 4 hN) (gs_cons (g_nm 5 hN) gs_nil)))) (fun _ _ _ _ _ => ts_nil) (fun _ _ _ _ _ => (e_lt (b_var 4) (b_var 5)))))))) (ss_one (s_ret e_bl)) ss_nil)
  (ss_one (s_ret (e_and (e_callC g_are_apart (a_cons (e_var 2) a_nil)) (e_one (e_le (PEv.bo (e_callC g_count_numbers (a_cons (e_var 1) (a_cons (e_var 2) a_nil)))) (PEv.bo (e_gint V.c_MAX_NUMBERS)))))))))))))
theorem ok_check_plan (V : Vx K mg) (g_is_plan : Ca P w K mg base (ctK K) 3 "is_plan" Fn_is_plan) (F : FnP K "check_plan" (top 26) f fd) (hm : mg "check_plan" = some (.ref f)) : Ca P w K mg base (ctK K) 4 "check_plan" Fn_check_plan :=
  def_okD (N := ["value"]) (ps := ["value"]) F hm ⟨rfl, rfl, rfl, by decide +kernel, rfl, by decide +kernel, by decide +kernel⟩ (fun _ _ _ _ _ _ us hl => match us, hl with | [_], _ => rfl) (fun cdv A outer s H E W =>
  (ss_one (s_if (t_not (t_val (e_callC g_is_plan (a_cons (e_var 0) a_nil)))) (ss_one (s_raise "InvalidPlan" rfl excV V.x_InvalidPlan.1 V.n_InvalidPlan V.x_InvalidPlan.2.1 V.x_InvalidPlan.2.2.1 V.x_InvalidPlan.2.2.2)) ss_nil)))
theorem ok_digits_of (V : Vx K mg)  (F : FnP K "digits_of" (top 20) f fd) (hm : mg "digits_of" = some (.ref f)) : Ca P w K mg base (ctK K) 1 "digits_of" Fn_digits_of :=
  def_okD (N := ["plan"]) (ps := ["plan"]) F hm ⟨rfl, rfl, rfl, by decide +kernel, rfl, by decide +kernel, by decide +kernel⟩ (fun _ _ _ _ _ _ us hl => match us, hl with | [_], _ => rfl) (fun cdv A outer s H E W =>
  (ss_one (s_ret (e_sl (PEv.bo (e_gstr [48, 49, 50, 51, 52, 53] V.c_DIGITS)) o_none (o_some (e_ix (b_var 0) (PEv.bo e_int)))))))
theorem ok_has_row (V : Vx K mg) (g_digits_of : Ca P w K mg base (ctK K) 1 "digits_of" Fn_digits_of) (g_is_word : Ca P w K mg base (ctK K) 1 "is_word" Fn_is_word) (F : FnP K "has_row" (top 29) f fd) (hm : mg "has_row" = some (.ref f)) : Ca P w K mg base (ctK K) 2 "has_row" Fn_has_row :=
  def_okD (N := ["plan", "value"]) (ps := ["plan", "value"]) F hm ⟨rfl, rfl, rfl, by decide +kernel, rfl, by decide +kernel, by decide +kernel⟩ (fun _ _ _ _ _ _ us hl => match us, hl with | [_, _], _ => rfl) (fun cdv A outer s H E W =>
  (ss_one (s_ret (e_callC g_is_word (a_cons (e_var 1) (a_cons (e_callC g_digits_of (a_cons (e_var 0) a_nil)) (a_cons e_int (a_cons (e_gint V.c_MAX_ROW) a_nil))))))))
theorem ok_check_row (V : Vx K mg) (g_check_plan : Ca P w K mg base (ctK K) 4 "check_plan" Fn_check_plan) (g_has_row : Ca P w K mg base (ctK K) 2 "has_row" Fn_has_row) (F : FnP K "check_row" (top 30) f fd) (hm : mg "check_row" = some (.ref f)) : Ca P w K mg base (ctK K) 5 "check_row" Fn_check_row :=
  def_okD (N := ["plan", "value"]) (ps := ["plan", "value"]) F hm ⟨rfl, rfl, rfl, by decide +kernel, rfl, by decide +kernel, by decide +kernel⟩ (fun _ _ _ _ _ _ us hl => match us, hl with | [_, _], _ => rfl) (fun cdv A outer s H E W =>
  (ss_cons (s_expr (e_callC g_check_plan (a_cons (e_var 0) a_nil)))
  (ss_one (s_if (t_not (t_val (e_callC g_has_row (a_cons (e_var 0) (a_cons (e_var 1) a_nil))))) (ss_one (s_raise "InvalidRow" rfl excV V.x_InvalidRow.1 V.n_InvalidRow V.x_InvalidRow.2.1 V.x_InvalidRow.2.2.1 V.x_InvalidRow.2.2.2)) ss_nil))))
theorem ok_listed_reached (V : Vx K mg)  (F : FnP K "listed_reached" (top 63) f fd) (hm : mg "listed_reached" = some (.ref f)) : Ca P w K mg base (ctK K) 1 "listed_reached" Fn_listed_reached :=
  def_okD (N := ["holders", "row", "size", "part", "longer", "number"]) (ps := ["holders", "row"]) F hm ⟨rfl, rfl, rfl, by decide +kernel, rfl, by decide +kernel, by decide +kernel⟩ (fun _ _ _ _ _ _ us hl => match us, hl with | [_, _], _ => rfl) (fun cdv A outer s H E W =>
  (ss_cons (s_for (i_r2 V.f_range e_int (e_add (PEv.bo (e_len V.f_len (b_var 1))) (PEv.bo e_int))) (fun hN hC => (g_nm 2 hN)) (ss_cons (s_asg (e_sl (b_var 1) o_none (o_some (e_var 2))) (fun hN hC => g_nm 3 hN))
  (ss_cons (s_lcD 4 (e_var 0) (own := [("number", 5)]) (by with_unfolding_all rfl) (by decide) (fun _ _ _ _ _ hN hC => (g_nm 5 hN)) (fun _ _ _ _ _ => (ts_one (PWv.t (w_and (t_gt (PEv.bo (e_len V.f_len (b_var 5))) (b_var 2)) (w_and1 (t_eq (PEv.bo (e_sl (b_var 5) o_none (o_some (e_var 2)))) (b_var 3))))))) (fun _ _ _ _ _ => (e_var 5)) (sw_true rfl rfl rfl (by with_unfolding_all rfl)))
  (ss_one (s_if (t_eq (b_var 4) (PEv.bo (e_lst a_nil))) (ss_one (s_ret (e_if (t_in (b_var 3) (b_var 0)) (e_var 3) e_non))) ss_nil)))))
  (ss_one (s_ret (e_if (t_in (b_var 1) (b_var 0)) (e_var 1) e_non)))))
theorem ok_numbers_of (V : Vx K mg) (g_digits_of : Ca P w K mg base (ctK K) 1 "digits_of" Fn_digits_of) (F : FnP K "numbers_of" (top 27) f fd) (hm : mg "numbers_of" = some (.ref f)) : Ca P w K mg base (ctK K) 2 "numbers_of" Fn_numbers_of :=
  def_okD (N := ["plan", "pattern", "found", "sign", "later", "some", "digit"]) (ps := ["plan", "pattern"]) F hm ⟨rfl, rfl, rfl, by decide +kernel, rfl, by decide +kernel, by decide +kernel⟩ (fun _ _ _ _ _ _ us hl => match us, hl with | [_, _], _ => rfl) (fun cdv A outer s H E W =>
  (ss_cons (s_asg (e_lst (a_cons (e_str []) a_nil)) (fun hN hC => g_nm 2 hN))
  (ss_cons (s_for (i_seq (e_var 1)) (fun hN hC => (g_nm 3 hN)) (ss_cons (s_newL 4 a_nil)
  (ss_cons (s_for (i_seq (e_var 2)) (fun hN hC => (g_nm 5 hN)) (ss_one (s_ext 4 (e_lc (w_seq (PEv.bo (e_if (t_eq (b_var 3) (PEv.bo (e_gstr [120] V.c_ANY))) (e_callC g_digits_of (a_cons (e_var 0) a_nil)) (e_var 3)))) (own := [("digit", 6)]) (by with_unfolding_all rfl) (by decide) (fun _ _ _ _ _ hN hC => (g_nm 6 hN)) (fun _ _ _ _ _ => ts_nil) (fun _ _ _ _ _ => (e_add (b_var 5) (b_var 6)))))))
  (ss_one (s_frz 4 (s_asg (e_var 4) (fun hN hC => g_nm 2 hN)))))))
  (ss_one (s_ret (e_var 2))))))
theorem ok_find_holders (V : Vx K mg) (g_numbers_of : Ca P w K mg base (ctK K) 2 "numbers_of" Fn_numbers_of) (F : FnP K "find_holders" (top 28) f fd) (hm : mg "find_holders" = some (.ref f)) : Ca P w K mg base (ctK K) 3 "find_holders" Fn_find_holders :=
  def_okD (N := ["plan", "found", "pattern", "holder", "number"]) (ps := ["plan"]) F hm ⟨rfl, rfl, rfl, by decide +kernel, rfl, by decide +kernel, by decide +kernel⟩ (fun _ _ _ _ _ _ us hl => match us, hl with | [_], _ => rfl) (fun cdv A outer s H E W =>
  (ss_cons (s_newD 1)
  (ss_cons (s_for (i_seq (e_ix (b_var 0) (PEv.bo e_int))) (fun hN hC => (g_tp hC (gs_cons (g_nm 2 hN) (gs_cons (g_nm 3 hN) gs_nil)))) (ss_one (s_for (i_seq (e_callC g_numbers_of (a_cons (e_var 0) (a_cons (e_var 2) a_nil)))) (fun hN hC => (g_nm 4 hN)) (ss_one (s_put 1 (e_var 4) (e_var 3))))))
  (ss_one (s_frz 1 (s_ret (e_var 1)))))))
theorem ok_naive_reached (V : Vx K mg) (g_check_row : Ca P w K mg base (ctK K) 5 "check_row" Fn_check_row) (g_find_holders : Ca P w K mg base (ctK K) 3 "find_holders" Fn_find_holders) (g_listed_reached : Ca P w K mg base (ctK K) 1 "listed_reached" Fn_listed_reached) (F : FnP K "naive_reached" (top 64) f fd) (hm : mg "naive_reached" = some (.ref f)) : Ca P w K mg base (ctK K) 6 "naive_reached" Fn_naive_reached :=
  def_okD (N := ["plan", "row"]) (ps := ["plan", "row"]) F hm ⟨rfl, rfl, rfl, by decide +kernel, rfl, by decide +kernel, by decide +kernel⟩ (fun _ _ _ _ _ _ us hl => match us, hl with | [_, _], _ => rfl) (fun cdv A outer s H E W =>
  (ss_cons (s_expr (e_callC g_check_row (a_cons (e_var 0) (a_cons (e_var 1) a_nil))))
  (ss_one (s_ret (e_callC g_listed_reached (a_cons (e_callC g_find_holders (a_cons (e_var 0) a_nil)) (a_cons (e_var 1) a_nil)))))))
theorem ok_read (V : Vx K mg)  (F : FnP K "read" (top 34) f fd) (hm : mg "read" = some (.ref f)) : Ca P w K mg base (ctK K) 1 "read" Fn_read :=
  def_okD (N := ["index", "row", "holders", "beginnings", "size", "part"]) (ps := ["index", "row"]) F hm ⟨rfl, rfl, rfl, by decide +kernel, rfl, by decide +kernel, by decide +kernel⟩ (fun _ _ _ _ _ _ us hl => match us, hl with | [_, _], _ => rfl) (fun cdv A outer s H E W =>
  (ss_cons (s_asg (e_var 0) (fun hN hC => (g_tp hC (gs_cons (g_nm 2 hN) (gs_cons (g_nm 3 hN) gs_nil)))))
  (ss_cons (s_for (i_r2 V.f_range e_int (e_add (PEv.bo (e_len V.f_len (b_var 1))) (PEv.bo e_int))) (fun hN hC => (g_nm 4 hN)) (ss_cons (s_asg (e_sl (b_var 1) o_none (o_some (e_var 4))) (fun hN hC => g_nm 5 hN))
  (ss_one (s_if (t_nin (b_var 5) (b_var 3)) (ss_one (s_ret (e_tup (a_cons (e_if (t_in (b_var 5) (b_var 2)) (e_var 5) e_non) (a_cons (e_var 4) a_nil))))) ss_nil))))
  (ss_one (s_ret (e_tup (a_cons (e_if (t_in (b_var 1) (b_var 2)) (e_var 1) e_non) (a_cons (e_len V.f_len (b_var 1)) a_nil))))))))
theorem ok_find_beginnings (V : Vx K mg)  (F : FnP K "find_beginnings" (top 32) f fd) (hm : mg "find_beginnings" = some (.ref f)) : Ca P w K mg base (ctK K) 1 "find_beginnings" Fn_find_beginnings :=
  def_okD (N := ["holders", "found", "number", "size"]) (ps := ["holders"]) F hm ⟨rfl, rfl, rfl, by decide +kernel, rfl, by decide +kernel, by decide +kernel⟩ (fun _ _ _ _ _ _ us hl => match us, hl with | [_], _ => rfl) (fun cdv A outer s H E W =>
  (ss_cons (s_newDK 1 (d_cons (e_str []) e_bl d_nil))
  (ss_cons (s_forD (e_var 0) (fun hN hC => (g_nm 2 hN)) (ss_one (s_for (i_r1 V.f_range (e_len V.f_len (b_var 2))) (fun hN hC => (g_nm 3 hN)) (ss_one (s_put 1 (e_sl (b_var 2) o_none (o_some (e_var 3))) e_bl)))))
  (ss_one (s_frz 1 (s_ret (e_var 1)))))))
theorem ok_find_index (V : Vx K mg) (g_find_beginnings : Ca P w K mg base (ctK K) 1 "find_beginnings" Fn_find_beginnings) (g_find_holders : Ca P w K mg base (ctK K) 3 "find_holders" Fn_find_holders) (F : FnP K "find_index" (top 33) f fd) (hm : mg "find_index" = some (.ref f)) : Ca P w K mg base (ctK K) 4 "find_index" Fn_find_index :=
  def_okD (N := ["plan", "holders"]) (ps := ["plan"]) F hm ⟨rfl, rfl, rfl, by decide +kernel, rfl, by decide +kernel, by decide +kernel⟩ (fun _ _ _ _ _ _ us hl => match us, hl with | [_], _ => rfl) (fun cdv A outer s H E W =>
  (ss_cons (s_asg (e_callC g_find_holders (a_cons (e_var 0) a_nil)) (fun hN hC => g_nm 1 hN))
  (ss_one (s_ret (e_tup (a_cons (e_var 1) (a_cons (e_callC g_find_beginnings (a_cons (e_var 1) a_nil)) a_nil)))))))
theorem ok_reached (V : Vx K mg) (g_check_row : Ca P w K mg base (ctK K) 5 "check_row" Fn_check_row) (g_find_index : Ca P w K mg base (ctK K) 4 "find_index" Fn_find_index) (g_read : Ca P w K mg base (ctK K) 1 "read" Fn_read) (F : FnP K "reached" (top 35) f fd) (hm : mg "reached" = some (.ref f)) : Ca P w K mg base (ctK K) 6 "reached" Fn_reached :=
  def_okD (N := ["plan", "row"]) (ps := ["plan", "row"]) F hm ⟨rfl, rfl, rfl, by decide +kernel, rfl, by decide +kernel, by decide +kernel⟩ (fun _ _ _ _ _ _ us hl => match us, hl with | [_, _], _ => rfl) (fun cdv A outer s H E W =>
  (ss_cons (s_expr (e_callC g_check_row (a_cons (e_var 0) (a_cons (e_var 1) a_nil))))
  (ss_one (s_ret (e_ix (PEv.bo (e_callC g_read (a_cons (e_callC g_find_index (a_cons (e_var 0) a_nil)) (a_cons (e_var 1) a_nil)))) (PEv.bo e_int))))))
theorem ok_all_left (V : Vx K mg)  (F : FnP K "all_left" (top 66) f fd) (hm : mg "all_left" = some (.ref f)) : Ca P w K mg base (ctK K) 1 "all_left" Fn_all_left :=
  def_okD (N := ["number", "found", "digit", "row"]) (ps := ["number"]) F hm ⟨rfl, rfl, rfl, by decide +kernel, rfl, by decide +kernel, by decide +kernel⟩ (fun _ _ _ _ _ _ us hl => match us, hl with | [_], _ => rfl) (fun cdv A outer s H E W =>
  (ss_cons (s_newDK 1 (d_cons (e_str []) e_bl d_nil))
  (ss_cons (s_for (i_seq (e_var 0)) (fun hN hC => (g_nm 2 hN)) (ss_one (s_upd 1 (e_lc (w_seq (PEv.bo (e_lisK V.f_list (b_var 1)))) (own := [("row", 3)]) (by with_unfolding_all rfl) (by decide) (fun _ _ _ _ _ hN hC => (g_nm 3 hN)) (fun _ _ _ _ _ => ts_nil) (fun _ _ _ _ _ => (e_tup (a_cons (e_add (b_var 3) (b_var 2)) (a_cons e_bl a_nil))))))))
  (ss_one (s_frz 1 (s_ret (e_var 1)))))))
theorem ok_naive_hearing (V : Vx K mg) (g_all_left : Ca P w K mg base (ctK K) 1 "all_left" Fn_all_left) (g_check_row : Ca P w K mg base (ctK K) 5 "check_row" Fn_check_row) (g_find_holders : Ca P w K mg base (ctK K) 3 "find_holders" Fn_find_holders) (F : FnP K "naive_hearing" (top 67) f fd) (hm : mg "naive_hearing" = some (.ref f)) : Ca P w K mg base (ctK K) 6 "naive_hearing" Fn_naive_hearing :=
  def_okD (N := ["plan", "row", "number"]) (ps := ["plan", "row"]) F hm ⟨rfl, rfl, rfl, by decide +kernel, rfl, by decide +kernel, by decide +kernel⟩ (fun _ _ _ _ _ _ us hl => match us, hl with | [_, _], _ => rfl) (fun cdv A outer s H E W =>
  (ss_cons (s_expr (e_callC g_check_row (a_cons (e_var 0) (a_cons (e_var 1) a_nil))))
  (ss_one (s_ret (e_sorted V.f_sorted (PEv.bo (e_lcD (e_callC g_find_holders (a_cons (e_var 0) a_nil)) (own := [("number", 2)]) (by with_unfolding_all rfl) (by decide) (fun _ _ _ _ _ hN hC => (g_nm 2 hN)) (fun _ _ _ _ _ => (ts_one (t_in (b_var 1) (PEv.bo (e_callC g_all_left (a_cons (e_var 2) a_nil)))))) (fun _ _ _ _ _ => (e_var 2)))))))))
theorem ok_is_left (V : Vx K mg)  (F : FnP K "is_left" (top 70) f fd) (hm : mg "is_left" = some (.ref f)) : Ca P w K mg base (ctK K) 1 "is_left" Fn_is_left :=
  def_okD (N := ["row", "number", "spot", "digit"]) (ps := ["row", "number"]) F hm ⟨rfl, rfl, rfl, by decide +kernel, rfl, by decide +kernel, by decide +kernel⟩ (fun _ _ _ _ _ _ us hl => match us, hl with | [_, _], _ => rfl) (fun cdv A outer s H E W =>
  (ss_cons (s_asg e_int (fun hN hC => g_nm 2 hN))
  (ss_cons (s_for (i_seq (e_var 1)) (fun hN hC => (g_nm 3 hN)) (ss_one (s_if (PWv.t (w_and (t_lt (b_var 2) (PEv.bo (e_len V.f_len (b_var 0)))) (w_and1 (t_eq (PEv.bo (e_ix (b_var 0) (b_var 2))) (b_var 3))))) (ss_one (s_asg (e_add (b_var 2) (PEv.bo e_int)) (fun hN hC => g_nm 2 hN))) ss_nil)))
  (ss_one (s_ret (e_eq (b_var 2) (PEv.bo (e_len V.f_len (b_var 0)))))))))
theorem ok_find_hearing (V : Vx K mg) (g_is_left : Ca P w K mg base (ctK K) 1 "is_left" Fn_is_left) (F : FnP K "find_hearing" (top 71) f fd) (hm : mg "find_hearing" = some (.ref f)) : Ca P w K mg base (ctK K) 2 "find_hearing" Fn_find_hearing :=
  def_okD (N := ["holders", "row", "number"]) (ps := ["holders", "row"]) F hm ⟨rfl, rfl, rfl, by decide +kernel, rfl, by decide +kernel, by decide +kernel⟩ (fun _ _ _ _ _ _ us hl => match us, hl with | [_, _], _ => rfl) (fun cdv A outer s H E W =>
  (ss_one (s_ret (e_dct V.f_dict (PEv.bo (e_lcD (e_var 0) (own := [("number", 2)]) (by with_unfolding_all rfl) (by decide) (fun _ _ _ _ _ hN hC => (g_nm 2 hN)) (fun _ _ _ _ _ => (ts_one (t_val (e_callC g_is_left (a_cons (e_var 1) (a_cons (e_var 2) a_nil)))))) (fun _ _ _ _ _ => (e_tup (a_cons (e_var 2) (a_cons (e_ix (b_var 0) (b_var 2)) a_nil))))))))))
theorem ok_hearing (V : Vx K mg) (g_check_row : Ca P w K mg base (ctK K) 5 "check_row" Fn_check_row) (g_find_hearing : Ca P w K mg base (ctK K) 2 "find_hearing" Fn_find_hearing) (g_find_holders : Ca P w K mg base (ctK K) 3 "find_holders" Fn_find_holders) (F : FnP K "hearing" (top 72) f fd) (hm : mg "hearing" = some (.ref f)) : Ca P w K mg base (ctK K) 6 "hearing" Fn_hearing :=
  def_okD (N := ["plan", "row"]) (ps := ["plan", "row"]) F hm ⟨rfl, rfl, rfl, by decide +kernel, rfl, by decide +kernel, by decide +kernel⟩ (fun _ _ _ _ _ _ us hl => match us, hl with | [_, _], _ => rfl) (fun cdv A outer s H E W =>
  (ss_cons (s_expr (e_callC g_check_row (a_cons (e_var 0) (a_cons (e_var 1) a_nil))))
  (ss_one (s_ret (e_sorted V.f_sorted (PEv.bo (e_callC g_find_hearing (a_cons (e_callC g_find_holders (a_cons (e_var 0) a_nil)) (a_cons (e_var 1) a_nil)))))))))
theorem ok__law_heardR (V : Vx K mg)  (F : FnP K "_law_heard" (top 80) f fd) (hm : mg "_law_heard" = some (.ref f)) : ∀ n, Ca P w K mg base (ctK K) (0 + 1 + n) "_law_heard" (FnR__law_heard n)
  | 0 => def_okD (N := ["number", "row", "spots", "k"]) (ps := ["number", "row"]) F hm ⟨rfl, rfl, rfl, by decide +kernel, rfl, by decide +kernel, by decide +kernel⟩ (fun _ _ _ _ _ _ us hl => match us, hl with | [_, _], _ => rfl) (fun cdv A outer s H E W => ss_bad)
  | n + 1 => by
    have gR := ok__law_heardR V  F hm n
    exact def_okD (N := ["number", "row", "spots", "k"]) (ps := ["number", "row"]) F hm ⟨rfl, rfl, rfl, by decide +kernel, rfl, by decide +kernel, by decide +kernel⟩ (fun _ _ _ _ _ _ us hl => match us, hl with | [_, _], _ => rfl) (fun cdv A outer s H E W =>
    (ss_cons (s_if (t_eq (b_var 1) (PEv.bo (e_str []))) (ss_one (s_ret e_bl)) ss_nil)
  (ss_cons (s_lc 2 (PFv.w (i_r1 V.f_range (e_len V.f_len (b_var 0)))) (own := [("k", 3)]) (by with_unfolding_all rfl) (by decide) (fun _ _ _ _ _ hN hC => (g_nm 3 hN)) (fun _ _ _ _ _ => (ts_one (t_eq (PEv.bo (e_ix (b_var 0) (b_var 3))) (PEv.bo (e_ix (b_var 1) (PEv.bo e_int)))))) (fun _ _ _ _ _ => (e_var 3)) (sw_true rfl rfl rfl (by with_unfolding_all rfl)))
  (ss_one (s_ret (e_ne (PEv.bo (e_lc (w_seq (b_var 2)) (own := [("k", 3)]) (by with_unfolding_all rfl) (by decide) (fun _ _ _ _ _ hN hC => (g_nm 3 hN)) (fun _ _ _ _ _ => (ts_one (t_val (e_callC gR (a_cons (e_sl (b_var 0) (o_some (e_add (b_var 3) (PEv.bo e_int))) o_none) (a_cons (e_sl (b_var 1) (o_some e_int) o_none) a_nil)) (hj := Nat.le_refl _))))) (fun _ _ _ _ _ => (e_var 3)))) (PEv.bo (e_lst a_nil))))))))
theorem ok__law_heard (V : Vx K mg)  (F : FnP K "_law_heard" (top 80) f fd) (hm : mg "_law_heard" = some (.ref f)) : Ca P w K mg base (ctK K) 9 "_law_heard" Fn__law_heard := ok__law_heardR V  F hm 8
theorem ok__law_is_listed (V : Vx K mg) (g__law_heard : Ca P w K mg base (ctK K) 9 "_law_heard" Fn__law_heard) (g__law_reach : Ca P w K mg base (ctK K) 1 "_law_reach" Fn__law_reach) (g_hearing : Ca P w K mg base (ctK K) 6 "hearing" Fn_hearing) (g_naive_hearing : Ca P w K mg base (ctK K) 6 "naive_hearing" Fn_naive_hearing) (g_naive_reached : Ca P w K mg base (ctK K) 6 "naive_reached" Fn_naive_reached) (g_reached : Ca P w K mg base (ctK K) 6 "reached" Fn_reached) (F : FnP K "_law_is_listed" (top 82) f fd) (hm : mg "_law_is_listed" = some (.ref f)) : Ca P w K mg base (ctK K) 10 "_law_is_listed" Fn__law_is_listed :=
  def_okD (N := ["plan", "owners", "rows_here", "row", "due", "fit", "number"]) (ps := ["plan", "owners", "rows_here"]) F hm ⟨rfl, rfl, rfl, by decide +kernel, rfl, by decide +kernel, by decide +kernel⟩ (fun _ _ _ _ _ _ us hl => match us, hl with | [_, _, _], _ => rfl) (fun cdv A outer s H E W =>
  (ss_cons (s_for (i_seq (e_var 2)) (fun hN hC => (g_nm 3 hN)) (ss_cons (s_asg (e_callC g__law_reach (a_cons (e_var 1) (a_cons (e_var 3) a_nil))) (fun hN hC => g_nm 4 hN))
  (ss_cons (s_if (PWv.t (w_or (t_ne (PEv.bo (e_callC g_naive_reached (a_cons (e_var 0) (a_cons (e_var 3) a_nil)))) (b_var 4)) (w_or1 (t_ne (PEv.bo (e_callC g_reached (a_cons (e_var 0) (a_cons (e_var 3) a_nil)))) (b_var 4))))) (ss_one (s_ret e_bl)) ss_nil)
  (ss_cons (s_asg (e_sorted V.f_sorted (PEv.bo (e_lcD (e_var 1) (own := [("number", 6)]) (by with_unfolding_all rfl) (by decide) (fun _ _ _ _ _ hN hC => (g_nm 6 hN)) (fun _ _ _ _ _ => (ts_one (t_val (e_callC g__law_heard (a_cons (e_var 6) (a_cons (e_var 3) a_nil)))))) (fun _ _ _ _ _ => (e_var 6))))) (fun hN hC => g_nm 5 hN))
  (ss_one (s_if (PWv.t (w_or (t_ne (PEv.bo (e_callC g_naive_hearing (a_cons (e_var 0) (a_cons (e_var 3) a_nil)))) (b_var 5)) (w_or1 (t_ne (PEv.bo (e_callC g_hearing (a_cons (e_var 0) (a_cons (e_var 3) a_nil)))) (b_var 5))))) (ss_one (s_ret e_bl)) ss_nil))))))
  (ss_one (s_ret e_bl))))
theorem ok__law_slips (V : Vx K mg)  (F : FnP K "_law_slips" (top 81) f fd) (hm : mg "_law_slips" = some (.ref f)) : Ca P w K mg base (ctK K) 1 "_law_slips" Fn__law_slips :=
  def_okD (N := ["plan", "number", "kind", "found", "digits", "k", "one", "two"]) (ps := ["plan", "number", "kind"]) F hm ⟨rfl, rfl, rfl, by decide +kernel, rfl, by decide +kernel, by decide +kernel⟩ (fun _ _ _ _ _ _ us hl => match us, hl with | [_, _, _], _ => rfl) (fun cdv A outer s H E W =>
  (ss_cons (s_par2 3 4 (l_lst a_nil (l_fz (e_sl (PEv.bo (e_str [48, 49, 50, 51, 52, 53])) o_none (o_some (e_ix (b_var 0) (PEv.bo e_int)))) l_nil)) (by with_unfolding_all rfl))
  (ss_cons (s_for (i_r1 V.f_range (e_len V.f_len (b_var 1))) (fun hN hC => (g_nm 5 hN)) (ss_cons (s_ext 3 (e_lc (w_seq (b_var 4)) (own := [("one", 6)]) (by with_unfolding_all rfl) (by decide) (fun _ _ _ _ _ hN hC => (g_nm 6 hN)) (fun _ _ _ _ _ => (ts_one (PWv.t (w_and (t_eq (b_var 2) (PEv.bo (e_str [119, 114, 111, 110, 103]))) (w_and1 (t_ne (b_var 6) (PEv.bo (e_ix (b_var 1) (b_var 5))))))))) (fun _ _ _ _ _ => (e_add (PEv.bo (e_add (PEv.bo (e_sl (b_var 1) o_none (o_some (e_var 5)))) (b_var 6))) (PEv.bo (e_sl (b_var 1) (o_some (e_add (b_var 5) (PEv.bo e_int))) o_none))))))
  (ss_cons (s_ext 3 (e_if (t_eq (b_var 2) (PEv.bo (e_str [108, 111, 115, 116]))) (e_lst (a_cons (e_add (PEv.bo (e_sl (b_var 1) o_none (o_some (e_var 5)))) (PEv.bo (e_sl (b_var 1) (o_some (e_add (b_var 5) (PEv.bo e_int))) o_none))) a_nil)) (e_lst a_nil)))
  (ss_cons (s_ext 3 (e_if (t_eq (b_var 2) (PEv.bo (e_str [116, 119, 105, 99, 101]))) (e_lst (a_cons (e_add (PEv.bo (e_sl (b_var 1) o_none (o_some (e_add (b_var 5) (PEv.bo e_int))))) (PEv.bo (e_sl (b_var 1) (o_some (e_var 5)) o_none))) a_nil)) (e_lst a_nil)))
  (ss_one (s_if (PWv.t (w_and (t_eq (b_var 2) (PEv.bo (e_str [115, 119, 97, 112]))) (w_and (t_gt (b_var 5) (PEv.bo e_int)) (w_and1 (t_ne (PEv.bo (e_ix (b_var 1) (b_var 5))) (PEv.bo (e_ix (b_var 1) (PEv.bo (e_sub (b_var 5) (PEv.bo e_int)))))))))) (ss_cons (s_asg (e_add (PEv.bo (e_ix (b_var 1) (b_var 5))) (PEv.bo (e_ix (b_var 1) (PEv.bo (e_sub (b_var 5) (PEv.bo e_int)))))) (fun hN hC => g_nm 7 hN))
  (ss_one (s_app 3 (e_add (PEv.bo (e_add (PEv.bo (e_sl (b_var 1) o_none (o_some (e_sub (b_var 5) (PEv.bo e_int))))) (b_var 7))) (PEv.bo (e_sl (b_var 1) (o_some (e_add (b_var 5) (PEv.bo e_int))) o_none)))))) ss_nil))))))
  (ss_one (s_ret (e_sset V.f_sorted V.f_set (b_var 3)))))))
theorem ok_check_both (V : Vx K mg) (g_check_plan : Ca P w K mg base (ctK K) 4 "check_plan" Fn_check_plan) (F : FnP K "check_both" (top 37) f fd) (hm : mg "check_both" = some (.ref f)) : Ca P w K mg base (ctK K) 5 "check_both" Fn_check_both :=
  def_okD (N := ["one", "other"]) (ps := ["one", "other"]) F hm ⟨rfl, rfl, rfl, by decide +kernel, rfl, by decide +kernel, by decide +kernel⟩ (fun _ _ _ _ _ _ us hl => match us, hl with | [_, _], _ => rfl) (fun cdv A outer s H E W =>
  (ss_cons (s_expr (e_callC g_check_plan (a_cons (e_var 0) a_nil)))
  (ss_cons (s_expr (e_callC g_check_plan (a_cons (e_var 1) a_nil)))
  (ss_one (s_if (t_ne (PEv.bo (e_ix (b_var 0) (PEv.bo e_int))) (PEv.bo (e_ix (b_var 1) (PEv.bo e_int)))) (ss_one (s_raise "OtherSize" rfl excV V.x_OtherSize.1 V.n_OtherSize V.x_OtherSize.2.1 V.x_OtherSize.2.2.1 V.x_OtherSize.2.2.2)) ss_nil)))))
theorem ok_check_length (V : Vx K mg) (g_is_int : Ca P w K mg base (ctK K) 1 "is_int" Fn_is_int) (F : FnP K "check_length" (top 60) f fd) (hm : mg "check_length" = some (.ref f)) : Ca P w K mg base (ctK K) 2 "check_length" Fn_check_length :=
  def_okD (N := ["plan", "value", "many", "turn"]) (ps := ["plan", "value"]) F hm ⟨rfl, rfl, rfl, by decide +kernel, rfl, by decide +kernel, by decide +kernel⟩ (fun _ _ _ _ _ _ us hl => match us, hl with | [_, _], _ => rfl) (fun cdv A outer s H E W =>
  (ss_cons (s_if (t_not (t_val (e_callC g_is_int (a_cons (e_var 1) (a_cons e_int (a_cons (e_gint V.c_MAX_LENGTH) a_nil)))))) (ss_one (s_raise "InvalidLength" rfl excV V.x_InvalidLength.1 V.n_InvalidLength V.x_InvalidLength.2.1 V.x_InvalidLength.2.2.1 V.x_InvalidLength.2.2.2)) ss_nil)
  (ss_cons (s_asg e_int (fun hN hC => g_nm 2 hN))
  (ss_cons (s_for (i_r1 V.f_range (e_var 1)) (fun hN hC => (g_nm 3 hN)) (ss_one (s_asg (e_mul (b_var 2) (PEv.bo (e_ix (b_var 0) (PEv.bo e_int)))) (fun hN hC => g_nm 2 hN))))
  (ss_one (s_if (t_gt (b_var 2) (PEv.bo (e_gint V.c_MAX_ROWS))) (ss_one (s_raise "TooLarge" rfl excV V.x_TooLarge.1 V.n_TooLarge V.x_TooLarge.2.1 V.x_TooLarge.2.2.1 V.x_TooLarge.2.2.2)) ss_nil))))))
theorem ok_find_rows (V : Vx K mg) (g_digits_of : Ca P w K mg base (ctK K) 1 "digits_of" Fn_digits_of) (F : FnP K "find_rows" (top 61) f fd) (hm : mg "find_rows" = some (.ref f)) : Ca P w K mg base (ctK K) 2 "find_rows" Fn_find_rows :=
  def_okD (N := ["plan", "length", "found", "turn", "later", "row", "digit"]) (ps := ["plan", "length"]) F hm ⟨rfl, rfl, rfl, by decide +kernel, rfl, by decide +kernel, by decide +kernel⟩ (fun _ _ _ _ _ _ us hl => match us, hl with | [_, _], _ => rfl) (fun cdv A outer s H E W =>
  (ss_cons (s_asg (e_lst (a_cons (e_str []) a_nil)) (fun hN hC => g_nm 2 hN))
  (ss_cons (s_for (i_r1 V.f_range (e_var 1)) (fun hN hC => (g_nm 3 hN)) (ss_cons (s_newL 4 a_nil)
  (ss_cons (s_for (i_seq (e_var 2)) (fun hN hC => (g_nm 5 hN)) (ss_one (s_ext 4 (e_lc (w_seq (PEv.bo (e_callC g_digits_of (a_cons (e_var 0) a_nil)))) (own := [("digit", 6)]) (by with_unfolding_all rfl) (by decide) (fun _ _ _ _ _ hN hC => (g_nm 6 hN)) (fun _ _ _ _ _ => ts_nil) (fun _ _ _ _ _ => (e_add (b_var 5) (b_var 6)))))))
  (ss_one (s_frz 4 (s_asg (e_var 4) (fun hN hC => g_nm 2 hN)))))))
  (ss_one (s_ret (e_var 2))))))
theorem ok_naive_parting (V : Vx K mg) (g_check_both : Ca P w K mg base (ctK K) 5 "check_both" Fn_check_both) (g_check_length : Ca P w K mg base (ctK K) 2 "check_length" Fn_check_length) (g_find_holders : Ca P w K mg base (ctK K) 3 "find_holders" Fn_find_holders) (g_find_rows : Ca P w K mg base (ctK K) 2 "find_rows" Fn_find_rows) (g_listed_reached : Ca P w K mg base (ctK K) 1 "listed_reached" Fn_listed_reached) (F : FnP K "naive_parting" (top 68) f fd) (hm : mg "naive_parting" = some (.ref f)) : Ca P w K mg base (ctK K) 6 "naive_parting" Fn_naive_parting :=
  def_okD (N := ["one", "other", "length", "first", "second", "size", "row", "left", "right"]) (ps := ["one", "other", "length"]) F hm ⟨rfl, rfl, rfl, by decide +kernel, rfl, by decide +kernel, by decide +kernel⟩ (fun _ _ _ _ _ _ us hl => match us, hl with | [_, _, _], _ => rfl) (fun cdv A outer s H E W =>
  (ss_cons (s_expr (e_callC g_check_both (a_cons (e_var 0) (a_cons (e_var 1) a_nil))))
  (ss_cons (s_expr (e_callC g_check_length (a_cons (e_var 0) (a_cons (e_var 2) a_nil))))
  (ss_cons (s_par2 3 4 (l_fz (e_callC g_find_holders (a_cons (e_var 0) a_nil)) (l_fz (e_callC g_find_holders (a_cons (e_var 1) a_nil)) l_nil)) (by with_unfolding_all rfl))
  (ss_cons (s_for (i_r1 V.f_range (e_add (b_var 2) (PEv.bo e_int))) (fun hN hC => (g_nm 5 hN)) (ss_one (s_for (i_seq (e_callC g_find_rows (a_cons (e_var 0) (a_cons (e_var 5) a_nil)))) (fun hN hC => (g_nm 6 hN)) (ss_cons (s_par2 7 8 (l_fz (e_callC g_listed_reached (a_cons (e_var 3) (a_cons (e_var 6) a_nil))) (l_fz (e_callC g_listed_reached (a_cons (e_var 4) (a_cons (e_var 6) a_nil))) l_nil)) (by with_unfolding_all rfl))
  (ss_one (s_if (t_ne (PEv.bo (e_get1N (b_var 3) (e_var 7))) (PEv.bo (e_get1N (b_var 4) (e_var 8)))) (ss_one (s_ret (e_var 6))) ss_nil))))))
  (ss_one (s_ret e_non)))))))
theorem ok_all_rows (V : Vx K mg) (g_check_length : Ca P w K mg base (ctK K) 2 "check_length" Fn_check_length) (g_check_plan : Ca P w K mg base (ctK K) 4 "check_plan" Fn_check_plan) (g_find_rows : Ca P w K mg base (ctK K) 2 "find_rows" Fn_find_rows) (F : FnP K "all_rows" (top 62) f fd) (hm : mg "all_rows" = some (.ref f)) : Ca P w K mg base (ctK K) 5 "all_rows" Fn_all_rows :=
  def_okD (N := ["plan", "length"]) (ps := ["plan", "length"]) F hm ⟨rfl, rfl, rfl, by decide +kernel, rfl, by decide +kernel, by decide +kernel⟩ (fun _ _ _ _ _ _ us hl => match us, hl with | [_, _], _ => rfl) (fun cdv A outer s H E W =>
  (ss_cons (s_expr (e_callC g_check_plan (a_cons (e_var 0) a_nil)))
  (ss_cons (s_expr (e_callC g_check_length (a_cons (e_var 0) (a_cons (e_var 1) a_nil))))
  (ss_one (s_ret (e_callC g_find_rows (a_cons (e_var 0) (a_cons (e_var 1) a_nil))))))))
theorem ok_check_kind (V : Vx K mg)  (F : FnP K "check_kind" (top 54) f fd) (hm : mg "check_kind" = some (.ref f)) : Ca P w K mg base (ctK K) 1 "check_kind" Fn_check_kind :=
  def_okD (N := ["value"]) (ps := ["value"]) F hm ⟨rfl, rfl, rfl, by decide +kernel, rfl, by decide +kernel, by decide +kernel⟩ (fun _ _ _ _ _ _ us hl => match us, hl with | [_], _ => rfl) (fun cdv A outer s H E W =>
  (ss_one (s_if (PWv.t (w_or (t_not (t_val (e_isi .str V.f_isinstance V.f_str (by decide +kernel) (b_var 0)))) (w_or1 (t_nin (b_var 0) (PEv.bo (e_gtup V.c_KINDS V.t_KINDS)))))) (ss_one (s_raise "InvalidKind" rfl excV V.x_InvalidKind.1 V.n_InvalidKind V.x_InvalidKind.2.1 V.x_InvalidKind.2.2.1 V.x_InvalidKind.2.2.2)) ss_nil)))
theorem ok_wrong_rows (V : Vx K mg)  (F : FnP K "wrong_rows" (top 51) f fd) (hm : mg "wrong_rows" = some (.ref f)) : Ca P w K mg base (ctK K) 1 "wrong_rows" Fn_wrong_rows :=
  def_okD (N := ["number", "digits", "found", "spot", "sign", "digit"]) (ps := ["number", "digits"]) F hm ⟨rfl, rfl, rfl, by decide +kernel, rfl, by decide +kernel, by decide +kernel⟩ (fun _ _ _ _ _ _ us hl => match us, hl with | [_, _], _ => rfl) (fun cdv A outer s H E W =>
  (ss_cons (s_newL 2 a_nil)
  (ss_cons (s_for (i_enum V.f_enumerate (e_var 0)) (fun hN hC => (g_tp hC (gs_cons (g_nm 3 hN) (gs_cons (g_nm 4 hN) gs_nil)))) (ss_one (s_ext 2 (e_lc (w_seq (b_var 1)) (own := [("digit", 5)]) (by with_unfolding_all rfl) (by decide) (fun _ _ _ _ _ hN hC => (g_nm 5 hN)) (fun _ _ _ _ _ => (ts_one (t_ne (b_var 5) (b_var 4)))) (fun _ _ _ _ _ => (e_add (PEv.bo (e_add (PEv.bo (e_sl (b_var 0) o_none (o_some (e_var 3)))) (b_var 5))) (PEv.bo (e_sl (b_var 0) (o_some (e_add (b_var 3) (PEv.bo e_int))) o_none))))))))
  (ss_one (s_frz 2 (s_ret (e_var 2)))))))
theorem ok_swapped_rows (V : Vx K mg)  (F : FnP K "swapped_rows" (top 52) f fd) (hm : mg "swapped_rows" = some (.ref f)) : Ca P w K mg base (ctK K) 1 "swapped_rows" Fn_swapped_rows :=
  def_okD (N := ["number", "found", "spot", "one", "other"]) (ps := ["number"]) F hm ⟨rfl, rfl, rfl, by decide +kernel, rfl, by decide +kernel, by decide +kernel⟩ (fun _ _ _ _ _ _ us hl => match us, hl with | [_], _ => rfl) (fun cdv A outer s H E W =>
  (ss_cons (s_newL 1 a_nil)
  (ss_cons (s_for (i_r1 V.f_range (e_sub (PEv.bo (e_len V.f_len (b_var 0))) (PEv.bo e_int))) (fun hN hC => (g_nm 2 hN)) (ss_cons (s_par2 3 4 (l_fz (e_ix (b_var 0) (b_var 2)) (l_fz (e_ix (b_var 0) (PEv.bo (e_add (b_var 2) (PEv.bo e_int)))) l_nil)) (by with_unfolding_all rfl))
  (ss_one (s_if (t_ne (b_var 3) (b_var 4)) (ss_one (s_app 1 (e_add (PEv.bo (e_add (PEv.bo (e_add (PEv.bo (e_sl (b_var 0) o_none (o_some (e_var 2)))) (b_var 4))) (b_var 3))) (PEv.bo (e_sl (b_var 0) (o_some (e_add (b_var 2) (PEv.bo e_int))) o_none))))) ss_nil))))
  (ss_one (s_frz 1 (s_ret (e_var 1)))))))
theorem ok_find_slips (V : Vx K mg) (g_digits_of : Ca P w K mg base (ctK K) 1 "digits_of" Fn_digits_of) (g_swapped_rows : Ca P w K mg base (ctK K) 1 "swapped_rows" Fn_swapped_rows) (g_wrong_rows : Ca P w K mg base (ctK K) 1 "wrong_rows" Fn_wrong_rows) (F : FnP K "find_slips" (top 53) f fd) (hm : mg "find_slips" = some (.ref f)) : Ca P w K mg base (ctK K) 2 "find_slips" Fn_find_slips :=
  def_okD (N := ["plan", "number", "kind", "spots", "spot"]) (ps := ["plan", "number", "kind"]) F hm ⟨rfl, rfl, rfl, by decide +kernel, rfl, by decide +kernel, by decide +kernel⟩ (fun _ _ _ _ _ _ us hl => match us, hl with | [_, _, _], _ => rfl) (fun cdv A outer s H E W =>
  (ss_cons (s_if (t_eq (b_var 2) (PEv.bo (e_gstr [119, 114, 111, 110, 103] V.c_WRONG))) (ss_one (s_ret (e_sorted V.f_sorted (PEv.bo (e_callC g_wrong_rows (a_cons (e_var 1) (a_cons (e_callC g_digits_of (a_cons (e_var 0) a_nil)) a_nil))))))) ss_nil)
  (ss_cons (s_if (t_eq (b_var 2) (PEv.bo (e_gstr [115, 119, 97, 112] V.c_SWAP))) (ss_one (s_ret (e_sset V.f_sorted V.f_set (PEv.bo (e_callC g_swapped_rows (a_cons (e_var 1) a_nil)))))) ss_nil)
  (ss_cons (s_asg (e_lrng V.f_list V.f_range (e_len V.f_len (b_var 1))) (fun hN hC => g_nm 3 hN))
  (ss_cons (s_if (t_eq (b_var 2) (PEv.bo (e_gstr [108, 111, 115, 116] V.c_LOST))) (ss_one (s_ret (e_sset V.f_sorted V.f_set (PEv.bo (e_lc (w_seq (b_var 3)) (own := [("spot", 4)]) (by with_unfolding_all rfl) (by decide) (fun _ _ _ _ _ hN hC => (g_nm 4 hN)) (fun _ _ _ _ _ => ts_nil) (fun _ _ _ _ _ => (e_add (PEv.bo (e_sl (b_var 1) o_none (o_some (e_var 4)))) (PEv.bo (e_sl (b_var 1) (o_some (e_add (b_var 4) (PEv.bo e_int))) o_none))))))))) ss_nil)
  (ss_one (s_ret (e_sset V.f_sorted V.f_set (PEv.bo (e_lc (w_seq (b_var 3)) (own := [("spot", 4)]) (by with_unfolding_all rfl) (by decide) (fun _ _ _ _ _ hN hC => (g_nm 4 hN)) (fun _ _ _ _ _ => ts_nil) (fun _ _ _ _ _ => (e_add (PEv.bo (e_add (PEv.bo (e_sl (b_var 1) o_none (o_some (e_var 4)))) (PEv.bo (e_ix (b_var 1) (b_var 4))))) (PEv.bo (e_sl (b_var 1) (o_some (e_var 4)) o_none))))))))))))))
theorem ok_naive_strays (V : Vx K mg) (g_check_kind : Ca P w K mg base (ctK K) 1 "check_kind" Fn_check_kind) (g_check_plan : Ca P w K mg base (ctK K) 4 "check_plan" Fn_check_plan) (g_find_holders : Ca P w K mg base (ctK K) 3 "find_holders" Fn_find_holders) (g_find_slips : Ca P w K mg base (ctK K) 2 "find_slips" Fn_find_slips) (g_listed_reached : Ca P w K mg base (ctK K) 1 "listed_reached" Fn_listed_reached) (F : FnP K "naive_strays" (top 65) f fd) (hm : mg "naive_strays" = some (.ref f)) : Ca P w K mg base (ctK K) 5 "naive_strays" Fn_naive_strays :=
  def_okD (N := ["plan", "kind", "holders", "found", "number", "row", "other"]) (ps := ["plan", "kind"]) F hm ⟨rfl, rfl, rfl, by decide +kernel, rfl, by decide +kernel, by decide +kernel⟩ (fun _ _ _ _ _ _ us hl => match us, hl with | [_, _], _ => rfl) (fun cdv A outer s H E W =>
  (ss_cons (s_expr (e_callC g_check_plan (a_cons (e_var 0) a_nil)))
  (ss_cons (s_expr (e_callC g_check_kind (a_cons (e_var 1) a_nil)))
  (ss_cons (s_par2 2 3 (l_fz (e_callC g_find_holders (a_cons (e_var 0) a_nil)) (l_lst a_nil l_nil)) (by with_unfolding_all rfl))
  (ss_cons (s_forD (e_var 2) (fun hN hC => (g_nm 4 hN)) (ss_one (s_for (i_seq (e_callC g_find_slips (a_cons (e_var 0) (a_cons (e_var 4) (a_cons (e_var 1) a_nil))))) (fun hN hC => (g_nm 5 hN)) (ss_cons (s_asg (e_callC g_listed_reached (a_cons (e_var 2) (a_cons (e_var 5) a_nil))) (fun hN hC => g_nm 6 hN))
  (ss_one (s_if (PWv.t (w_and (t_isn (b_var 6) (PEv.bo e_non)) (w_and1 (t_ne (PEv.bo (e_ix (b_var 2) (b_var 6))) (PEv.bo (e_ix (b_var 2) (b_var 4))))))) (ss_one (s_app 3 (e_tup (a_cons (e_var 4) (a_cons (e_var 5) (a_cons (e_var 6) a_nil)))))) ss_nil))))))
  (ss_one (s_ret (e_sorted V.f_sorted (b_var 3)))))))))
theorem ok_find_fate (V : Vx K mg) (g_read : Ca P w K mg base (ctK K) 1 "read" Fn_read) (F : FnP K "find_fate" (top 55) f fd) (hm : mg "find_fate" = some (.ref f)) : Ca P w K mg base (ctK K) 2 "find_fate" Fn_find_fate :=
  def_okD (N := ["index", "number", "row", "other"]) (ps := ["index", "number", "row"]) F hm ⟨rfl, rfl, rfl, by decide +kernel, rfl, by decide +kernel, by decide +kernel⟩ (fun _ _ _ _ _ _ us hl => match us, hl with | [_, _, _], _ => rfl) (fun cdv A outer s H E W =>
  (ss_cons (s_asg (e_ix (PEv.bo (e_callC g_read (a_cons (e_var 0) (a_cons (e_var 2) a_nil)))) (PEv.bo e_int)) (fun hN hC => g_nm 3 hN))
  (ss_cons (s_if (t_is (b_var 3) (PEv.bo e_non)) (ss_one (s_ret (e_gstr [110, 111, 116, 105, 99, 101, 100] V.c_NOTICED))) ss_nil)
  (ss_one (s_ret (e_if (t_eq (PEv.bo (e_ix (PEv.bo (e_ix (b_var 0) (PEv.bo e_int))) (b_var 3))) (PEv.bo (e_ix (PEv.bo (e_ix (b_var 0) (PEv.bo e_int))) (b_var 1)))) (e_gstr [115, 97, 109, 101] V.c_SAME) (e_gstr [97, 115, 116, 114, 97, 121] V.c_ASTRAY)))))))
theorem ok_find_strays (V : Vx K mg) (g_find_fate : Ca P w K mg base (ctK K) 2 "find_fate" Fn_find_fate) (g_find_index : Ca P w K mg base (ctK K) 4 "find_index" Fn_find_index) (g_find_slips : Ca P w K mg base (ctK K) 2 "find_slips" Fn_find_slips) (g_read : Ca P w K mg base (ctK K) 1 "read" Fn_read) (F : FnP K "find_strays" (top 56) f fd) (hm : mg "find_strays" = some (.ref f)) : Ca P w K mg base (ctK K) 5 "find_strays" Fn_find_strays :=
  def_okD (N := ["plan", "kind", "index", "found", "number", "row"]) (ps := ["plan", "kind"]) F hm ⟨rfl, rfl, rfl, by decide +kernel, rfl, by decide +kernel, by decide +kernel⟩ (fun _ _ _ _ _ _ us hl => match us, hl with | [_, _], _ => rfl) (fun cdv A outer s H E W =>
  (ss_cons (s_par2 2 3 (l_fz (e_callC g_find_index (a_cons (e_var 0) a_nil)) (l_lst a_nil l_nil)) (by with_unfolding_all rfl))
  (ss_cons (s_for (i_seq (e_sorted V.f_sorted (PEv.bo (e_ix (b_var 2) (PEv.bo e_int))))) (fun hN hC => (g_nm 4 hN)) (ss_one (s_for (i_seq (e_callC g_find_slips (a_cons (e_var 0) (a_cons (e_var 4) (a_cons (e_var 1) a_nil))))) (fun hN hC => (g_nm 5 hN)) (ss_one (s_if (t_eq (PEv.bo (e_callC g_find_fate (a_cons (e_var 2) (a_cons (e_var 4) (a_cons (e_var 5) a_nil))))) (PEv.bo (e_gstr [97, 115, 116, 114, 97, 121] V.c_ASTRAY))) (ss_one (s_app 3 (e_tup (a_cons (e_var 4) (a_cons (e_var 5) (a_cons (e_ix (PEv.bo (e_callC g_read (a_cons (e_var 2) (a_cons (e_var 5) a_nil)))) (PEv.bo e_int)) a_nil)))))) ss_nil)))))
  (ss_one (s_frz 3 (s_ret (e_var 3)))))))
theorem ok_strays (V : Vx K mg) (g_check_kind : Ca P w K mg base (ctK K) 1 "check_kind" Fn_check_kind) (g_check_plan : Ca P w K mg base (ctK K) 4 "check_plan" Fn_check_plan) (g_find_strays : Ca P w K mg base (ctK K) 5 "find_strays" Fn_find_strays) (F : FnP K "strays" (top 57) f fd) (hm : mg "strays" = some (.ref f)) : Ca P w K mg base (ctK K) 6 "strays" Fn_strays :=
  def_okD (N := ["plan", "kind"]) (ps := ["plan", "kind"]) F hm ⟨rfl, rfl, rfl, by decide +kernel, rfl, by decide +kernel, by decide +kernel⟩ (fun _ _ _ _ _ _ us hl => match us, hl with | [_, _], _ => rfl) (fun cdv A outer s H E W =>
  (ss_cons (s_expr (e_callC g_check_plan (a_cons (e_var 0) a_nil)))
  (ss_cons (s_expr (e_callC g_check_kind (a_cons (e_var 1) a_nil)))
  (ss_one (s_ret (e_callC g_find_strays (a_cons (e_var 0) (a_cons (e_var 1) a_nil))))))))
theorem ok_open_rows (V : Vx K mg) (g_digits_of : Ca P w K mg base (ctK K) 1 "digits_of" Fn_digits_of) (g_find_index : Ca P w K mg base (ctK K) 4 "find_index" Fn_find_index) (F : FnP K "open_rows" (top 39) f fd) (hm : mg "open_rows" = some (.ref f)) : Ca P w K mg base (ctK K) 5 "open_rows" Fn_open_rows :=
  def_okD (N := ["one", "other", "first", "second", "found", "level", "size", "row", "rows", "digit"]) (ps := ["one", "other"]) F hm ⟨rfl, rfl, rfl, by decide +kernel, rfl, by decide +kernel, by decide +kernel⟩ (fun _ _ _ _ _ _ us hl => match us, hl with | [_, _], _ => rfl) (fun cdv A outer s H E W =>
  (ss_cons (s_parT (l_fz (e_callC g_find_index (a_cons (e_var 0) a_nil)) (l_fz (e_callC g_find_index (a_cons (e_var 1) a_nil)) l_nil)) (fun hN hC => (gs_cons (g_nm 2 hN) (gs_cons (g_nm 3 hN) gs_nil))))
  (ss_cons (s_par2 4 5 (l_lst a_nil (l_fz (e_lst (a_cons (e_str []) a_nil)) l_nil)) (by with_unfolding_all rfl))
  (ss_cons (s_for (i_r1 V.f_range (e_gint V.c_MAX_LENGTH)) (fun hN hC => (g_nm 6 hN)) (ss_cons (s_lc 5 (w_seq (b_var 5)) (own := [("row", 7)]) (by with_unfolding_all rfl) (by decide) (fun _ _ _ _ _ hN hC => (g_nm 7 hN)) (fun _ _ _ _ _ => (ts_one (PWv.t (w_or (t_in (b_var 7) (PEv.bo (e_ix (b_var 2) (PEv.bo e_int)))) (w_or1 (t_in (b_var 7) (PEv.bo (e_ix (b_var 3) (PEv.bo e_int))))))))) (fun _ _ _ _ _ => (e_var 7)) (sw_true rfl rfl rfl (by with_unfolding_all rfl)))
  (ss_cons (s_newL 8 a_nil)
  (ss_cons (s_for (i_seq (e_var 5)) (fun hN hC => (g_nm 7 hN)) (ss_one (s_ext 8 (e_lc (w_seq (PEv.bo (e_callC g_digits_of (a_cons (e_var 0) a_nil)))) (own := [("digit", 9)]) (by with_unfolding_all rfl) (by decide) (fun _ _ _ _ _ hN hC => (g_nm 9 hN)) (fun _ _ _ _ _ => ts_nil) (fun _ _ _ _ _ => (e_add (b_var 7) (b_var 9)))))))
  (ss_cons (s_frz 8 (s_app 4 (e_var 8)))
  (ss_one (s_frz 8 (s_asg (e_var 8) (fun hN hC => g_nm 5 hN)))))))))
  (ss_one (s_frz 4 (s_ret (e_var 4))))))))
theorem ok_holder_reached (V : Vx K mg) (g_read : Ca P w K mg base (ctK K) 1 "read" Fn_read) (F : FnP K "holder_reached" (top 38) f fd) (hm : mg "holder_reached" = some (.ref f)) : Ca P w K mg base (ctK K) 2 "holder_reached" Fn_holder_reached :=
  def_okD (N := ["index", "row", "number"]) (ps := ["index", "row"]) F hm ⟨rfl, rfl, rfl, by decide +kernel, rfl, by decide +kernel, by decide +kernel⟩ (fun _ _ _ _ _ _ us hl => match us, hl with | [_, _], _ => rfl) (fun cdv A outer s H E W =>
  (ss_cons (s_asg (e_ix (PEv.bo (e_callC g_read (a_cons (e_var 0) (a_cons (e_var 1) a_nil)))) (PEv.bo e_int)) (fun hN hC => g_nm 2 hN))
  (ss_one (s_ret (e_if (t_isn (b_var 2) (PEv.bo e_non)) (e_ix (PEv.bo (e_ix (b_var 0) (PEv.bo e_int))) (b_var 2)) e_non)))))
theorem ok_find_unlike (V : Vx K mg) (g_find_index : Ca P w K mg base (ctK K) 4 "find_index" Fn_find_index) (g_holder_reached : Ca P w K mg base (ctK K) 2 "holder_reached" Fn_holder_reached) (g_open_rows : Ca P w K mg base (ctK K) 5 "open_rows" Fn_open_rows) (F : FnP K "find_unlike" (top 40) f fd) (hm : mg "find_unlike" = some (.ref f)) : Ca P w K mg base (ctK K) 6 "find_unlike" Fn_find_unlike :=
  def_okD (N := ["one", "other", "first", "second", "found", "rows", "row"]) (ps := ["one", "other"]) F hm ⟨rfl, rfl, rfl, by decide +kernel, rfl, by decide +kernel, by decide +kernel⟩ (fun _ _ _ _ _ _ us hl => match us, hl with | [_, _], _ => rfl) (fun cdv A outer s H E W =>
  (ss_cons (s_parT (l_fz (e_callC g_find_index (a_cons (e_var 0) a_nil)) (l_fz (e_callC g_find_index (a_cons (e_var 1) a_nil)) l_nil)) (fun hN hC => (gs_cons (g_nm 2 hN) (gs_cons (g_nm 3 hN) gs_nil))))
  (ss_cons (s_newL 4 a_nil)
  (ss_cons (s_for (i_seq (e_callC g_open_rows (a_cons (e_var 0) (a_cons (e_var 1) a_nil)))) (fun hN hC => (g_nm 5 hN)) (ss_one (s_ext 4 (e_lc (w_seq (b_var 5)) (own := [("row", 6)]) (by with_unfolding_all rfl) (by decide) (fun _ _ _ _ _ hN hC => (g_nm 6 hN)) (fun _ _ _ _ _ => (ts_one (t_ne (PEv.bo (e_callC g_holder_reached (a_cons (e_var 2) (a_cons (e_var 6) a_nil)))) (PEv.bo (e_callC g_holder_reached (a_cons (e_var 3) (a_cons (e_var 6) a_nil))))))) (fun _ _ _ _ _ => (e_var 6))))))
  (ss_one (s_frz 4 (s_ret (e_var 4))))))))
theorem ok_parting_row (V : Vx K mg) (g_check_both : Ca P w K mg base (ctK K) 5 "check_both" Fn_check_both) (g_find_unlike : Ca P w K mg base (ctK K) 6 "find_unlike" Fn_find_unlike) (F : FnP K "parting_row" (top 41) f fd) (hm : mg "parting_row" = some (.ref f)) : Ca P w K mg base (ctK K) 7 "parting_row" Fn_parting_row :=
  def_okD (N := ["one", "other", "found"]) (ps := ["one", "other"]) F hm ⟨rfl, rfl, rfl, by decide +kernel, rfl, by decide +kernel, by decide +kernel⟩ (fun _ _ _ _ _ _ us hl => match us, hl with | [_, _], _ => rfl) (fun cdv A outer s H E W =>
  (ss_cons (s_expr (e_callC g_check_both (a_cons (e_var 0) (a_cons (e_var 1) a_nil))))
  (ss_cons (s_asg (e_callC g_find_unlike (a_cons (e_var 0) (a_cons (e_var 1) a_nil))) (fun hN hC => g_nm 2 hN))
  (ss_one (s_ret (e_if (t_ne (b_var 2) (PEv.bo (e_lst a_nil))) (e_ix (b_var 2) (PEv.bo e_int)) e_non))))))
theorem ok__law_row (V : Vx K mg) (g__law_pick : Ca P w K mg base (ctK K) 1 "_law_pick" Fn__law_pick) (F : FnP K "_law_row" (top 79) f fd) (hm : mg "_law_row" = some (.ref f)) : Ca P w K mg base (ctK K) 2 "_law_row" Fn__law_row :=
  def_okD (N := ["script", "at", "plan", "many", "k"]) (ps := ["script", "at", "plan", "many"]) F hm ⟨rfl, rfl, rfl, by decide +kernel, rfl, by decide +kernel, by decide +kernel⟩ (fun _ _ _ _ _ _ us hl => match us, hl with | [_, _, _, _], _ => rfl) (fun cdv A outer s H E W =>
  (ss_one (s_ret (e_join (e_str []) (PEv.bo (e_lc (PFv.w (i_r1 V.f_range (e_var 3))) (own := [("k", 4)]) (by with_unfolding_all rfl) (by decide) (fun _ _ _ _ _ hN hC => (g_nm 4 hN)) (fun _ _ _ _ _ => ts_nil) (fun _ _ _ _ _ => (e_ix (PEv.bo (e_str [48, 49, 50, 51, 52, 53])) (PEv.bo (e_callC g__law_pick (a_cons (e_var 0) (a_cons (e_add (b_var 1) (b_var 4)) (a_cons (e_ix (b_var 2) (PEv.bo e_int)) a_nil)))))))))))))
theorem ok_law (V : Vx K mg) (g__law_first : Ca P w K mg base (ctK K) 2 "_law_first" Fn__law_first) (g__law_is_listed : Ca P w K mg base (ctK K) 10 "_law_is_listed" Fn__law_is_listed) (g__law_owners : Ca P w K mg base (ctK K) 1 "_law_owners" Fn__law_owners) (g__law_pick : Ca P w K mg base (ctK K) 1 "_law_pick" Fn__law_pick) (g__law_plan : Ca P w K mg base (ctK K) 2 "_law_plan" Fn__law_plan) (g__law_reach : Ca P w K mg base (ctK K) 1 "_law_reach" Fn__law_reach) (g__law_row : Ca P w K mg base (ctK K) 2 "_law_row" Fn__law_row) (g__law_slips : Ca P w K mg base (ctK K) 1 "_law_slips" Fn__law_slips) (g_all_rows : Ca P w K mg base (ctK K) 5 "all_rows" Fn_all_rows) (g_naive_hearing : Ca P w K mg base (ctK K) 6 "naive_hearing" Fn_naive_hearing) (g_naive_parting : Ca P w K mg base (ctK K) 6 "naive_parting" Fn_naive_parting) (g_naive_reached : Ca P w K mg base (ctK K) 6 "naive_reached" Fn_naive_reached) (g_naive_strays : Ca P w K mg base (ctK K) 5 "naive_strays" Fn_naive_strays) (g_parting_row : Ca P w K mg base (ctK K) 7 "parting_row" Fn_parting_row) (g_strays : Ca P w K mg base (ctK K) 6 "strays" Fn_strays) (F : FnP K "law" (top 84) f fd) : FnOk P w K mg base (L2.CX P w) 11 f fd ["script"] (spF K (ctK K) Fn_law) :=
  def_okF (N := ["script", "i", "plan", "other", "owners", "level", "whole", "size", "more", "row", "digit", "kind", "due", "number", "there", "changed", "first", "less"]) (ps := ["script"]) F ⟨rfl, rfl, rfl, by decide +kernel, rfl, by decide +kernel, by decide +kernel⟩ (fun cdv A outer s H E W =>
  (ss_cons (s_for (i_r1 V.f_range e_int) (fun hN hC => (g_nm 1 hN)) (ss_cons (s_parT (l_fz (e_callC g__law_plan (a_cons (e_var 0) (a_cons (e_mul (PEv.bo e_int) (b_var 1)) a_nil))) (l_fz (e_callC g__law_plan (a_cons (e_var 0) (a_cons (e_add (PEv.bo (e_mul (PEv.bo e_int) (b_var 1))) (PEv.bo e_int)) a_nil))) l_nil)) (fun hN hC => (gs_cons (g_nm 2 hN) (gs_cons (g_nm 3 hN) gs_nil))))
  (ss_cons (s_par3 4 5 6 (l_fz (e_callC g__law_owners (a_cons (e_var 2) a_nil)) (l_fz (e_lst (a_cons (e_str []) a_nil)) (l_fz (e_lst (a_cons (e_str []) a_nil)) l_nil))) (by with_unfolding_all rfl))
  (ss_cons (s_for (i_r2 V.f_range e_int e_int) (fun hN hC => (g_nm 7 hN)) (ss_cons (s_newL 8 a_nil)
  (ss_cons (s_for (i_seq (e_var 5)) (fun hN hC => (g_nm 9 hN)) (ss_one (s_ext 8 (e_lc (w_seq (PEv.bo (e_sl (PEv.bo (e_str [48, 49, 50, 51, 52, 53])) o_none (o_some (e_ix (b_var 2) (PEv.bo e_int)))))) (own := [("digit", 10)]) (by with_unfolding_all rfl) (by decide) (fun _ _ _ _ _ hN hC => (g_nm 10 hN)) (fun _ _ _ _ _ => ts_nil) (fun _ _ _ _ _ => (e_add (b_var 9) (b_var 10)))))))
  (ss_cons (s_frz 8 (s_par2 5 6 (l_fz (e_var 8) (l_fz (e_add (b_var 6) (b_var 8)) l_nil)) (by with_unfolding_all rfl)))
  (ss_one (s_if (t_ne (PEv.bo (e_callC g_all_rows (a_cons (e_var 2) (a_cons (e_var 7) a_nil)))) (b_var 5)) (ss_one (s_ret e_bl)) ss_nil))))))
  (ss_cons (s_if (t_not (t_val (e_callC g__law_is_listed (a_cons (e_var 2) (a_cons (e_var 4) (a_cons (e_add (PEv.bo (e_sl (b_var 6) o_none (o_some e_int))) (PEv.bo (e_lst (a_cons (e_callC g__law_row (a_cons (e_var 0) (a_cons (e_add (PEv.bo (e_mul (PEv.bo e_int) (b_var 1))) (PEv.bo e_int)) (a_cons (e_var 2) (a_cons e_int a_nil))))) a_nil)))) a_nil)))))) (ss_one (s_ret e_bl)) ss_nil)
  (ss_cons (s_par2 11 12 (l_fz (e_ix (PEv.bo (e_tup (a_cons (e_str [108, 111, 115, 116]) (a_cons (e_str [115, 119, 97, 112]) (a_cons (e_str [116, 119, 105, 99, 101]) (a_cons (e_str [119, 114, 111, 110, 103]) a_nil)))))) (PEv.bo (e_callC g__law_pick (a_cons (e_var 0) (a_cons (e_add (PEv.bo (e_mul (PEv.bo e_int) (b_var 1))) (PEv.bo e_int)) (a_cons e_int a_nil)))))) (l_lst a_nil l_nil)) (by with_unfolding_all rfl))
  (ss_cons (s_forD (e_var 4) (fun hN hC => (g_nm 13 hN)) (ss_one (s_for (i_seq (e_callC g__law_slips (a_cons (e_var 2) (a_cons (e_var 13) (a_cons (e_var 11) a_nil))))) (fun hN hC => (g_nm 9 hN)) (ss_cons (s_asg (e_callC g__law_reach (a_cons (e_var 4) (a_cons (e_var 9) a_nil))) (fun hN hC => g_nm 14 hN))
  (ss_one (s_ext 12 (e_if (PWv.t (w_and (t_isn (b_var 14) (PEv.bo e_non)) (w_and1 (t_ne (PEv.bo (e_ix (b_var 4) (b_var 14))) (PEv.bo (e_ix (b_var 4) (b_var 13))))))) (e_lst (a_cons (e_tup (a_cons (e_var 13) (a_cons (e_var 9) (a_cons (e_var 14) a_nil)))) a_nil)) (e_lst a_nil))))))))
  (ss_cons (s_if (PWv.t (w_or (t_ne (PEv.bo (e_callC g_naive_strays (a_cons (e_var 2) (a_cons (e_var 11) a_nil)))) (PEv.bo (e_sorted V.f_sorted (b_var 12)))) (w_or1 (t_ne (PEv.bo (e_callC g_strays (a_cons (e_var 2) (a_cons (e_var 11) a_nil)))) (PEv.bo (e_sorted V.f_sorted (b_var 12))))))) (ss_one (s_ret e_bl)) ss_nil)
  (ss_cons (s_asg (e_add (PEv.bo (e_sl (PEv.bo (e_ix (b_var 2) (PEv.bo e_int))) o_none (o_some e_neg))) (PEv.bo (e_tup (a_cons (e_tup (a_cons (e_ix (PEv.bo (e_ix (PEv.bo (e_ix (b_var 2) (PEv.bo e_int))) (PEv.bo e_neg))) (PEv.bo e_int)) (a_cons (e_str [100]) a_nil))) a_nil)))) (fun hN hC => g_nm 15 hN))
  (ss_cons (s_asg (e_tup (a_cons (e_ix (b_var 2) (PEv.bo e_int)) (a_cons (e_if (t_le (PEv.bo (e_ix (b_var 3) (PEv.bo e_int))) (PEv.bo (e_ix (b_var 2) (PEv.bo e_int)))) (e_ix (b_var 3) (PEv.bo e_int)) (e_var 15)) a_nil))) (fun hN hC => g_nm 3 hN))
  (ss_cons (s_asg (e_callC g__law_first (a_cons (e_var 2) (a_cons (e_var 3) (a_cons (e_var 6) a_nil)))) (fun hN hC => g_nm 16 hN))
  (ss_one (s_if (PWv.t (w_or (t_ne (PEv.bo (e_callC g_naive_parting (a_cons (e_var 2) (a_cons (e_var 3) (a_cons e_int a_nil))))) (b_var 16)) (w_or1 (t_ne (PEv.bo (e_callC g_parting_row (a_cons (e_var 2) (a_cons (e_var 3) a_nil)))) (b_var 16))))) (ss_one (s_ret e_bl)) ss_nil)))))))))))))
  (ss_cons (s_asg (e_tup (a_cons e_int (a_cons (e_tup (a_cons (e_tup (a_cons (e_str [48, 120]) (a_cons (e_str [97]) a_nil))) (a_cons (e_tup (a_cons (e_str [49, 50]) (a_cons (e_str [98]) a_nil))) (a_cons (e_tup (a_cons (e_str [50]) (a_cons (e_str [99]) a_nil))) a_nil)))) a_nil))) (fun hN hC => g_nm 2 hN))
  (ss_cons (s_asg (e_tup (a_cons e_int (a_cons (e_sl (PEv.bo (e_ix (b_var 2) (PEv.bo e_int))) o_none (o_some e_int)) a_nil))) (fun hN hC => g_nm 17 hN))
  (ss_cons (s_if (t_ne (PEv.bo (e_lc (PFv.w (i_r1 V.f_range e_int)) (own := [("size", 7)]) (by with_unfolding_all rfl) (by decide) (fun _ _ _ _ _ hN hC => (g_nm 7 hN)) (fun _ _ _ _ _ => ts_nil) (fun _ _ _ _ _ => (e_callC g_naive_parting (a_cons (e_var 2) (a_cons (e_var 17) (a_cons (e_var 7) a_nil))))))) (PEv.bo (e_lst (a_cons e_non (a_cons (e_str [50]) (a_cons (e_str [50]) a_nil)))))) (ss_one (s_ret e_bl)) ss_nil)
  (ss_cons (s_if (PWv.t (w_or (t_ne (PEv.bo (e_callC g_all_rows (a_cons (e_var 2) (a_cons e_int a_nil)))) (PEv.bo (e_lst (a_cons (e_str []) a_nil)))) (w_or1 (t_ne (PEv.bo (e_len V.f_len (PEv.bo (e_callC g_all_rows (a_cons (e_var 2) (a_cons e_int a_nil)))))) (PEv.bo e_int))))) (ss_one (s_ret e_bl)) ss_nil)
  (ss_one (s_ret (e_and (e_eq (PEv.bo (e_callC g_naive_hearing (a_cons (e_var 2) (a_cons (e_str [50]) a_nil)))) (PEv.bo (e_lst (a_cons (e_str [48, 50]) (a_cons (e_str [49, 50]) (a_cons (e_str [50]) a_nil)))))) (e_one (e_eq (PEv.bo (e_callC g_naive_reached (a_cons (e_var 2) (a_cons (e_str [50, 48, 49]) a_nil)))) (PEv.bo (e_str [50])))))))))))))
end
end Pv.W54

namespace Pv.W54
open PySem PySem.Spec L2
def d__law_owners : He.DefD := ⟨("_law_owners", none), "_law_owners", "_law_owners", defArgs (top 75), defBody (top 75), defScope (top 75), [], []⟩
def d__law_reach : He.DefD := ⟨("_law_reach", none), "_law_reach", "_law_reach", defArgs (top 74), defBody (top 74), defScope (top 74), [], []⟩
def d__law_first : He.DefD := ⟨("_law_first", none), "_law_first", "_law_first", defArgs (top 83), defBody (top 83), defScope (top 83), [], []⟩
def d__law_pick : He.DefD := ⟨("_law_pick", none), "_law_pick", "_law_pick", defArgs (top 76), defBody (top 76), defScope (top 76), [], []⟩
def d__law_agree : He.DefD := ⟨("_law_agree", none), "_law_agree", "_law_agree", defArgs (top 77), defBody (top 77), defScope (top 77), [], []⟩
def d__law_plan : He.DefD := ⟨("_law_plan", none), "_law_plan", "_law_plan", defArgs (top 78), defBody (top 78), defScope (top 78), [], []⟩
def d_agree : He.DefD := ⟨("agree", none), "agree", "agree", defArgs (top 22), defBody (top 22), defScope (top 22), [], []⟩
def d_are_apart : He.DefD := ⟨("are_apart", none), "are_apart", "are_apart", defArgs (top 23), defBody (top 23), defScope (top 23), [], []⟩
def d_is_int : He.DefD := ⟨("is_int", none), "is_int", "is_int", defArgs (top 18), defBody (top 18), defScope (top 18), [], []⟩
def d_count_numbers : He.DefD := ⟨("count_numbers", none), "count_numbers", "count_numbers", defArgs (top 24), defBody (top 24), defScope (top 24), [], []⟩
def d_is_word : He.DefD := ⟨("is_word", none), "is_word", "is_word", defArgs (top 19), defBody (top 19), defScope (top 19), [], []⟩
def d_is_entry : He.DefD := ⟨("is_entry", none), "is_entry", "is_entry", defArgs (top 21), defBody (top 21), defScope (top 21), [], []⟩
def d_is_plan : He.DefD := ⟨("is_plan", none), "is_plan", "is_plan", defArgs (top 25), defBody (top 25), defScope (top 25), [], []⟩
def d_check_plan : He.DefD := ⟨("check_plan", none), "check_plan", "check_plan", defArgs (top 26), defBody (top 26), defScope (top 26), [], []⟩
def d_digits_of : He.DefD := ⟨("digits_of", none), "digits_of", "digits_of", defArgs (top 20), defBody (top 20), defScope (top 20), [], []⟩
def d_has_row : He.DefD := ⟨("has_row", none), "has_row", "has_row", defArgs (top 29), defBody (top 29), defScope (top 29), [], []⟩
def d_check_row : He.DefD := ⟨("check_row", none), "check_row", "check_row", defArgs (top 30), defBody (top 30), defScope (top 30), [], []⟩
def d_listed_reached : He.DefD := ⟨("listed_reached", none), "listed_reached", "listed_reached", defArgs (top 63), defBody (top 63), defScope (top 63), [], []⟩
def d_numbers_of : He.DefD := ⟨("numbers_of", none), "numbers_of", "numbers_of", defArgs (top 27), defBody (top 27), defScope (top 27), [], []⟩
def d_find_holders : He.DefD := ⟨("find_holders", none), "find_holders", "find_holders", defArgs (top 28), defBody (top 28), defScope (top 28), [], []⟩
def d_naive_reached : He.DefD := ⟨("naive_reached", none), "naive_reached", "naive_reached", defArgs (top 64), defBody (top 64), defScope (top 64), [], []⟩
def d_read : He.DefD := ⟨("read", none), "read", "read", defArgs (top 34), defBody (top 34), defScope (top 34), [], []⟩
def d_find_beginnings : He.DefD := ⟨("find_beginnings", none), "find_beginnings", "find_beginnings", defArgs (top 32), defBody (top 32), defScope (top 32), [], []⟩
def d_find_index : He.DefD := ⟨("find_index", none), "find_index", "find_index", defArgs (top 33), defBody (top 33), defScope (top 33), [], []⟩
def d_reached : He.DefD := ⟨("reached", none), "reached", "reached", defArgs (top 35), defBody (top 35), defScope (top 35), [], []⟩
def d_all_left : He.DefD := ⟨("all_left", none), "all_left", "all_left", defArgs (top 66), defBody (top 66), defScope (top 66), [], []⟩
def d_naive_hearing : He.DefD := ⟨("naive_hearing", none), "naive_hearing", "naive_hearing", defArgs (top 67), defBody (top 67), defScope (top 67), [], []⟩
def d_is_left : He.DefD := ⟨("is_left", none), "is_left", "is_left", defArgs (top 70), defBody (top 70), defScope (top 70), [], []⟩
def d_find_hearing : He.DefD := ⟨("find_hearing", none), "find_hearing", "find_hearing", defArgs (top 71), defBody (top 71), defScope (top 71), [], []⟩
def d_hearing : He.DefD := ⟨("hearing", none), "hearing", "hearing", defArgs (top 72), defBody (top 72), defScope (top 72), [], []⟩
def d__law_heard : He.DefD := ⟨("_law_heard", none), "_law_heard", "_law_heard", defArgs (top 80), defBody (top 80), defScope (top 80), [], []⟩
def d__law_is_listed : He.DefD := ⟨("_law_is_listed", none), "_law_is_listed", "_law_is_listed", defArgs (top 82), defBody (top 82), defScope (top 82), [], []⟩
def d__law_slips : He.DefD := ⟨("_law_slips", none), "_law_slips", "_law_slips", defArgs (top 81), defBody (top 81), defScope (top 81), [], []⟩
def d_check_both : He.DefD := ⟨("check_both", none), "check_both", "check_both", defArgs (top 37), defBody (top 37), defScope (top 37), [], []⟩
def d_check_length : He.DefD := ⟨("check_length", none), "check_length", "check_length", defArgs (top 60), defBody (top 60), defScope (top 60), [], []⟩
def d_find_rows : He.DefD := ⟨("find_rows", none), "find_rows", "find_rows", defArgs (top 61), defBody (top 61), defScope (top 61), [], []⟩
def d_naive_parting : He.DefD := ⟨("naive_parting", none), "naive_parting", "naive_parting", defArgs (top 68), defBody (top 68), defScope (top 68), [], []⟩
def d_all_rows : He.DefD := ⟨("all_rows", none), "all_rows", "all_rows", defArgs (top 62), defBody (top 62), defScope (top 62), [], []⟩
def d_check_kind : He.DefD := ⟨("check_kind", none), "check_kind", "check_kind", defArgs (top 54), defBody (top 54), defScope (top 54), [], []⟩
def d_wrong_rows : He.DefD := ⟨("wrong_rows", none), "wrong_rows", "wrong_rows", defArgs (top 51), defBody (top 51), defScope (top 51), [], []⟩
def d_swapped_rows : He.DefD := ⟨("swapped_rows", none), "swapped_rows", "swapped_rows", defArgs (top 52), defBody (top 52), defScope (top 52), [], []⟩
def d_find_slips : He.DefD := ⟨("find_slips", none), "find_slips", "find_slips", defArgs (top 53), defBody (top 53), defScope (top 53), [], []⟩
def d_naive_strays : He.DefD := ⟨("naive_strays", none), "naive_strays", "naive_strays", defArgs (top 65), defBody (top 65), defScope (top 65), [], []⟩
def d_find_fate : He.DefD := ⟨("find_fate", none), "find_fate", "find_fate", defArgs (top 55), defBody (top 55), defScope (top 55), [], []⟩
def d_find_strays : He.DefD := ⟨("find_strays", none), "find_strays", "find_strays", defArgs (top 56), defBody (top 56), defScope (top 56), [], []⟩
def d_strays : He.DefD := ⟨("strays", none), "strays", "strays", defArgs (top 57), defBody (top 57), defScope (top 57), [], []⟩
def d_open_rows : He.DefD := ⟨("open_rows", none), "open_rows", "open_rows", defArgs (top 39), defBody (top 39), defScope (top 39), [], []⟩
def d_holder_reached : He.DefD := ⟨("holder_reached", none), "holder_reached", "holder_reached", defArgs (top 38), defBody (top 38), defScope (top 38), [], []⟩
def d_find_unlike : He.DefD := ⟨("find_unlike", none), "find_unlike", "find_unlike", defArgs (top 40), defBody (top 40), defScope (top 40), [], []⟩
def d_parting_row : He.DefD := ⟨("parting_row", none), "parting_row", "parting_row", defArgs (top 41), defBody (top 41), defScope (top 41), [], []⟩
def d__law_row : He.DefD := ⟨("_law_row", none), "_law_row", "_law_row", defArgs (top 79), defBody (top 79), defScope (top 79), [], []⟩
def d_law : He.DefD := ⟨("law", none), "law", "law", defArgs (top 84), defBody (top 84), defScope (top 84), [], []⟩
def fn : List He.DefD := [d__law_owners, d__law_reach, d__law_first, d__law_pick, d__law_agree, d__law_plan, d_agree, d_are_apart, d_is_int, d_count_numbers, d_is_word, d_is_entry, d_is_plan, d_check_plan, d_digits_of, d_has_row, d_check_row, d_listed_reached, d_numbers_of, d_find_holders, d_naive_reached, d_read, d_find_beginnings, d_find_index, d_reached, d_all_left, d_naive_hearing, d_is_left, d_find_hearing, d_hearing, d__law_heard, d__law_is_listed, d__law_slips, d_check_both, d_check_length, d_find_rows, d_naive_parting, d_all_rows, d_check_kind, d_wrong_rows, d_swapped_rows, d_find_slips, d_naive_strays, d_find_fate, d_find_strays, d_strays, d_open_rows, d_holder_reached, d_find_unlike, d_parting_row, d__law_row, d_law]
def fa : List He.Fa := [.glo "_law_owners", .glo "_law_reach", .glo "_law_first", .glo "_law_pick", .glo "_law_agree", .glo "_law_plan", .glo "agree", .glo "are_apart", .glo "is_int", .glo "count_numbers", .glo "is_word", .glo "is_entry", .glo "is_plan", .glo "check_plan", .glo "digits_of", .glo "has_row", .glo "check_row", .glo "listed_reached", .glo "numbers_of", .glo "find_holders", .glo "naive_reached", .glo "read", .glo "find_beginnings", .glo "find_index", .glo "reached", .glo "all_left", .glo "naive_hearing", .glo "is_left", .glo "find_hearing", .glo "hearing", .glo "_law_heard", .glo "_law_is_listed", .glo "_law_slips", .glo "check_both", .glo "check_length", .glo "find_rows", .glo "naive_parting", .glo "all_rows", .glo "check_kind", .glo "wrong_rows", .glo "swapped_rows", .glo "find_slips", .glo "naive_strays", .glo "find_fate", .glo "find_strays", .glo "strays", .glo "open_rows", .glo "holder_reached", .glo "find_unlike", .glo "parting_row", .glo "_law_row", .glo "law", .free "all", .free "any", .free "bool", .free "dict", .free "enumerate", .free "int", .free "isinstance", .free "len", .free "list", .free "max", .free "range", .free "set", .free "sorted", .free "str", .free "tuple", .free "zip", .str "ANY" "x", .str "ASTRAY" "astray", .str "DIGITS" "012345", .glo "KINDS", .str "LETTERS" "abcdefghijklmnopqrstuvwxyz", .str "LOST" "lost", .int "MAX_ENTRIES" 8, .int "MAX_HOLDER" 3, .int "MAX_LENGTH" 6, .int "MAX_NUMBERS" 200, .int "MAX_ROW" 12, .int "MAX_ROWS" 800, .int "MAX_SIZE" 6, .str "NOTICED" "noticed", .str "SAME" "same", .str "SWAP" "swap", .str "WRONG" "wrong", .glo "DialError", .exc "DialError", .glo "InvalidPlan", .exc "InvalidPlan", .glo "InvalidRow", .exc "InvalidRow", .glo "InvalidKind", .exc "InvalidKind", .glo "TooLarge", .exc "TooLarge", .glo "OtherSize", .exc "OtherSize", .glo "InvalidLength", .exc "InvalidLength"]
abbrev R : PySem.W.OpenRow := PySem.W.OpenLaw.row PySem.Challenge.rw_dialslips_k54_whole_listed
def exT (K : PySem.W.Frag) : Bool := exB excs isa K && He.tupB K "KINDS" [He.Dv.str (tx [108, 111, 115, 116]), He.Dv.str (tx [115, 119, 97, 112]), He.Dv.str (tx [116, 119, 105, 99, 101]), He.Dv.str (tx [119, 114, 111, 110, 103])]
theorem exT_ex {K : PySem.W.Frag} (h : exT K = true) : exB excs isa K = true := by
  unfold exT at h
  simp only [Bool.and_eq_true] at h
  exact h.1
theorem exT_KINDS {K : PySem.W.Frag} (h : exT K = true) : He.tupB K "KINDS" [He.Dv.str (tx [108, 111, 115, 116]), He.Dv.str (tx [115, 119, 97, 112]), He.Dv.str (tx [116, 119, 105, 99, 101]), He.Dv.str (tx [119, 114, 111, 110, 103])] = true := by
  unfold exT at h
  simp only [Bool.and_eq_true] at h
  exact h.2
abbrev hk : PySem.W.Hook := hookE 4 fa fn (exT)
def ob (s : PySem.W.SharedT) : AlE := obsE 4 fa fn (exT) (HandSHeadRun.getT s)
theorem ob_eq (s : PySem.W.SharedT) : ob s = hk.obs s.abs := obsE_eq (HandSHeadRun.getT_eq s)
abbrev loo : List Str := (["DialError", "InvalidPlan", "InvalidRow", "InvalidKind", "TooLarge", "OtherSize", "InvalidLength", "DIGITS", "LETTERS", "ANY", "MAX_SIZE", "MAX_LENGTH", "MAX_ENTRIES", "MAX_HOLDER", "MAX_NUMBERS", "MAX_ROW", "is_int", "is_word", "digits_of", "is_entry"] : List Str) ++ (["agree", "are_apart", "count_numbers", "is_plan", "check_plan", "numbers_of", "find_holders", "has_row", "check_row", "find_beginnings", "find_index", "read", "reached", "check_both", "holder_reached", "open_rows", "find_unlike", "parting_row", "LOST", "SWAP"] : List Str) ++ (["TWICE", "WRONG", "KINDS", "ASTRAY", "SAME", "NOTICED", "wrong_rows", "swapped_rows", "find_slips", "check_kind", "find_fate", "find_strays", "strays", "MAX_ROWS", "check_length", "find_rows", "all_rows", "listed_reached", "naive_reached", "naive_strays"] : List Str) ++ (["all_left", "naive_hearing", "naive_parting", "is_left", "find_hearing", "hearing", "_law_reach", "_law_owners", "_law_pick", "_law_agree", "_law_plan", "_law_row", "_law_heard", "_law_slips", "_law_is_listed", "_law_first"] : List Str)
theorem run (w : World) : HandSHeadRun.RunEq R (PySem.W.view R.prog [84]) hk ob 4000 loo w := by
  intro os
  kernel_rfl
theorem vx {K : PySem.W.Frag} {h : Heap} {mg : Str → Option Value} (X : K.In h) (G : h.Ns mainGlobals mg) (c : He.SaysD fa fn K) (ex : exT K = true) : Vx K mg := by
  obtain ⟨e1, e2, e3⟩ := exB_ok (exT_ex ex)
  refine ⟨He.free_ok X G (c.fact 52 (f := .free "all") rfl), He.free_ok X G (c.fact 53 (f := .free "any") rfl), He.free_ok X G (c.fact 54 (f := .free "bool") rfl), He.free_ok X G (c.fact 55 (f := .free "dict") rfl), He.free_ok X G (c.fact 56 (f := .free "enumerate") rfl), He.free_ok X G (c.fact 57 (f := .free "int") rfl), He.free_ok X G (c.fact 58 (f := .free "isinstance") rfl), He.free_ok X G (c.fact 59 (f := .free "len") rfl), He.free_ok X G (c.fact 60 (f := .free "list") rfl), He.free_ok X G (c.fact 61 (f := .free "max") rfl), He.free_ok X G (c.fact 62 (f := .free "range") rfl), He.free_ok X G (c.fact 63 (f := .free "set") rfl), He.free_ok X G (c.fact 64 (f := .free "sorted") rfl), He.free_ok X G (c.fact 65 (f := .free "str") rfl), He.free_ok X G (c.fact 66 (f := .free "tuple") rfl), He.free_ok X G (c.fact 67 (f := .free "zip") rfl), He.str_ok X G (c.fact 68 (f := .str "ANY" "x") rfl), He.str_ok X G (c.fact 69 (f := .str "ASTRAY" "astray") rfl), He.str_ok X G (c.fact 70 (f := .str "DIGITS" "012345") rfl), He.glo_ok X G (c.fact 71 (f := .glo "KINDS") rfl), gtup [[108, 111, 115, 116], [115, 119, 97, 112], [116, 119, 105, 99, 101], [119, 114, 111, 110, 103]] (exT_KINDS ex) (by decide) (by decide), He.str_ok X G (c.fact 72 (f := .str "LETTERS" "abcdefghijklmnopqrstuvwxyz") rfl), He.str_ok X G (c.fact 73 (f := .str "LOST" "lost") rfl), He.int_ok X G (c.fact 74 (f := .int "MAX_ENTRIES" 8) rfl), He.int_ok X G (c.fact 75 (f := .int "MAX_HOLDER" 3) rfl), He.int_ok X G (c.fact 76 (f := .int "MAX_LENGTH" 6) rfl), He.int_ok X G (c.fact 77 (f := .int "MAX_NUMBERS" 200) rfl), He.int_ok X G (c.fact 78 (f := .int "MAX_ROW" 12) rfl), He.int_ok X G (c.fact 79 (f := .int "MAX_ROWS" 800) rfl), He.int_ok X G (c.fact 80 (f := .int "MAX_SIZE" 6) rfl), He.str_ok X G (c.fact 81 (f := .str "NOTICED" "noticed") rfl), He.str_ok X G (c.fact 82 (f := .str "SAME" "same") rfl), He.str_ok X G (c.fact 83 (f := .str "SWAP" "swap") rfl), He.str_ok X G (c.fact 84 (f := .str "WRONG" "wrong") rfl), He.glo_ok X G (c.fact 85 (f := .glo "DialError") rfl), He.exc_ok (c.fact 86 (f := .exc "DialError") rfl), He.glo_ok X G (c.fact 87 (f := .glo "InvalidPlan") rfl), He.exc_ok (c.fact 88 (f := .exc "InvalidPlan") rfl), He.glo_ok X G (c.fact 89 (f := .glo "InvalidRow") rfl), He.exc_ok (c.fact 90 (f := .exc "InvalidRow") rfl), He.glo_ok X G (c.fact 91 (f := .glo "InvalidKind") rfl), He.exc_ok (c.fact 92 (f := .exc "InvalidKind") rfl), He.glo_ok X G (c.fact 93 (f := .glo "TooLarge") rfl), He.exc_ok (c.fact 94 (f := .exc "TooLarge") rfl), He.glo_ok X G (c.fact 95 (f := .glo "OtherSize") rfl), He.exc_ok (c.fact 96 (f := .exc "OtherSize") rfl), He.glo_ok X G (c.fact 97 (f := .glo "InvalidLength") rfl), He.exc_ok (c.fact 98 (f := .exc "InvalidLength") rfl), fun c b hc => ?_, e1, e2⟩
  unfold catE at hc
  split at hc
  · rename_i z
    cases hc
    exact e3 c z "DialError" (by decide)
  · cases hc
theorem facts {P : Program} {w : World} {K : PySem.W.Frag} {h base : Heap} {mg : Str → Option Value} {f : Addr} {fd : FuncData} (X : K.In h) (G : h.Ns mainGlobals mg) (c : He.SaysD fa fn K) (ex : exT K = true) (F : FnP K "law" (top 84) f fd) : FnOk P w K mg base (L2.CX P w) 11 f fd ["script"] (spF K (ctK K) Fn_law) := by
  have V := vx X G c ex
  obtain ⟨fd_0, F_0⟩ := c.def_ 0 (d := d__law_owners) rfl
  have g__law_owners := ok__law_owners (P := P) (w := w) (base := base) V  F_0 (He.glo_ok X G (c.fact 0 (f := .glo "_law_owners") rfl))
  obtain ⟨fd_1, F_1⟩ := c.def_ 1 (d := d__law_reach) rfl
  have g__law_reach := ok__law_reach (P := P) (w := w) (base := base) V  F_1 (He.glo_ok X G (c.fact 1 (f := .glo "_law_reach") rfl))
  obtain ⟨fd_2, F_2⟩ := c.def_ 2 (d := d__law_first) rfl
  have g__law_first := ok__law_first (P := P) (w := w) (base := base) V g__law_owners g__law_reach F_2 (He.glo_ok X G (c.fact 2 (f := .glo "_law_first") rfl))
  obtain ⟨fd_3, F_3⟩ := c.def_ 3 (d := d__law_pick) rfl
  have g__law_pick := ok__law_pick (P := P) (w := w) (base := base) V  F_3 (He.glo_ok X G (c.fact 3 (f := .glo "_law_pick") rfl))
  obtain ⟨fd_4, F_4⟩ := c.def_ 4 (d := d__law_agree) rfl
  have g__law_agree := ok__law_agree (P := P) (w := w) (base := base) V  F_4 (He.glo_ok X G (c.fact 4 (f := .glo "_law_agree") rfl))
  obtain ⟨fd_5, F_5⟩ := c.def_ 5 (d := d__law_plan) rfl
  have g__law_plan := ok__law_plan (P := P) (w := w) (base := base) V g__law_agree g__law_pick F_5 (He.glo_ok X G (c.fact 5 (f := .glo "_law_plan") rfl))
  obtain ⟨fd_6, F_6⟩ := c.def_ 6 (d := d_agree) rfl
  have g_agree := ok_agree (P := P) (w := w) (base := base) V  F_6 (He.glo_ok X G (c.fact 6 (f := .glo "agree") rfl))
  obtain ⟨fd_7, F_7⟩ := c.def_ 7 (d := d_are_apart) rfl
  have g_are_apart := ok_are_apart (P := P) (w := w) (base := base) V g_agree F_7 (He.glo_ok X G (c.fact 7 (f := .glo "are_apart") rfl))
  obtain ⟨fd_8, F_8⟩ := c.def_ 8 (d := d_is_int) rfl
  have g_is_int := ok_is_int (P := P) (w := w) (base := base) V  F_8 (He.glo_ok X G (c.fact 8 (f := .glo "is_int") rfl))
  obtain ⟨fd_9, F_9⟩ := c.def_ 9 (d := d_count_numbers) rfl
  have g_count_numbers := ok_count_numbers (P := P) (w := w) (base := base) V  F_9 (He.glo_ok X G (c.fact 9 (f := .glo "count_numbers") rfl))
  obtain ⟨fd_10, F_10⟩ := c.def_ 10 (d := d_is_word) rfl
  have g_is_word := ok_is_word (P := P) (w := w) (base := base) V  F_10 (He.glo_ok X G (c.fact 10 (f := .glo "is_word") rfl))
  obtain ⟨fd_11, F_11⟩ := c.def_ 11 (d := d_is_entry) rfl
  have g_is_entry := ok_is_entry (P := P) (w := w) (base := base) V g_is_word F_11 (He.glo_ok X G (c.fact 11 (f := .glo "is_entry") rfl))
  obtain ⟨fd_12, F_12⟩ := c.def_ 12 (d := d_is_plan) rfl
  have g_is_plan := ok_is_plan (P := P) (w := w) (base := base) V g_are_apart g_count_numbers g_is_entry g_is_int F_12 (He.glo_ok X G (c.fact 12 (f := .glo "is_plan") rfl))
  obtain ⟨fd_13, F_13⟩ := c.def_ 13 (d := d_check_plan) rfl
  have g_check_plan := ok_check_plan (P := P) (w := w) (base := base) V g_is_plan F_13 (He.glo_ok X G (c.fact 13 (f := .glo "check_plan") rfl))
  obtain ⟨fd_14, F_14⟩ := c.def_ 14 (d := d_digits_of) rfl
  have g_digits_of := ok_digits_of (P := P) (w := w) (base := base) V  F_14 (He.glo_ok X G (c.fact 14 (f := .glo "digits_of") rfl))
  obtain ⟨fd_15, F_15⟩ := c.def_ 15 (d := d_has_row) rfl
  have g_has_row := ok_has_row (P := P) (w := w) (base := base) V g_digits_of g_is_word F_15 (He.glo_ok X G (c.fact 15 (f := .glo "has_row") rfl))
  obtain ⟨fd_16, F_16⟩ := c.def_ 16 (d := d_check_row) rfl
  have g_check_row := ok_check_row (P := P) (w := w) (base := base) V g_check_plan g_has_row F_16 (He.glo_ok X G (c.fact 16 (f := .glo "check_row") rfl))
  obtain ⟨fd_17, F_17⟩ := c.def_ 17 (d := d_listed_reached) rfl
  have g_listed_reached := ok_listed_reached (P := P) (w := w) (base := base) V  F_17 (He.glo_ok X G (c.fact 17 (f := .glo "listed_reached") rfl))
  obtain ⟨fd_18, F_18⟩ := c.def_ 18 (d := d_numbers_of) rfl
  have g_numbers_of := ok_numbers_of (P := P) (w := w) (base := base) V g_digits_of F_18 (He.glo_ok X G (c.fact 18 (f := .glo "numbers_of") rfl))
  obtain ⟨fd_19, F_19⟩ := c.def_ 19 (d := d_find_holders) rfl
  have g_find_holders := ok_find_holders (P := P) (w := w) (base := base) V g_numbers_of F_19 (He.glo_ok X G (c.fact 19 (f := .glo "find_holders") rfl))
  obtain ⟨fd_20, F_20⟩ := c.def_ 20 (d := d_naive_reached) rfl
  have g_naive_reached := ok_naive_reached (P := P) (w := w) (base := base) V g_check_row g_find_holders g_listed_reached F_20 (He.glo_ok X G (c.fact 20 (f := .glo "naive_reached") rfl))
  obtain ⟨fd_21, F_21⟩ := c.def_ 21 (d := d_read) rfl
  have g_read := ok_read (P := P) (w := w) (base := base) V  F_21 (He.glo_ok X G (c.fact 21 (f := .glo "read") rfl))
  obtain ⟨fd_22, F_22⟩ := c.def_ 22 (d := d_find_beginnings) rfl
  have g_find_beginnings := ok_find_beginnings (P := P) (w := w) (base := base) V  F_22 (He.glo_ok X G (c.fact 22 (f := .glo "find_beginnings") rfl))
  obtain ⟨fd_23, F_23⟩ := c.def_ 23 (d := d_find_index) rfl
  have g_find_index := ok_find_index (P := P) (w := w) (base := base) V g_find_beginnings g_find_holders F_23 (He.glo_ok X G (c.fact 23 (f := .glo "find_index") rfl))
  obtain ⟨fd_24, F_24⟩ := c.def_ 24 (d := d_reached) rfl
  have g_reached := ok_reached (P := P) (w := w) (base := base) V g_check_row g_find_index g_read F_24 (He.glo_ok X G (c.fact 24 (f := .glo "reached") rfl))
  obtain ⟨fd_25, F_25⟩ := c.def_ 25 (d := d_all_left) rfl
  have g_all_left := ok_all_left (P := P) (w := w) (base := base) V  F_25 (He.glo_ok X G (c.fact 25 (f := .glo "all_left") rfl))
  obtain ⟨fd_26, F_26⟩ := c.def_ 26 (d := d_naive_hearing) rfl
  have g_naive_hearing := ok_naive_hearing (P := P) (w := w) (base := base) V g_all_left g_check_row g_find_holders F_26 (He.glo_ok X G (c.fact 26 (f := .glo "naive_hearing") rfl))
  obtain ⟨fd_27, F_27⟩ := c.def_ 27 (d := d_is_left) rfl
  have g_is_left := ok_is_left (P := P) (w := w) (base := base) V  F_27 (He.glo_ok X G (c.fact 27 (f := .glo "is_left") rfl))
  obtain ⟨fd_28, F_28⟩ := c.def_ 28 (d := d_find_hearing) rfl
  have g_find_hearing := ok_find_hearing (P := P) (w := w) (base := base) V g_is_left F_28 (He.glo_ok X G (c.fact 28 (f := .glo "find_hearing") rfl))
  obtain ⟨fd_29, F_29⟩ := c.def_ 29 (d := d_hearing) rfl
  have g_hearing := ok_hearing (P := P) (w := w) (base := base) V g_check_row g_find_hearing g_find_holders F_29 (He.glo_ok X G (c.fact 29 (f := .glo "hearing") rfl))
  obtain ⟨fd_30, F_30⟩ := c.def_ 30 (d := d__law_heard) rfl
  have g__law_heard := ok__law_heard (P := P) (w := w) (base := base) V  F_30 (He.glo_ok X G (c.fact 30 (f := .glo "_law_heard") rfl))
  obtain ⟨fd_31, F_31⟩ := c.def_ 31 (d := d__law_is_listed) rfl
  have g__law_is_listed := ok__law_is_listed (P := P) (w := w) (base := base) V g__law_heard g__law_reach g_hearing g_naive_hearing g_naive_reached g_reached F_31 (He.glo_ok X G (c.fact 31 (f := .glo "_law_is_listed") rfl))
  obtain ⟨fd_32, F_32⟩ := c.def_ 32 (d := d__law_slips) rfl
  have g__law_slips := ok__law_slips (P := P) (w := w) (base := base) V  F_32 (He.glo_ok X G (c.fact 32 (f := .glo "_law_slips") rfl))
  obtain ⟨fd_33, F_33⟩ := c.def_ 33 (d := d_check_both) rfl
  have g_check_both := ok_check_both (P := P) (w := w) (base := base) V g_check_plan F_33 (He.glo_ok X G (c.fact 33 (f := .glo "check_both") rfl))
  obtain ⟨fd_34, F_34⟩ := c.def_ 34 (d := d_check_length) rfl
  have g_check_length := ok_check_length (P := P) (w := w) (base := base) V g_is_int F_34 (He.glo_ok X G (c.fact 34 (f := .glo "check_length") rfl))
  obtain ⟨fd_35, F_35⟩ := c.def_ 35 (d := d_find_rows) rfl
  have g_find_rows := ok_find_rows (P := P) (w := w) (base := base) V g_digits_of F_35 (He.glo_ok X G (c.fact 35 (f := .glo "find_rows") rfl))
  obtain ⟨fd_36, F_36⟩ := c.def_ 36 (d := d_naive_parting) rfl
  have g_naive_parting := ok_naive_parting (P := P) (w := w) (base := base) V g_check_both g_check_length g_find_holders g_find_rows g_listed_reached F_36 (He.glo_ok X G (c.fact 36 (f := .glo "naive_parting") rfl))
  obtain ⟨fd_37, F_37⟩ := c.def_ 37 (d := d_all_rows) rfl
  have g_all_rows := ok_all_rows (P := P) (w := w) (base := base) V g_check_length g_check_plan g_find_rows F_37 (He.glo_ok X G (c.fact 37 (f := .glo "all_rows") rfl))
  obtain ⟨fd_38, F_38⟩ := c.def_ 38 (d := d_check_kind) rfl
  have g_check_kind := ok_check_kind (P := P) (w := w) (base := base) V  F_38 (He.glo_ok X G (c.fact 38 (f := .glo "check_kind") rfl))
  obtain ⟨fd_39, F_39⟩ := c.def_ 39 (d := d_wrong_rows) rfl
  have g_wrong_rows := ok_wrong_rows (P := P) (w := w) (base := base) V  F_39 (He.glo_ok X G (c.fact 39 (f := .glo "wrong_rows") rfl))
  obtain ⟨fd_40, F_40⟩ := c.def_ 40 (d := d_swapped_rows) rfl
  have g_swapped_rows := ok_swapped_rows (P := P) (w := w) (base := base) V  F_40 (He.glo_ok X G (c.fact 40 (f := .glo "swapped_rows") rfl))
  obtain ⟨fd_41, F_41⟩ := c.def_ 41 (d := d_find_slips) rfl
  have g_find_slips := ok_find_slips (P := P) (w := w) (base := base) V g_digits_of g_swapped_rows g_wrong_rows F_41 (He.glo_ok X G (c.fact 41 (f := .glo "find_slips") rfl))
  obtain ⟨fd_42, F_42⟩ := c.def_ 42 (d := d_naive_strays) rfl
  have g_naive_strays := ok_naive_strays (P := P) (w := w) (base := base) V g_check_kind g_check_plan g_find_holders g_find_slips g_listed_reached F_42 (He.glo_ok X G (c.fact 42 (f := .glo "naive_strays") rfl))
  obtain ⟨fd_43, F_43⟩ := c.def_ 43 (d := d_find_fate) rfl
  have g_find_fate := ok_find_fate (P := P) (w := w) (base := base) V g_read F_43 (He.glo_ok X G (c.fact 43 (f := .glo "find_fate") rfl))
  obtain ⟨fd_44, F_44⟩ := c.def_ 44 (d := d_find_strays) rfl
  have g_find_strays := ok_find_strays (P := P) (w := w) (base := base) V g_find_fate g_find_index g_find_slips g_read F_44 (He.glo_ok X G (c.fact 44 (f := .glo "find_strays") rfl))
  obtain ⟨fd_45, F_45⟩ := c.def_ 45 (d := d_strays) rfl
  have g_strays := ok_strays (P := P) (w := w) (base := base) V g_check_kind g_check_plan g_find_strays F_45 (He.glo_ok X G (c.fact 45 (f := .glo "strays") rfl))
  obtain ⟨fd_46, F_46⟩ := c.def_ 46 (d := d_open_rows) rfl
  have g_open_rows := ok_open_rows (P := P) (w := w) (base := base) V g_digits_of g_find_index F_46 (He.glo_ok X G (c.fact 46 (f := .glo "open_rows") rfl))
  obtain ⟨fd_47, F_47⟩ := c.def_ 47 (d := d_holder_reached) rfl
  have g_holder_reached := ok_holder_reached (P := P) (w := w) (base := base) V g_read F_47 (He.glo_ok X G (c.fact 47 (f := .glo "holder_reached") rfl))
  obtain ⟨fd_48, F_48⟩ := c.def_ 48 (d := d_find_unlike) rfl
  have g_find_unlike := ok_find_unlike (P := P) (w := w) (base := base) V g_find_index g_holder_reached g_open_rows F_48 (He.glo_ok X G (c.fact 48 (f := .glo "find_unlike") rfl))
  obtain ⟨fd_49, F_49⟩ := c.def_ 49 (d := d_parting_row) rfl
  have g_parting_row := ok_parting_row (P := P) (w := w) (base := base) V g_check_both g_find_unlike F_49 (He.glo_ok X G (c.fact 49 (f := .glo "parting_row") rfl))
  obtain ⟨fd_50, F_50⟩ := c.def_ 50 (d := d__law_row) rfl
  have g__law_row := ok__law_row (P := P) (w := w) (base := base) V g__law_pick F_50 (He.glo_ok X G (c.fact 50 (f := .glo "_law_row") rfl))
  exact ok_law V g__law_first g__law_is_listed g__law_owners g__law_pick g__law_plan g__law_reach g__law_row g__law_slips g_all_rows g_naive_hearing g_naive_parting g_naive_reached g_naive_strays g_parting_row g_strays F
end Pv.W54
open PySem PySem.W PySem.Calls PyProof.Rows
theorem Pv.W54.holds (math : ∀ ns : List Int, ns.length ≤ 63 → Pv.W54.Fn_law [.lst (ns.map Pv.D.int)] = .ok (.bl true)) : PySem.Challenge.rw_dialslips_k54_whole_listed.Holds := by
  w_on; o_law
  refine HandSHeadRun.head_any (r := OpenLaw.row PySem.Challenge.rw_dialslips_k54_whole_listed) (q := view (OpenLaw.row PySem.Challenge.rw_dialslips_k54_whole_listed).prog [84]) (H := Pv.W54.hk) (ob := Pv.W54.ob) (M := 4000) (loose := Pv.W54.loo) (d := HandSHeadRun.topDef (OpenLaw.row PySem.Challenge.rw_dialslips_k54_whole_listed).prog 84) (kwd := []) Pv.W54.ob_eq
    (by kernel_rfl) (fun s => by kernel_rfl) Pv.W54.run (by kernel_rfl) (by kernel_rfl) (by kernel_rfl) (by rfl) (by first | assumption | decide +kernel) (by decide +kernel) ⟨rfl, rfl, rfl, rfl, rfl, by decide +kernel⟩ ?hw ?hc
  case hw => w_witness2
  case hc =>
    refine Pv.walk_ofX (l := PySem.Challenge.rw_dialslips_k54_whole_listed) (n := 63) (k := 11) (x := "script") rfl (by decide) (by kernel_rfl) ⟨rfl, by decide, by decide⟩ ?F
    intro w mg fa h Y G hmg0
    obtain ⟨K, KX, c, ex⟩ := Y
    have hmg : mg ("law" : PySem.Str) = some (.ref fa) := by
      have e : (HandSHeadRun.topDef (OpenLaw.row PySem.Challenge.rw_dialslips_k54_whole_listed).prog 84).name = ("law" : PySem.Str) := by kernel_rfl
      rw [← e]
      exact hmg0
    obtain ⟨fd, F⟩ := c.def_ 51 (d := Pv.W54.d_law) rfl
    have e := hmg.symm.trans (He.glo_ok KX G (c.fact 51 (f := .glo "law") rfl))
    cases e
    have b := L2.FunD.bindsA (ps := ["script"]) F fun _ _ _ _ _ _ us hl => match us, hl with | [_], _ => rfl
    exact ⟨K, fd, Pv.spF K (Pv.ctK K) Pv.W54.Fn_law, KX, fun s v => b s [v] rfl, fun H a ns hl hO hS => Pv.law_sp (Pv.exB_noL (Pv.W54.exT_ex ex)) hO hS (Nat.le_trans hl (by decide)) (math ns hl), fun base _ _ => Pv.W54.facts KX G c ex F⟩

theorem PySem.Challenge.cw_dialslips_k54_whole_listed_holds : PySem.Challenge.rw_dialslips_k54_whole_listed.Holds := by
  exact Pv.W54.holds Pv.W54.math
